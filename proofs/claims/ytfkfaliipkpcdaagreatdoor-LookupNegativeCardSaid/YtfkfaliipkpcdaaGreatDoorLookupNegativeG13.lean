/- The order of any records; what is sorted stably and made compact is what the reference Ux. -/
import Derived.Test.YtfkfaliipkpcdaaGreatDoorLookupNegativeG12
import Derived.Test.YtfkfaliipkpcdaaGreatDoorLookupNegativeG9
import Derived.Test.YtfkfaliipkpcdaaGreatDoorLookupNegativeG11
open Bool renaming eq_false_or_eq_true→Aq,and_eq_true→Aw,false_eq_true→Ad,or_eq_true→An,not_eq_true'→A8,eq_iff_iff→Cp
open Int renaming le_refl→Jl9
open List renaming getElem?_eq_some_iff→Av,length_append→Ay,getElem?_eq_getElem→Ab,mem_cons→Am,length_take→Ap,length_cons→As,append_assoc→A0,getElem?_append_right→A4,pairwise_cons→A5,getElem?_drop→A6,length_nil→A9,getElem?_append_left→Bj,mem_of_getElem?→Bv,length_pos_iff→Bw,eq_nil_of_length_eq_zero→Bc,mem_filter→Bf,mem_append→Bn,take_append_drop→Bp,mem_append_right→Br,length_drop→B3,cons_append→B9,nil_append→Cv,take_add_one→Cw,drop_eq_getElem_cons→Cz,drop_drop→Cm,getElem?_of_mem→C4,take_length→C7,getElem?_set→C8,getElem_mem→Dy,mem_map→Dd,append_nil→Dp,take_of_length_le→Dr,filter_append→Ds,getElem?_cons_succ→D6,drop_zero→D7,length_map→Ey,filter_cons_of_pos→E1,pairwise_append→E4,count_cons_of_ne→F0,map_cons→F2,mem_of_mem_take→Gb,count_cons_self→Gc,filter_eq_nil_iff→G2,length_set→Hk,mem_of_mem_drop→Ib,getLast_eq_getElem→I2,drop_of_length_le→J0,filter_cons→Kp,set_append_right→Ln,pairwise_iff_getElem→M0,drop_set_of_lt→Q6,getElem_take→qt,take_take→Ap3,getElem?_set_ne→Ap5,map_mergeSort→Ip1,findIdx?_cons→Ip2,count_eq_zero→Ip3
open Nat renaming le_refl→Af,mul_le_mul_right→Bb,add_mul→Cj,le_trans→C6,add_zero→Dv,min_eq_left→Jx,add_sub_cancel→K1,sub_self→Dr6,add_comm→Dr7
set_option maxHeartbeats 1000000
set_option linter.unusedVariables false
set_option linter.unusedSimpArgs false
namespace Go.X.G
open Go Go.X
def Gr5 (t:Int) (d:Dat):Int×List UInt8:=if Ew t d=true then (0,J3 t d) else (1,[])
abbrev ltD:Int×List UInt8→Int×List UInt8→Prop:=fun p q=>p.1<q.1∨(p.1=q.1∧ltB p.2 q.2)
theorem Jm7:TO ltD:=Hf7.prod Dr2
theorem Em9 (t:Int) (a b:Dat):En0 t a b<0↔ltD (Gr5 t a) (Gr5 t b):=by unfold En0 Gr5 ltD;rcases Aq (Ew t a) with h1|h1<;>rcases Aq (Ew t b) with h2|h2<;>simp [h1,h2,Rc,Dr2.irr]
theorem Cv7 (t:Int) (a b:Dat):En0 t a b=0↔Gr5 t a=Gr5 t b:=by unfold En0 Gr5;rcases Aq (Ew t a) with h1|h1<;>rcases Aq (Ew t b) with h2|h2<;>simp [h1,h2,Im]
abbrev Im6:=List UInt8×Int×Int×List UInt8
abbrev ltF:Im6→Im6→Prop:=fun p q=>ltN p.1 q.1∨(p.1=q.1∧(p.2.1<q.2.1∨(p.2.1=q.2.1∧ltD p.2.2 q.2.2)))
theorem to_F:TO ltF:=to_N.prod (Hf7.prod Jm7)
def Fs (r:Rec):Im6:=(r.name,r.typ,Gr5 r.typ r.data)
theorem Y3 (a b:Rec):Uq a b<0↔ltF (Fs a) (Fs b):=by
 unfold Uq ltF Fs;simp only;by_cases h1:Jf a.name b.name=0
 ·rw [if_neg (by simp [h1])];have e1:=Hs.1 h1;have n1:¬ltN a.name b.name:=by rw [e1];exact to_N.irr _
  by_cases h2:zj a.typ b.typ=0
  ·rw [if_neg (by simp [h2])];have e2:=(Ht _ _).1 h2;rw [e2,Em9];constructor
   ·intro h;exact .inr ⟨e1, .inr ⟨rfl,h⟩⟩
   ·rintro (h|⟨_,h|⟨_,h⟩⟩)
    ·exact absurd h n1
    ·omega
    ·exact h
  ·rw [if_pos h2,Y2];have e2:a.typ≠b.typ:=fun e=>h2 ((Ht _ _).2 e);constructor
   ·intro h;exact .inr ⟨e1, .inl h⟩
   ·rintro (h|⟨_,h|⟨h,_⟩⟩)
    ·exact absurd h n1
    ·exact h
    ·exact absurd h e2
 ·rw [if_pos h1,Fz];have e1:a.name≠b.name:=fun e=>h1 (Hs.2 e);constructor
  ·intro h;exact .inl h
  ·rintro (h|⟨h,_⟩)
   ·exact h
   ·exact absurd h e1
theorem Mz (a b:Rec):Uq a b=0↔Fs a=Fs b:=by
 unfold Uq Fs;by_cases h1:Jf a.name b.name=0
 ·rw [if_neg (by simp [h1])];have e1:=Hs.1 h1;by_cases h2:zj a.typ b.typ=0
  ·rw [if_neg (by simp [h2])];have e2:=(Ht _ _).1 h2;rw [e2,Cv7];simp [e1]
  ·rw [if_pos h2];have e2:a.typ≠b.typ:=fun e=>h2 ((Ht _ _).2 e);constructor
   ·intro h;exact absurd h h2
   ·intro h;injection h with _ h;injection h with h _;exact absurd h e2
 ·rw [if_pos h1];have e1:a.name≠b.name:=fun e=>h1 (Hs.2 e);constructor
  ·intro h;exact absurd h h1
  ·intro h;injection h with h _;exact absurd h e1
def Gs2 (a b:Rec):Int:=if Uq a b≠0 then Uq a b else zj a.ttl b.ttl
abbrev ltT:Im6×Int→Im6×Int→Prop:=fun p q=>ltF p.1 q.1∨(p.1=q.1∧p.2<q.2)
theorem to_T:TO ltT:=to_F.prod Hf7
theorem Em8 (a b:Rec):Gs2 a b<0↔ltT (Fs a,a.ttl) (Fs b,b.ttl):=by
 unfold Gs2;by_cases h:Uq a b=0
 ·have e:=(Mz a b).1 h;rw [if_neg (by simp [h]),Y2];simp only [ltT,e,true_and];exact ⟨.inr,fun q=>q.resolve_left (to_F.irr _)⟩
 ·rw [if_pos h,Y3];have e:Fs a≠Fs b:=fun e=>h ((Mz a b).2 e);simp only [ltT,e,false_and,or_false]
def leR (a b:Rec):Bool:= !decide (Gs2 b a<0)
theorem M8 (a b:Rec):leR a b=true↔¬ltT (Fs b,b.ttl) (Fs a,a.ttl):=by unfold leR;simp [←Em8]
theorem Im8:TP leR where
 tr:=fun a b c h1 h2=>by rw [M8] at*;exact to_T.ntr h2 h1
 tot:=fun a b=>by
  simp only [M8];rcases to_T.tri (Fs a,a.ttl) (Fs b,b.ttl) with h|h|h
  ·exact .inl (to_T.asym h)
  ·rw [h];exact .inl (to_T.irr _)
  ·exact .inr (to_T.asym h)
theorem Ck6 (a b:Rec):eqv leR a b=true↔Fs a=Fs b∧a.ttl=b.ttl:=by
 unfold eqv;rw [Aw,M8,M8];constructor
 ·rintro ⟨h1,h2⟩;rcases to_T.tri (Fs a,a.ttl) (Fs b,b.ttl) with h|h|h
  ·exact absurd h h2
  ·injection h with h3 h4;exact ⟨h3,h4⟩
  ·exact absurd h h1
 ·rintro ⟨h1,h2⟩;rw [h1,h2];exact ⟨to_T.irr _,to_T.irr _⟩
theorem Xj {α:Type} {P:List α→Prop} (h0:P []) (h1:∀l x,P l→P (l++[x])):∀(n:Nat) (l:List α),l.length=n→P l
 |0,l,h=>by rw [Bc h];exact h0
 |n+1,l,h=>by
  have hne:l≠[]:=fun e=>by rw [e] at h;simp at h
  rw [←List.dropLast_concat_getLast hne];exact h1 _ _ (Xj h0 h1 n _ (by rw [List.length_dropLast];omega))
def Gx8 (l:List Rec) (z:Rec):Prop:=∃l1 l2,l=l1++z::l2∧(∀y∈l1,Fs y=Fs z→z.ttl<y.ttl)∧∀y∈l2,Fs y=Fs z→z.ttl≤y.ttl
theorem Gx8.mem {l:List Rec} {z:Rec} (h:Gx8 l z):z∈l:=by obtain ⟨l1,l2,rfl,_⟩:=h;simp
theorem Ir (l:List Rec) (x z:Rec):Gx8 (l++[x]) z↔(z=x∧∀y∈l,Fs y=Fs x→x.ttl<y.ttl)∨(Gx8 l z∧(Fs z=Fs x→z.ttl≤x.ttl)):=by
 constructor
 ·rintro ⟨l1,l2,h,h1,h2⟩;rcases List.eq_nil_or_concat l2 with rfl|⟨l3,w,rfl⟩
  ·obtain ⟨q1,q2⟩:=List.append_inj' h rfl;injection q2 with q2 _;subst q1;subst q2;exact .inl ⟨rfl,h1⟩
  ·rw [List.concat_eq_append,←B9,←A0] at h;obtain ⟨q1,q2⟩:=List.append_inj' h rfl;injection q2 with q2 _;subst q1;subst q2;refine .inr ⟨⟨l1,l3,rfl,h1,fun y hy=>h2 y (by simp [hy])⟩,fun e=>h2 x (by simp) e.symm⟩
 ·rintro (⟨rfl,h⟩|⟨⟨l1,l2,rfl,h1,h2⟩,h⟩)
  ·exact ⟨l,[],rfl,h,fun y hy=>by simp at hy⟩
  ·refine ⟨l1,l2++[x],by simp,h1,fun y hy e=> ?_⟩;rcases Bn.1 hy with hy|hy
   ·exact h2 y hy e
   ·have:y=x:=by simpa using hy
    subst this;exact h e.symm
theorem Hw5 (l:List Rec):∀y∈l,∃z,Gx8 l z∧Fs z=Fs y∧z.ttl≤y.ttl:=by
 refine Xj (P:=fun l=>∀y∈l,∃z,Gx8 l z∧Fs z=Fs y∧z.ttl≤y.ttl) ?_ ?_ _ l rfl
 ·intro y h;simp at h
 ·intro l x ih y hy;by_cases hx:∀w∈l,Fs w=Fs x→x.ttl<w.ttl
  ·rcases Bn.1 hy with hy|hy
   ·obtain ⟨z,h1,h2,h3⟩:=ih y hy;by_cases e:Fs z=Fs x∧x.ttl<z.ttl
    ·exact ⟨x,(Ir l x x).2 (.inl ⟨rfl,hx⟩),by rw [←e.1,h2],by have:=e.2;omega⟩
    ·exact ⟨z,(Ir l x z).2 (.inr ⟨h1,fun q=>Int.le_of_not_gt fun r=>e ⟨q,r⟩⟩),h2,h3⟩
   ·have:y=x:=by simpa using hy
    subst this;exact ⟨y,(Ir l y y).2 (.inl ⟨rfl,hx⟩),rfl,Jl9 _⟩
  ·have:∃w∈l,Fs w=Fs x∧w.ttl≤x.ttl:=by apply Classical.byContradiction;intro h;exact hx fun w hw e=>Int.lt_of_not_ge fun q=>h ⟨w,hw,e,q⟩
   obtain ⟨w,hw,hw1,hw2⟩:=this;obtain ⟨z,h1,h2,h3⟩:=ih w hw;rcases Bn.1 hy with hy|hy
   ·obtain ⟨z',g1,g2,g3⟩:=ih y hy;by_cases e:Fs z'=Fs x∧x.ttl<z'.ttl
    ·exact ⟨z,(Ir l x z).2 (.inr ⟨h1,fun _=>by omega⟩),by rw [h2,hw1,←e.1,g2],by have:=e.2;omega⟩
    ·exact ⟨z',(Ir l x z').2 (.inr ⟨g1,fun q=>Int.le_of_not_gt fun r=>e ⟨q,r⟩⟩),g2,g3⟩
   ·have:y=x:=by simpa using hy
    subst this;exact ⟨z,(Ir l y z).2 (.inr ⟨h1,fun _=>by omega⟩),by rw [h2,hw1],by omega⟩
abbrev Fj1 (l:List Rec):Prop:=l.Pairwise fun a b=>ltF (Fs a) (Fs b)
theorem Cj4 (x:Rec):∀(l:List Rec),Fj1 l→(Fj1 (i9 x l)∧∀z,z∈i9 x l↔(z=x∧∀y∈l,Fs y=Fs x→x.ttl<y.ttl)∨(z∈l∧(Fs z=Fs x→z.ttl≤x.ttl)))
 |[],_=>by simp [i9]
 |y::r,h=>by
  obtain ⟨h1,h2⟩:=A5.1 h;obtain ⟨i1,i2⟩:=Cj4 x r h2;simp only [i9];by_cases c:Uq y x<0
  ·rw [if_pos c];have c':=(Y3 y x).1 c;have ne:Fs y≠Fs x:=fun e=>to_F.irr _ (by rw [e] at c';exact c');refine ⟨A5.2 ⟨fun w hw=> ?_,i1⟩,fun z=> ?_⟩
   ·rcases (i2 w).1 hw with ⟨rfl,_⟩|⟨hw,_⟩
    ·exact c'
    ·exact h1 w hw
   ·rw [Am,i2];simp only [Am,forall_eq_or_imp,ne,false_implies,true_and];constructor
    ·rintro (rfl|h|⟨h,h'⟩)
     ·exact .inr ⟨.inl rfl,fun e=>absurd e ne⟩
     ·exact .inl h
     ·exact .inr ⟨.inr h,h'⟩
    ·rintro (h|⟨rfl|h,h'⟩)
     ·exact .inr (.inl h)
     ·exact .inl rfl
     ·exact .inr (.inr ⟨h,h'⟩)
  ·rw [if_neg c];by_cases e:Uq y x=0
   ·have ke:=(Mz y x).1 e;have hr:∀w∈r,Fs w≠Fs x:=fun w hw q=>to_F.irr (Fs y) (by have:=h1 w hw;rw [q,←ke] at this;exact this);rw [if_pos e];by_cases t:x.ttl<y.ttl
    ·rw [if_pos t];refine ⟨A5.2 ⟨fun w hw=>by rw [←ke];exact h1 w hw,h2⟩,fun z=> ?_⟩;simp only [Am,forall_eq_or_imp,ke,t,true_implies,true_and];constructor
     ·rintro (rfl|h)
      ·exact .inl ⟨rfl,fun w hw q=>absurd q (hr w hw)⟩
      ·exact .inr ⟨.inr h,fun q=>absurd q (hr z h)⟩
     ·rintro (⟨h,_⟩|⟨rfl|h,h'⟩)
      ·exact .inl h
      ·have:=h' ke;omega
      ·exact .inr h
    ·rw [if_neg t];refine ⟨h,fun z=> ?_⟩;simp only [Am,forall_eq_or_imp,ke,t,false_and,and_false,false_or,forall_const,true_implies];constructor
     ·rintro (rfl|h)
      ·exact ⟨.inl rfl,fun _=>by omega⟩
      ·exact ⟨.inr h,fun q=>absurd q (hr z h)⟩
     ·exact fun h=>h.1
   ·rw [if_neg e];have hxy:ltF (Fs x) (Fs y):=by
     rcases to_F.tri (Fs x) (Fs y) with q|q|q
     ·exact q
     ·exact absurd ((Mz y x).2 q.symm) e
     ·exact absurd ((Y3 y x).2 q) c
    have hall:∀w∈y::r,ltF (Fs x) (Fs w):=fun w hw=>by
     rcases Am.1 hw with rfl|hw
     ·exact hxy
     ·exact to_F.tr _ _ _ hxy (h1 w hw)
    have hne:∀w∈y::r,Fs w≠Fs x:=fun w hw q=>to_F.irr _ (by have:=hall w hw;rw [q] at this;exact this);refine ⟨A5.2 ⟨hall,h⟩,fun z=> ?_⟩;rw [Am];constructor
    ·rintro (rfl|h)
     ·exact .inl ⟨rfl,fun w hw q=>absurd q (hne w hw)⟩
     ·exact .inr ⟨h,fun q=>absurd q (hne z h)⟩
    ·rintro (⟨h,_⟩|⟨h,_⟩)
     ·exact .inl h
     ·exact .inr h
theorem Ay1 (l:List Rec):Fj1 (sortR l)∧∀z,z∈sortR l↔Gx8 l z:=by
 refine Xj (P:=fun l=>Fj1 (sortR l)∧∀z,z∈sortR l↔Gx8 l z) ?_ ?_ _ l rfl
 ·refine ⟨List.Pairwise.nil,fun z=>⟨fun h=>by simp [sortR] at h,fun h=>by have:=h.mem;simp at this⟩⟩
 ·intro l x ih;have e:sortR (l++[x])=i9 x (sortR l):=by simp [sortR]
  obtain ⟨i1,i2⟩:=Cj4 x (sortR l) ih.1;rw [e];refine ⟨i1,fun z=> ?_⟩;rw [i2,Ir,ih.2];have:(∀y∈sortR l,Fs y=Fs x→x.ttl<y.ttl)↔∀y∈l,Fs y=Fs x→x.ttl<y.ttl:=by
   constructor
   ·intro h y hy q;obtain ⟨w,w1,w2,w3⟩:=Hw5 l y hy;have:=h w ((ih.2 w).2 w1) (by rw [w2,q]);omega
   ·intro h y hy q;exact h y ((ih.2 y).1 hy).mem q
  rw [this]
theorem Bv1:∀(a b:List Rec),Fj1 a→Fj1 b→(∀x,x∈a↔x∈b)→a=b
 |[],[],_,_,_=>rfl
 |[],y::b,_,_,h=>absurd ((h y).2 (.head _)) (by simp)
 |x::a,[],_,_,h=>absurd ((h x).1 (.head _)) (by simp)
 |x::a,y::b,ha,hb,h=>by
  have ha':=A5.1 ha;have hb':=A5.1 hb;have hxy:x=y:=by
   rcases Am.1 ((h x).1 (.head _)) with h1|h1
   ·exact h1
   ·rcases Am.1 ((h y).2 (.head _)) with h2|h2
    ·exact h2.symm
    ·exact absurd (hb'.1 x h1) (to_F.asym (ha'.1 y h2))
  subst hxy;rw [Bv1 a b ha'.2 hb'.2 fun z=> ?_];constructor
  ·intro hz;rcases Am.1 ((h z).1 (.tail _ hz)) with rfl|h1
   ·exact absurd (ha'.1 z hz) (to_F.irr _)
   ·exact h1
  ·intro hz;rcases Am.1 ((h z).2 (.tail _ hz)) with rfl|h1
   ·exact absurd (hb'.1 z hz) (to_F.irr _)
   ·exact h1
abbrev eqF:Rec→Rec→Bool:=fun a b=>decide (Uq a b=0)
theorem Fv8:∀(r:List Rec) (p:Rec),(p::r).Pairwise (fun a b=>leR a b=true)→(Fj1 (p::Q3 eqF p r)∧∀z,z∈Q3 eqF p r↔∃s1 s2,r=s1++z::s2∧∀y∈p::s1,Fs y≠Fs z)
 |[],p,_=>by simp [Q3]
 |c::r,p,h=>by
  obtain ⟨h1,h2⟩:=A5.1 h;obtain ⟨i1,i2⟩:=Fv8 r c h2;have hpc:=(M8 p c).1 (h1 c (.head _));simp only [Q3];by_cases e:Uq c p=0
  ·rw [if_pos (by simp [e])];have ke:=(Mz c p).1 e;refine ⟨?_,fun z=> ?_⟩
   ·obtain ⟨j1,j2⟩:=A5.1 i1;exact A5.2 ⟨fun w hw=>by rw [←ke];exact j1 w hw,j2⟩
   ·rw [i2];constructor
    ·rintro ⟨s1,s2,rfl,q⟩;refine ⟨c::s1,s2,rfl,fun y hy=> ?_⟩;rcases Am.1 hy with rfl|hy
     ·rw [←ke];exact q c (.head _)
     ·exact q y hy
    ·rintro ⟨s1,s2,h,q⟩;cases s1 with
     |nil=>
      injection h with h _;subst h;exact absurd ke.symm (q p (.head _))
     |cons w s1=>
      injection h with h h';subst h;exact ⟨s1,s2,h',fun y hy=>q y (.tail _ hy)⟩
  ·rw [if_neg (by simp [e])];have ne:Fs c≠Fs p:=fun q=>e ((Mz c p).2 q);have hlt:ltF (Fs p) (Fs c):=by
    rcases to_F.tri (Fs p) (Fs c) with q|q|q
    ·exact q
    ·exact absurd q.symm ne
    ·exact absurd (.inl q) hpc
   obtain ⟨j1,j2⟩:=A5.1 i1;refine ⟨A5.2 ⟨fun w hw=> ?_,i1⟩,fun z=> ?_⟩
   ·rcases Am.1 hw with rfl|hw
    ·exact hlt
    ·exact to_F.tr _ _ _ hlt (j1 w hw)
   ·rw [Am];constructor
    ·rintro (rfl|hz)
     ·exact ⟨[],r,rfl,fun y hy=>by have:y=p:=by simpa using hy
                                   subst this;exact ne.symm⟩
     ·obtain ⟨s1,s2,rfl,q⟩:=(i2 z).1 hz;refine ⟨c::s1,s2,rfl,fun y hy=> ?_⟩;rcases Am.1 hy with rfl|hy
      ·intro q2;exact to_F.irr _ (by have:=to_F.tr _ _ _ hlt (j1 z hz);rw [q2] at this;exact this)
      ·exact q y hy
    ·rintro ⟨s1,s2,h,q⟩;cases s1 with
     |nil=>injection h with h _;exact .inl h.symm
     |cons w s1=>
      injection h with h h';subst h;exact .inr ((i2 z).2 ⟨s1,s2,h',fun y hy=>q y (.tail _ hy)⟩)
theorem Jl2 (s:List Rec) (h:s.Pairwise fun a b=>leR a b=true):Fj1 (cpt eqF s)∧∀z,z∈cpt eqF s↔∃s1 s2,s=s1++z::s2∧∀y∈s1,Fs y≠Fs z:=by
 cases s with
 |nil=>simp [cpt]
 |cons p r=>
  obtain ⟨i1,i2⟩:=Fv8 r p h;refine ⟨i1,fun z=> ?_⟩;show z∈p::Q3 eqF p r↔_;rw [Am,i2];constructor
  ·rintro (rfl|⟨s1,s2,rfl,q⟩)
   ·exact ⟨[],r,rfl,by simp⟩
   ·exact ⟨p::s1,s2,rfl,q⟩
  ·rintro ⟨s1,s2,h,q⟩;cases s1 with
   |nil=>injection h with h _;exact .inl h.symm
   |cons w s1=>
    injection h with h h';subst h;exact .inr ⟨s1,s2,h',q⟩
theorem wx {s l:List Rec} (h:Stab leR s l):cpt eqF s=sortR l:=by
 obtain ⟨i1,i2⟩:=Jl2 s h.sorted;obtain ⟨j1,j2⟩:=Ay1 l;refine Bv1 _ _ i1 j1 fun z=> ?_;rw [i2,j2];have hz:eqv leR z z=true:=(Ck6 z z).2 ⟨rfl,rfl⟩;have hm:=h.mem Im8;constructor
 ·rintro ⟨s1,s2,rfl,q⟩;have hs1:s1.filter (eqv leR z)=[]:=by rw [G2];intro y hy hyz;exact q y hy ((Ck6 z y).1 hyz).1.symm
  have hc:=h.cls z;rw [Ds,hs1,Cv,E1 hz] at hc;obtain ⟨l1,l2,rfl,g1,_,_⟩:=List.filter_eq_cons_iff.1 hc.symm;have key:∀y,y∈l1++z::l2→Fs y=Fs z→z.ttl≤y.ttl:=fun y hy e=>by
   rcases Bn.1 ((hm y).2 hy) with w|w
   ·exact absurd e (q y w)
   ·rcases Am.1 w with rfl|w
    ·exact Jl9 _
    ·have:=(M8 z y).1 ((A5.1 (E4.1 h.sorted).2.1).1 y w);exact Int.le_of_not_gt fun t=>this (.inr ⟨e,t⟩)
  refine ⟨l1,l2,rfl,fun y hy e=> ?_,fun y hy e=>key y (by simp [hy]) e⟩;have k1:=key y (by simp [hy]) e;have k2:=g1 y hy;rw [Ck6] at k2;have:z.ttl≠y.ttl:=fun t=>k2 ⟨e.symm,t⟩;omega
 ·rintro ⟨l1,l2,rfl,q1,q2⟩;have hl1:l1.filter (eqv leR z)=[]:=by rw [G2];intro y hy hyz;obtain ⟨a,b⟩:=(Ck6 z y).1 hyz;have:=q1 y hy a.symm;omega
  have hc:=h.cls z;rw [Ds,hl1,Cv,E1 hz] at hc;obtain ⟨s1,s2,rfl,g1,_,_⟩:=List.filter_eq_cons_iff.1 hc;refine ⟨s1,s2,rfl,fun y hy e=> ?_⟩;have k1:=(M8 y z).1 ((E4.1 h.sorted).2.2 y hy z (by simp));have k2:¬z.ttl<y.ttl:=fun t=>k1 (.inr ⟨e.symm,t⟩);have k3:z.ttl≤y.ttl:=by
   rcases Bn.1 ((hm y).1 (by simp [hy])) with w|w
   ·have:=q1 y w e;omega
   ·rcases Am.1 w with rfl|w
    ·exact Jl9 _
    ·exact q2 y w e
  exact g1 y hy ((Ck6 z y).2 ⟨e.symm,by omega⟩)
end Go.X.G
/- Merging in place, in plain words: where two sorted lists may be cut. -/
namespace Go.X.G
open Go Go.X
theorem L0 {α:Type} {le:α→α→Bool} (ht:TP le) {l:List α} (h:l.Pairwise fun x y=>le x y=true) {i j:Nat} {x y:α} (hij:i≤j) (hi:l[i]? =some x) (hj:l[j]? =some y):le x y=true:=by
 rcases Nat.lt_or_eq_of_le hij with h1|h1
 ·obtain ⟨a1,a2⟩:=Av.1 hi;obtain ⟨b1,b2⟩:=Av.1 hj;have:=M0.1 h i j a1 b1 h1;rw [a2,b2] at this;exact this
 ·subst h1;rw [hi] at hj;injection hj with hj;subst hj;exact ht.refl x
theorem S4 {α:Type} {le:α→α→Bool} (ht:TP le) {A B:List α} (hA:A.Pairwise fun x y=>le x y=true) (hB:B.Pairwise fun x y=>le x y=true) (i j:Nat)
  (h1:∀x y,i≠0→A[i - 1]? =some x→B[j]? =some y→le x y=true) (h2:∀x y,j≠0→A[i]? =some x→B[j - 1]? =some y→le x y=false) (hi:i≤A.length) (hj:j≤B.length):
  mrg le A B=mrg le (A.take i) (B.take j)++mrg le (A.drop i) (B.drop j):=by
 conv=>lhs;rw [←Bp i A,←Bp j B]
 refine K7 le _ _ _ _ (fun x hx y hy=> ?_) (fun x hx y hy=> ?_)
 ·obtain ⟨p,hp⟩:=C4 hx;obtain ⟨q,hq⟩:=C4 hy;have hpl:p<i:=by have:=(Av.1 hp).1;rw [Ap] at this;omega
  rw [List.getElem?_take_of_lt hpl] at hp;rw [A6] at hq;have hql:=(Av.1 hq).1;have a1:A[i - 1]? =some A[i - 1]:=Ab (by omega);have b1:B[j]? =some B[j]:=Ab (by omega);have s1:=L0 ht hA (i:=p) (j:=i - 1) (by omega) hp a1;have s2:=L0 ht hB (i:=j) (j:=j+q) (by omega) b1 hq;exact ht.tr _ _ _ s1 (ht.tr _ _ _ (h1 _ _ (by omega) a1 b1) s2)
 ·obtain ⟨p,hp⟩:=C4 hx;obtain ⟨q,hq⟩:=C4 hy;rw [A6] at hp;have hpl:=(Av.1 hp).1;have hql:q<j:=by have:=(Av.1 hq).1;rw [Ap] at this;omega
  rw [List.getElem?_take_of_lt hql] at hq;have a1:A[i]? =some A[i]:=Ab (by omega);have b1:B[j - 1]? =some B[j - 1]:=Ab (by omega);have s1:=L0 ht hA (i:=i) (j:=i+p) (by omega) a1 hp;have s2:=L0 ht hB (i:=q) (j:=j - 1) (by omega) hq b1;rcases Aq (le x y) with q1|q1
  ·have:=h2 _ _ (by omega) a1 b1;rw [ht.tr _ _ _ s1 (ht.tr _ _ _ q1 s2)] at this;cases this
  ·exact q1
end Go.X.G
/- Rows of records that are turned in place: swaps and rotations. -/
namespace Go.X.G
open Go Go.X
def sl {α:Type} (s:List α) (i j:Nat):List α:=(s.take j).drop i
def swapR {α:Type} (s:List α) (a b:Nat):Nat→List α
 |0=>s
 |k+1=>match s[a+k]?,s[b+k]? with
  |some x,some y=>(swapR s a b k|>.set (a+k) y).set (b+k) x
  |_,_=>swapR s a b k
theorem Nr {α:Type} (s:List α) (a b:Nat):∀k,(swapR s a b k).length=s.length
 |0=>rfl
 |k+1=>by
  unfold swapR;split
  ·simp [Nr s a b k]
  ·exact Nr s a b k
theorem Ns {α:Type} (s:List α) (a b:Nat):∀(k i:Nat),a+k≤b→b+k≤s.length→
  (swapR s a b k)[i]? =if a≤i∧i<a+k then s[i - a+b]? else if b≤i∧i<b+k then s[i - b+a]? else s[i]?
 |0,i,_,_=>by unfold swapR;rw [if_neg (by omega),if_neg (by omega)]
 |k+1,i,h1,h2=>by
  have ih:=Ns s a b k i (by omega) (by omega);have hl:=Nr s a b k;unfold swapR;have ha:s[a+k]? =some s[a+k]:=Ab (by omega);have hb:s[b+k]? =some s[b+k]:=Ab (by omega);rw [ha,hb];simp only;rw [C8,C8];by_cases e1:b+k=i
  ·subst e1;rw [if_pos rfl,if_pos (by rw [Hk,hl];omega),if_neg (by omega),if_pos (by omega),show b+k - b+a=a+k by omega,ha]
  ·rw [if_neg e1];by_cases e2:a+k=i
   ·subst e2;rw [if_pos rfl,if_pos (by rw [hl];omega),if_pos (by omega),show a+k - a+b=b+k by omega,hb]
   ·rw [if_neg e2,ih];by_cases c1:a≤i∧i<a+k
    ·rw [if_pos c1,if_pos (by omega)]
    ·by_cases c2:b≤i∧i<b+k
     ·rw [if_neg c1,if_pos c2,if_neg (show¬(a≤i∧i<a+(k+1)) by omega),if_pos (show b≤i∧i<b+(k+1) by omega)]
     ·rw [if_neg c1,if_neg c2,if_neg (show¬(a≤i∧i<a+(k+1)) by omega),if_neg (show¬(b≤i∧i<b+(k+1)) by omega)]
end Go.X.G
/- Rotations, in plain words. -/
namespace Go.X.G
open Go Go.X
theorem Bj4 {α:Type} (X A M B Y:List α) (h:A.length=B.length):swapR (X++A++M++B++Y) X.length (X.length+A.length+M.length) A.length=X++B++M++A++Y:=by
 apply List.ext_getElem?;intro i;rw [Ns _ _ _ _ _ (by omega) (by simp;omega)];simp only [List.getElem?_append,Ay]
 repeat' split
 all_goals first
  |(exfalso;omega)
  |rfl
  |(congr 1;omega)
end Go.X.G
/- Rows of records that are turned in place: the library's functions. -/
namespace Go.X.G
open Go Go.X
theorem ay (s:List Rec) (a b n:Nat) (g:Nat) (caps:List PV) (h1:a+n≤b) (h2:b+n≤s.length) (hs:s.length≤1000000):S Qq 1048581 [Ag s, .i .i64 (a:Int), .i .i64 (b:Int), .i .i64 (n:Int), .f g caps]=some [Ag (swapR s a b n)]:=by
 refine Hl3 (N:=n+1) rfl ?_;have key:Br5.ev S (n+1) [Ag s, .i .i64 (a:Int), .i .i64 (b:Int), .i .i64 (n:Int), .f g caps]=some (.yld 0 [Ag (swapR s a b n)]):=by
  refine F9 n (fun i=>[.i .i64 (i:Int),Ag (swapR s a b i)]) (fun _=> .yld 0 [Ag (swapR s a b n)]) (by simp (disch:=omega) only [swapR,EVT,EVM,EVC,xe,EVP,EV,simprocAttr]) (by omega) (fun i hi=> ?_) ?_
  ·left;refine ⟨?_,rfl⟩;have hl:=Nr s a b i;have ga:=Ns s a b i (a+i) (by omega) (by omega);have gb:=Ns s a b i (b+i) (by omega) (by omega);rw [if_neg (by omega),if_neg (by omega)] at ga gb;have ha:s[a+i]? =some s[a+i]:=Ab (by omega);have hb:s[b+i]? =some s[b+i]:=Ab (by omega);rw [ha] at ga;rw [hb] at gb;have e:swapR s a b (i+1)=((swapR s a b i).set (a+i) s[b+i]).set (b+i) s[a+i]:=by
    conv=>lhs;unfold swapR
    rw [ha,hb]
   rw [e];generalize s[a+i]=x at*;generalize s[b+i]=y at*;generalize swapR s a b i=t at*;have ti1:((a:Int)+(i:Int)).toNat=a+i:=by omega
   have ti2:((b:Int)+(i:Int)).toNat=b+i:=by omega
   have g3:(t.set (a+i) y)[b+i]? =some y:=by rw [Ap5 (by omega)];exact gb
   have hlt:(t.set (a+i) y).length=s.length:=by rw [Hk,hl]
   simp (disch:=first|omega|(rw [Hk];omega)) only [As1,ti1,ti2,ga,gb,g3,EVT,EVM,EVC,xe,EVP,EV,simprocAttr]
  ·refine ⟨?_,rfl⟩;simp (disch:=omega) only [As1,EVT,EVM,EVC,xe,EVP,EV,simprocAttr]
 simp (disch:=omega) only [As1,key,EVT,EVM,EVC,xe,EVP,EV,simprocAttr]
end Go.X.G
/- Rotations: the library's function. -/
namespace Go.X.G
open Go Go.X
theorem J5 (X A M B Y:List Rec) (a b n:Int) (g:Nat) (caps:List PV) (ha:a=X.length) (hb:b=X.length+A.length+M.length) (hn:n=A.length) (h:A.length=B.length) (hs:(X++A++M++B++Y).length≤1000000):S Qq 1048581 [Ag (X++A++M++B++Y), .i .i64 a, .i .i64 b, .i .i64 n, .f g caps]=some [Ag (X++B++M++A++Y)]:=by subst ha;subst hn;have h1:=ay (X++A++M++B++Y) X.length (X.length+A.length+M.length) A.length g caps (by omega) (by simp only [Ay];omega) hs;rw [Bj4 X A M B Y h] at h1;rw [hb];simpa using h1
theorem Bq9 (X A B Y:List Rec) (a m b:Int) (g:Nat) (caps:List PV) (ha:a=X.length) (hm:m=X.length+A.length) (hb:b=X.length+A.length+B.length) (hA:A≠[]) (hB:B≠[]) (hs:(X++A++B++Y).length≤1000000):
  S dz 1048581 [Ag (X++A++B++Y), .i .i64 a, .i .i64 m, .i .i64 b, .f g caps]=some [Ag (X++B++A++Y)]:=by
 have hA':0<A.length:=Bw.2 hA;have hB':0<B.length:=Bw.2 hB;have hs2:=hs;simp only [Ay] at hs2;refine Hl9 (N:=(X++A++B++Y).length+1) rfl ?_;have key:=G7 (fn:=S) (N:=(X++A++B++Y).length+1) (η:=[Ag (X++A++B++Y), .i .i64 a, .i .i64 m, .i .i64 b, .f g caps]) (id:=1) (init:=[.bin .sub (.v 2) (.v 1), .bin .sub (.v 3) (.v 2), .v 0]) (body:=pf) (α:=List Rec×List Rec×List Rec×List Rec)
  (fun x=>[.i .i64 (x.2.1.length:Int), .i .i64 (x.2.2.1.length:Int),Ag (x.1++x.2.1++x.2.2.1++x.2.2.2)])
  (fun o=>∃X' A' B' Y':List Rec,o= .yld 0 [.i .i64 (A'.length:Int),Ag (X'++A'++B'++Y')]∧A'.length=B'.length∧(X'.length:Int)+A'.length=m∧X'++B'++A'++Y'=X++B++A++Y∧(X'++A'++B'++Y').length≤1000000)
  (fun x=>0<x.2.1.length∧0<x.2.2.1.length∧(x.1.length:Int)+x.2.1.length=m∧x.1++x.2.2.1++x.2.1++x.2.2.2=X++B++A++Y)
  (fun x=>x.2.1.length+x.2.2.1.length) (X,A,B,Y) ?_ ⟨hA',hB',by simp only;omega,rfl⟩ (by simp only [Ay];omega) ?_
 ·obtain ⟨o,ho,X',A',B',Y',rfl,e1,e2,e3,e4⟩:=key;have hsw:=J5 X' A' [] B' Y' (m - A'.length) m A'.length g caps (by omega) (by simp;omega) rfl e1 (by simpa using e4);simp only [Dp] at hsw;rw [e3] at hsw;have ht:Br9.ev S ((X++A++B++Y).length+1) [Ag (X++A++B++Y), .i .i64 a, .i .i64 m, .i .i64 b, .f g caps]=_:=ho;have hl:(X'++A'++B'++Y').length=(X++B++A++Y).length:=by rw [←e3];simp only [Ay];omega
  have hl2:A'.length≤1000000:=by simp only [Ay] at e4;omega
  generalize X'++A'++B'++Y'=t at*;generalize X++A++B++Y=s at*;generalize X++B++A++Y=u at*;simp (disch:=omega) only [rx,ht,hsw,D3,Ks,EVT,EVM,EVC,xe,EVP,EV,simprocAttr]
 ·generalize X++A++B++Y=s at*;have e1:b - m=(B.length:Int):=by omega
  have e2:m - a=(A.length:Int):=by omega
  simp (disch:=omega) only [e1,e2,EVT,EVM,EVC,xe,EVP,EV,simprocAttr]
 ·rintro ⟨X',A',B',Y'⟩ ⟨h1,h2,h3,h4⟩;simp only at h1 h2 h3 h4;have hl:(X'++A'++B'++Y').length≤1000000:=by have:=congrArg List.length h4;simp only [Ay] at this ⊢;omega
  have hl':=hl;simp only [Ay] at hl';by_cases hij:A'.length=B'.length
  ·right;refine ⟨.yld 0 [.i .i64 (A'.length:Int),Ag (X'++A'++B'++Y')],?_,rfl,X',A',B',Y',rfl,hij,h3,h4,hl⟩;generalize X'++A'++B'++Y'=t at*;generalize X++A++B++Y=s at*;have hij':(A'.length:Int)=(B'.length:Int):=by omega
   simp (disch:=omega) only [rx,hij',EVT,EVM,EVC,xe,EVP,EV,simprocAttr]
  ·left;have hij':¬(A'.length:Int)=(B'.length:Int):=by omega
   by_cases hgt:B'.length<A'.length
   ·have hgt':(B'.length:Int)<(A'.length:Int):=by omega
    have eA:A'.take B'.length++A'.drop B'.length=A':=Bp _ _;have l1:(A'.take B'.length).length=B'.length:=by rw [Ap];omega
    have l2:(A'.drop B'.length).length=A'.length - B'.length:=B3;have hsw:=J5 X' (A'.take B'.length) (A'.drop B'.length) B' Y' (m - A'.length) m B'.length g caps (by omega) (by omega) (by omega) (by omega) (by rw [A0 X',eA];exact hl);rw [A0 X',eA] at hsw;refine ⟨(X'++B',A'.drop B'.length,A'.take B'.length,Y'),?_,⟨by simp only;omega,by simp only;omega,by simp only [Ay];omega,?_⟩,by simp only;omega⟩
    ·simp only;rw [l1,l2];have e1:((A'.length - B'.length:Nat):Int)=(A'.length:Int) - (B'.length:Int):=by omega
     rw [e1];generalize X'++B'++A'.drop B'.length++A'.take B'.length++Y'=u at*;generalize X'++A'++B'++Y'=t at*;generalize X++A++B++Y=s at*;simp (disch:=omega) only [rx,hij',hgt',hsw,D3,Ks,EVT,EVM,EVC,xe,EVP,EV,simprocAttr]
    ·simp only;rw [←h4,A0 (X'++B'),eA]
   ·have hgt':¬(B'.length:Int)<(A'.length:Int):=by omega
    have eB:B'.take (B'.length - A'.length)++B'.drop (B'.length - A'.length)=B':=Bp _ _;have l1:(B'.take (B'.length - A'.length)).length=B'.length - A'.length:=by rw [Ap];omega
    have l2:(B'.drop (B'.length - A'.length)).length=A'.length:=by rw [B3];omega
    have hsw:=J5 X' A' (B'.take (B'.length - A'.length)) (B'.drop (B'.length - A'.length)) Y' (m - A'.length) (m+B'.length - A'.length) A'.length g caps (by omega) (by omega) (by omega) (by omega) (by rw [A0 (X'++A'),eB];exact hl);rw [A0 (X'++A'),eB] at hsw;have ea:X'++B'.drop (B'.length - A'.length)++B'.take (B'.length - A'.length)++A'++Y'=X'++B'.drop (B'.length - A'.length)++B'.take (B'.length - A'.length)++(A'++Y'):=by simp
    refine ⟨(X',B'.drop (B'.length - A'.length),B'.take (B'.length - A'.length),A'++Y'),?_,⟨by simp only;omega,by simp only;omega,by simp only;omega,?_⟩,by simp only;omega⟩
    ·simp only;rw [l1,l2,←ea];have e1:((B'.length - A'.length:Nat):Int)=(B'.length:Int) - (A'.length:Int):=by omega
     rw [e1];generalize X'++B'.drop (B'.length - A'.length)++B'.take (B'.length - A'.length)++A'++Y'=u at*;generalize X'++A'++B'++Y'=t at*;generalize X++A++B++Y=s at*;simp (disch:=omega) only [rx,hij',hgt',hsw,D3,Ks,EVT,EVM,EVC,xe,EVP,EV,simprocAttr]
    ·simp only;rw [←h4,A0 X' (B'.take _),eB];simp
end Go.X.G
/- Sorting by blocks, in plain words. -/
namespace Go.X.G
open Go Go.X
structure Blk {α:Type} (le:α→α→Bool) (bs:Nat) (r l:List α):Prop where
 len:r.length=l.length
 st:∀k,Stab le ((r.drop (k*bs)).take bs) ((l.drop (k*bs)).take bs)
theorem Rj {α:Type} (le:α→α→Bool):Stab le ([]:List α) []:=⟨.nil,fun _=>rfl⟩
theorem j9 {α:Type} (le:α→α→Bool) (x:α):Stab le [x] [x]:=⟨by simp,fun _=>rfl⟩
theorem Blk.nil {α:Type} (le:α→α→Bool) (bs:Nat):Blk le bs ([]:List α) []:=⟨rfl,fun k=>by rw [List.drop_nil,List.take_nil];exact Rj le⟩
theorem Blk.one {α:Type} {le:α→α→Bool} {bs:Nat} {r l:List α} (h:Stab le r l) (hl:r.length=l.length) (hb:r.length≤bs):Blk le bs r l:=⟨hl,fun k=>by
 cases k with
 |zero=>
  simp only [Nat.zero_mul,D7];rw [Dr hb,Dr (by omega)];exact h
 |succ k=>
  have:r.length≤(k+1)*bs:=by rw [Nat.succ_mul];omega
  rw [J0 this,J0 (by omega),List.take_nil];exact Rj le⟩
theorem gn {α:Type} (X Y:List α) (n m:Nat) (h:n=X.length+m):(X++Y).drop n=Y.drop m:=by rw [List.drop_append,J0 (by omega),Cv];congr 1;omega
theorem Blk.app {α:Type} {le:α→α→Bool} {bs q:Nat} {X LX Y LY:List α} (hX:X.length=q*bs) (h1:Blk le bs X LX) (h2:Blk le bs Y LY):Blk le bs (X++Y) (LX++LY):=by
 have hL:=h1.len;refine ⟨by rw [Ay,Ay,h1.len,h2.len],fun k=> ?_⟩;by_cases hk:k<q
 ·have e:(k+1)*bs≤q*bs:=Bb _ hk;rw [Nat.succ_mul] at e;rw [List.drop_append_of_le_length (by omega),List.drop_append_of_le_length (by omega),List.take_append_of_le_length (by rw [B3];omega),List.take_append_of_le_length (by rw [B3];omega)];exact h1.st k
 ·have e:(k - q)*bs+q*bs=k*bs:=by rw [←Cj];congr 1;omega
  rw [gn X Y (k*bs) ((k - q)*bs) (by omega),gn LX LY (k*bs) ((k - q)*bs) (by omega)];exact h2.st (k - q)
theorem Blk.all {α:Type} {le:α→α→Bool} {bs:Nat} {r l:List α} (h:Blk le bs r l) (hb:r.length≤bs):Stab le r l:=by have:=h.st 0;have hl:=h.len;simp only [Nat.zero_mul,D7] at this;rwa [Dr hb,Dr (by omega)] at this
theorem Blk.head {α:Type} {le:α→α→Bool} {bs:Nat} {r l:List α} (h:Blk le bs r l):Stab le (r.take bs) (l.take bs):=by simpa using h.st 0
theorem Blk.tail {α:Type} {le:α→α→Bool} {bs:Nat} {r l:List α} (h:Blk le bs r l):Blk le bs (r.drop bs) (l.drop bs):=⟨by simp [h.len],fun k=>by rw [Cm,Cm];have:=h.st (k+1);rw [Nat.succ_mul,Dr7] at this;exact this⟩
theorem Ex4 {α:Type} {le:α→α→Bool} (ht:TP le) {R1 R2 l:List α} {x:α} (h:Stab le (R1++R2) l) (h1:∀y∈R1,le y x=true) (h2:∀y∈R2,le y x=false):Stab le (R1++x::R2) (l++[x]):=by
 obtain ⟨hs,hc⟩:=h;refine ⟨?_,fun z=> ?_⟩
 ·rw [E4] at hs ⊢;refine ⟨hs.1,A5.2 ⟨fun y hy=>(ht.tot x y).resolve_right (by rw [h2 y hy];simp),hs.2.1⟩,fun a ha b hb=> ?_⟩;rcases Am.1 hb with rfl|hb
  ·exact h1 a ha
  ·exact hs.2.2 a ha b hb
 ·have:=hc z;rw [Ds] at this;rw [Ds,Ds,←this,Kp];by_cases hz:eqv le z x=true
  ·have hno:R2.filter (eqv le z)=[]:=by rw [G2];intro w hw hzw;unfold eqv at hz hzw;simp only [Aw] at hz hzw;have:=ht.tr _ _ _ hzw.2 hz.1;rw [h2 w hw] at this;cases this
   rw [hno,if_pos hz];simp [hz]
  ·rw [if_neg hz];simp [hz]
theorem kq {α:Type} {le:α→α→Bool} (ht:TP le) {R:List α} {w x:α} (h:(R++[w]).Pairwise fun a b=>le a b=true) (hx:le w x=true):∀y∈R++[w],le y x=true:=by
 intro y hy;rcases Bn.1 hy with hy|hy
 ·exact ht.tr _ _ _ ((E4.1 h).2.2 y hy w (by simp)) hx
 ·have:y=w:=by simpa using hy
  rw [this];exact hx
theorem S3 {α:Type} (le:α→α→Bool):∀(a b:List α),(mrg le a b).length=a.length+b.length
 |[],b=>by simp [mrg]
 |x::a,[]=>by simp [mrg]
 |x::a,y::b=>by
  unfold mrg;split
  ·simp only [As,S3 le a (y::b)];omega
  ·simp only [As,S3 le (x::a) b];omega
termination_by a b=>a.length+b.length
end Go.X.G
/- Merging in place: the library's function. -/
namespace Go.X.G
open Go Go.X
theorem Eb (x:Int):bin .shr (.i .u64 x) (.i .u64 1)=some (.i .u64 (x / 2)):=by
 simp only [bin,On];rw [if_neg (by decide)];have:(2:Int) ^ min (1:Int).toNat IntKind.u64.bits=2:=by decide
 rw [this,Int.fdiv_eq_ediv_of_nonneg _ (by decide)]
theorem Gz9 {α:Type} (P Q:List α) (x y:α):((P++x::y::Q).set P.length y).set (P.length+1) x=P++y::x::Q:=by rw [Ln _ _ (Af _),Dr6,List.set_cons_zero,Ln _ _ (by omega),show P.length+1 - P.length=1 by omega];rfl
theorem gj {α:Type} (P Q:List α) (x:α):(P++x::Q)[P.length]? =some x:=by simp
theorem md {α:Type} (P Q:List α) (x y:α):(P++x::y::Q)[P.length+1]? =some y:=by simp
structure Cmp (g:Nat) (caps:List PV) (c:Rec→Rec→Int) (P:Rec→Prop):Prop where
 ok:∀x y,P x→P y→S g 2 (x.pv::y.pv::caps)=some [.i .i64 (c x y)]
def leC (c:Rec→Rec→Int) (x y:Rec):Bool:= !decide (c y x<0)
theorem Ef8 {c:Rec→Rec→Int} {x y:Rec}:leC c x y=true↔¬c y x<0:=by simp [leC]
theorem Ef9 {c:Rec→Rec→Int} {x y:Rec}:leC c x y=false↔c y x<0:=by simp [leC]
section
variable {g:Nat} {caps:List PV} {c:Rec→Rec→Int} {P:Rec→Prop}
theorem Jj3 (h:Cmp g caps c P) (X B Y:List Rec) (x:Rec) (s:List Rec) (hsd:s=X++x::(B++Y)) (a m b:Int) (ha:a=X.length) (hm:m=a+1) (hb:b=m+B.length) (hs:s.length≤1000000) (hP:∀y∈s,P y) (N:Nat) (hN:B.length<N):
  ∃p:Nat,Bs2.ev S N [Ag s, .i .i64 a, .i .i64 m, .i .i64 b, .f g caps]=some (.yld 0 [.i .i64 (m+p)])∧p≤B.length∧(∀y,p≠0→B[p - 1]? =some y→c y x<0)∧∀y,B[p]? =some y→¬c y x<0:=by
 have hl:s.length=X.length+1+B.length+Y.length:=by rw [hsd];simp;omega
 have hx:s[X.length]? =some x:=by rw [hsd];exact gj _ _ _
 have hB:∀k y,B[k]? =some y→s[X.length+1+k]? =some y:=fun k y hk=>by have:=(Av.1 hk).1;rw [hsd,A4 (by omega),show X.length+1+k - X.length=k+1 by omega,D6,Bj this,hk]
 have hPx:P x:=hP x (by rw [hsd];simp);have key:=G7 (fn:=S) (N:=N) (η:=[Ag s, .i .i64 a, .i .i64 m, .i .i64 b, .f g caps]) (id:=1) (init:=[.v 2, .v 3]) (body:=pg) (α:=Nat×Nat)
  (fun w=>[.i .i64 (m+w.1), .i .i64 (m+w.2)])
  (fun o=>∃p:Nat,o= .yld 0 [.i .i64 (m+p)]∧p≤B.length∧(∀y,p≠0→B[p - 1]? =some y→c y x<0)∧∀y,B[p]? =some y→¬c y x<0)
  (fun w=>w.1≤w.2∧w.2≤B.length∧(∀y,w.1≠0→B[w.1 - 1]? =some y→c y x<0)∧∀y,B[w.2]? =some y→¬c y x<0)
  (fun w=>w.2 - w.1) (0,B.length) ?_ ?_ (by simp only;omega) ?_
 ·obtain ⟨o,h1,p,rfl,h2⟩:=key;exact ⟨p,h1,h2⟩
 ·subst hb;simp (disch:=omega) only [EVT,EVM,EVC,xe,EVP,EV,simprocAttr];simp
 ·refine ⟨by simp,by simp,fun y h0=>absurd rfl h0,fun y hy=> ?_⟩;simp at hy
 ·rintro ⟨p,q⟩ ⟨h1,h2,h3,h4⟩;simp only at h1 h2 h3 h4;by_cases hpq:p<q
  ·left;have hk:(p+q) / 2<B.length:=by omega
   have hy:=Ab hk;generalize B[(p+q) / 2]=y at hy;have hsy:=hB _ y hy;have hPy:P y:=hP y (Bv hsy);have hc:=h.ok y x hPy hPx;have hlt:m+(p:Int)<m+(q:Int):=by omega
   have e1:(m+(p:Int)+(m+(q:Int))) / 2=m+(((p+q) / 2:Nat):Int):=by omega
   have e2:(m+(((p+q) / 2:Nat):Int)).toNat=X.length+1+(p+q) / 2:=by omega
   have e3:a.toNat=X.length:=by omega
   by_cases hcy:c y x<0
   ·refine ⟨((p+q) / 2+1,q),?_,⟨by simp only;omega,h2,fun z _ hz=> ?_,h4⟩,by simp only;omega⟩
    ·have e4:m+(((p+q) / 2+1:Nat):Int)=m+(((p+q) / 2:Nat):Int)+1:=by omega
     simp only [e4];generalize (p+q) / 2=k at*;simp (disch:=omega) only [E7,hlt,Eb,e1,e2,e3,hsy,hx,hc,hcy,EVT,EVM,EVC,xe,EVP,EV,simprocAttr]
    ·simp only [K1] at hz;rw [hy] at hz;injection hz with hz;subst hz;exact hcy
   ·refine ⟨(p,(p+q) / 2),?_,⟨by simp only;omega,by simp only;omega,h3,fun z hz=> ?_⟩,by simp only;omega⟩
    ·simp only;generalize (p+q) / 2=k at*;simp (disch:=omega) only [E7,hlt,Eb,e1,e2,e3,hsy,hx,hc,hcy,EVT,EVM,EVC,xe,EVP,EV,simprocAttr]
    ·simp only at hz;rw [hy] at hz;injection hz with hz;subst hz;exact hcy
  ·right;have e:p=q:=by omega
   subst e;have hlt:¬m+(p:Int)<m+(p:Int):=by omega
   refine ⟨.yld 0 [.i .i64 (m+p)],?_,rfl,p,rfl,h2,h3,h4⟩;simp (disch:=omega) only [E7,hlt,EVT,EVM,EVC,xe,EVP,EV,simprocAttr]
theorem Jj5 (L L':List Rec) (i:Nat) (x y:Rec) (g0:L[i]? =some x) (g1:L[i+1]? =some y) (sw:(L.set i y).set (i+1) x=L') (k e:Int) (hk:k=i) (he:k<e - 1) (he2:e≤1000000) (hL:L.length≤1000000) (w0 w1 w2 w3 w4:PV) (N:Nat):
  Zq.ev S N [w0,w1,w2,w3,w4, .i .i64 e, .i .i64 k,Ag L]=some (.yld 1 [.i .i64 (k+1),Ag L']):=by
 have hi:=(Av.1 g1).1;have ti0:k.toNat=i:=by omega
 have ti1:(k+1).toNat=i+1:=by omega
 have g2:(L.set i y)[i+1]? =some y:=by rw [Ap5 (by omega)];exact g1
 simp (disch:=first|omega|(rw [Hk];omega)) only [E7,he,ti0,ti1,g0,g1,g2,sw,EVT,EVM,EVC,xe,EVP,EV,simprocAttr]
theorem Jj4 (L L':List Rec) (i:Nat) (x y:Rec) (g0:L[i]? =some x) (g1:L[i+1]? =some y) (sw:(L.set (i+1) x).set i y=L') (k e:Int) (hk:k=i+1) (he:e<k) (he2:0≤e) (hL:L.length≤1000000) (w0 w1 w2 w3 w4:PV) (N:Nat):
  Zk.ev S N [w0,w1,w2,w3,w4, .i .i64 e, .i .i64 k,Ag L]=some (.yld 1 [.i .i64 (k - 1),Ag L']):=by
 have hi:=(Av.1 g1).1;have ti0:(k - 1).toNat=i:=by omega
 have ti1:k.toNat=i+1:=by omega
 have g2:(L.set (i+1) x)[i]? =some x:=by rw [Ap5 (by omega)];exact g0
 simp (disch:=first|omega|(rw [Hk];omega)) only [E7,he,ti0,ti1,g0,g1,g2,sw,EVT,EVM,EVC,xe,EVP,EV,simprocAttr]
theorem Jj2 (X B Y:List Rec) (x:Rec) (s:List Rec) (hsd:s=X++x::(B++Y)) (a m b:Int) (w:PV) (p:Nat) (ha:a=X.length) (hm:m=a+1) (hp:p≤B.length) (hs:s.length≤1000000) (N:Nat) (hN:B.length<N) (w1 w2 w3:PV):
  Bp8.ev S N [Ag s, .i .i64 a,w1,w2,w3, .i .i64 (m+p)]=some (.yld 0 [Ag (X++(B.take p++x::B.drop p)++Y)]):=by
 have hl:s.length=X.length+1+B.length+Y.length:=by rw [hsd];simp;omega
 refine F9 p (fun t=>[.i .i64 (a+t),Ag ((X++B.take t)++x::(B.drop t++Y))]) (fun _=> .yld 0 [Ag (X++(B.take p++x::B.drop p)++Y)]) ?_ (by omega) (fun t ht=> ?_) ?_
 ·simp (disch:=omega) only [EVT,EVM,EVC,xe,EVP,EV,simprocAttr];rw [hsd];simp
 ·left;refine ⟨?_,rfl⟩;have hlt:t<B.length:=by omega
  have hy:=Ab hlt;have hd:B.drop t=B[t]::B.drop (t+1):=Cz hlt;have htk:B.take (t+1)=B.take t++[B[t]]:=by rw [Cw,hy];rfl
  have e0:X++B.take (t+1)++x::(B.drop (t+1)++Y)=X++B.take t++B[t]::x::(B.drop (t+1)++Y):=by rw [htk];simp only [A0,B9,Cv]
  show Zq.ev S N ([Ag s, .i .i64 a,w1,w2,w3, .i .i64 (m+p)]++[.i .i64 (a+t),Ag ((X++B.take t)++x::(B.drop t++Y))])=some (.yld 1 [.i .i64 (a+((t+1:Nat):Int)),Ag ((X++B.take (t+1))++x::(B.drop (t+1)++Y))]);rw [e0,hd,B9];generalize B[t]=y at*;have lP:(X++B.take t).length=X.length+t:=by rw [Ay,Ap];omega
  have sw:=Gz9 (X++B.take t) (B.drop (t+1)++Y) x y;have g0:=gj (X++B.take t) (y::(B.drop (t+1)++Y)) x;have g1:=md (X++B.take t) (B.drop (t+1)++Y) x y;have lL:(X++B.take t++x::y::(B.drop (t+1)++Y)).length=s.length:=by rw [hl];simp only [Ay,As,Ap,B3];omega
  rw [lP] at sw g0 g1;have e5:a+((t+1:Nat):Int)=a+(t:Int)+1:=by omega
  rw [e5];exact Jj5 _ _ (X.length+t) x y g0 g1 sw (a+t) (m+p) (by omega) (by omega) (by omega) (by omega) _ _ _ _ _ N
 ·refine ⟨?_,rfl⟩;have hlt2:¬a+(p:Int)<m+(p:Int) - 1:=by omega
  have e0:X++B.take p++x::(B.drop p++Y)=X++(B.take p++x::B.drop p)++Y:=by simp
  rw [e0];simp (disch:=omega) only [E7,hlt2,EVT,EVM,EVC,xe,EVP,EV,simprocAttr]
theorem Jj1 (h:Cmp g caps c P) (X A Y:List Rec) (x:Rec) (s:List Rec) (hsd:s=X++(A++x::Y)) (a m:Int) (w:PV) (ha:a=X.length) (hm:m=a+A.length) (hs:s.length≤1000000) (hP:∀y∈s,P y) (N:Nat) (hN:A.length<N):
  ∃p:Nat,Bp5.ev S N [Ag s, .i .i64 a, .i .i64 m,w, .f g caps]=some (.yld 0 [.i .i64 (a+p)])∧p≤A.length∧(∀y,p≠0→A[p - 1]? =some y→¬c x y<0)∧∀y,A[p]? =some y→c x y<0:=by
 have hl:s.length=X.length+A.length+1+Y.length:=by rw [hsd];simp;omega
 have hx:s[X.length+A.length]? =some x:=by rw [hsd,←A0,←Ay];exact gj _ _ _
 have hA:∀k y,A[k]? =some y→s[X.length+k]? =some y:=fun k y hk=>by have:=(Av.1 hk).1;rw [hsd,A4 (by omega),show X.length+k - X.length=k by omega,Bj this,hk]
 have hPx:P x:=hP x (by rw [hsd];simp);have key:=G7 (fn:=S) (N:=N) (η:=[Ag s, .i .i64 a, .i .i64 m,w, .f g caps]) (id:=1) (init:=[.v 1, .v 2]) (body:=pk) (α:=Nat×Nat)
  (fun w=>[.i .i64 (a+w.1), .i .i64 (a+w.2)])
  (fun o=>∃p:Nat,o= .yld 0 [.i .i64 (a+p)]∧p≤A.length∧(∀y,p≠0→A[p - 1]? =some y→¬c x y<0)∧∀y,A[p]? =some y→c x y<0)
  (fun w=>w.1≤w.2∧w.2≤A.length∧(∀y,w.1≠0→A[w.1 - 1]? =some y→¬c x y<0)∧∀y,A[w.2]? =some y→c x y<0)
  (fun w=>w.2 - w.1) (0,A.length) ?_ ?_ (by simp only;omega) ?_
 ·obtain ⟨o,h1,p,rfl,h2⟩:=key;exact ⟨p,h1,h2⟩
 ·subst hm;simp (disch:=omega) only [EVT,EVM,EVC,xe,EVP,EV,simprocAttr];simp
 ·refine ⟨by simp,by simp,fun y h0=>absurd rfl h0,fun y hy=> ?_⟩;simp at hy
 ·rintro ⟨p,q⟩ ⟨h1,h2,h3,h4⟩;simp only at h1 h2 h3 h4;by_cases hpq:p<q
  ·left;have hk:(p+q) / 2<A.length:=by omega
   have hy:=Ab hk;generalize A[(p+q) / 2]=y at hy;have hsy:=hA _ y hy;have hPy:P y:=hP y (Bv hsy);have hc:=h.ok x y hPx hPy;have hlt:a+(p:Int)<a+(q:Int):=by omega
   have e1:(a+(p:Int)+(a+(q:Int))) / 2=a+(((p+q) / 2:Nat):Int):=by omega
   have e2:(a+(((p+q) / 2:Nat):Int)).toNat=X.length+(p+q) / 2:=by omega
   have e3:m.toNat=X.length+A.length:=by omega
   by_cases hcy:c x y<0
   ·refine ⟨(p,(p+q) / 2),?_,⟨by simp only;omega,by simp only;omega,h3,fun z hz=> ?_⟩,by simp only;omega⟩
    ·simp only;generalize (p+q) / 2=k at*;simp (disch:=omega) only [E7,hlt,Eb,e1,e2,e3,hsy,hx,hc,hcy,EVT,EVM,EVC,xe,EVP,EV,simprocAttr]
    ·simp only at hz;rw [hy] at hz;injection hz with hz;subst hz;exact hcy
   ·refine ⟨((p+q) / 2+1,q),?_,⟨by simp only;omega,h2,fun z _ hz=> ?_,h4⟩,by simp only;omega⟩
    ·have e4:a+(((p+q) / 2+1:Nat):Int)=a+(((p+q) / 2:Nat):Int)+1:=by omega
     simp only [e4];generalize (p+q) / 2=k at*;simp (disch:=omega) only [E7,hlt,Eb,e1,e2,e3,hsy,hx,hc,hcy,EVT,EVM,EVC,xe,EVP,EV,simprocAttr]
    ·simp only [K1] at hz;rw [hy] at hz;injection hz with hz;subst hz;exact hcy
  ·right;have e:p=q:=by omega
   subst e;have hlt:¬a+(p:Int)<a+(p:Int):=by omega
   refine ⟨.yld 0 [.i .i64 (a+p)],?_,rfl,p,rfl,h2,h3,h4⟩;simp (disch:=omega) only [E7,hlt,EVT,EVM,EVC,xe,EVP,EV,simprocAttr]
theorem Jj0 (X A Y:List Rec) (x:Rec) (s:List Rec) (hsd:s=X++(A++x::Y)) (a m:Int) (p:Nat) (ha:a=X.length) (hm:m=a+A.length) (hp:p≤A.length) (hs:s.length≤1000000) (N:Nat) (hN:A.length<N) (w1 w2 w3:PV):
  Bp4.ev S N [Ag s,w1, .i .i64 m,w2,w3, .i .i64 (a+p)]=some (.yld 0 [Ag (X++(A.take p++x::A.drop p)++Y)]):=by
 have hl:s.length=X.length+A.length+1+Y.length:=by rw [hsd];simp;omega
 refine F9 (A.length - p) (fun t=>[.i .i64 (m - t),Ag ((X++A.take (A.length - t))++x::(A.drop (A.length - t)++Y))]) (fun _=> .yld 0 [Ag (X++(A.take p++x::A.drop p)++Y)]) ?_ (by omega) (fun t ht=> ?_) ?_
 ·simp (disch:=omega) only [EVT,EVM,EVC,xe,EVP,EV,simprocAttr];rw [hsd];simp
 ·left;refine ⟨?_,rfl⟩;obtain ⟨u,hu⟩:∃u,A.length - t=u+1:=⟨A.length - t - 1,by omega⟩;have hlt:u<A.length:=by omega
  have hy:=Ab hlt;have hd:A.drop u=A[u]::A.drop (u+1):=Cz hlt;have htk:A.take (u+1)=A.take u++[A[u]]:=by rw [Cw,hy];rfl
  have e1:A.length - (t+1)=u:=by omega
  have e0:X++A.take (u+1)++x::(A.drop (u+1)++Y)=X++A.take u++A[u]::x::(A.drop (u+1)++Y):=by rw [htk];simp only [A0,B9,Cv]
  show Zk.ev S N ([Ag s,w1, .i .i64 m,w2,w3, .i .i64 (a+p)]++[.i .i64 (m - t),Ag ((X++A.take (A.length - t))++x::(A.drop (A.length - t)++Y))])=some (.yld 1 [.i .i64 (m - ((t+1:Nat):Int)),Ag ((X++A.take (A.length - (t+1)))++x::(A.drop (A.length - (t+1))++Y))]);rw [hu,e1,e0,hd,B9];generalize A[u]=y at*;have lP:(X++A.take u).length=X.length+u:=by rw [Ay,Ap];omega
  have sw0:((X++A.take u++y::x::(A.drop (u+1)++Y)).set (X.length+u+1) y).set (X.length+u) x=X++A.take u++x::y::(A.drop (u+1)++Y):=by rw [←lP,List.set_comm _ _ (by omega)];exact Gz9 (X++A.take u) (A.drop (u+1)++Y) y x
  have g0:=gj (X++A.take u) (x::(A.drop (u+1)++Y)) y;have g1:=md (X++A.take u) (A.drop (u+1)++Y) y x;have lL:(X++A.take u++y::x::(A.drop (u+1)++Y)).length=s.length:=by rw [hl];simp only [Ay,As,Ap,B3];omega
  rw [lP] at g0 g1;have e5:m - ((t+1:Nat):Int)=m - (t:Int) - 1:=by omega
  rw [e5];exact Jj4 _ _ (X.length+u) y x g0 g1 sw0 (m - t) (a+p) (by omega) (by omega) (by omega) (by omega) _ _ _ _ _ N
 ·refine ⟨?_,rfl⟩;have hlt2:¬a+(p:Int)<m - ((A.length - p:Nat):Int):=by omega
  have e1:A.length - (A.length - p)=p:=by omega
  have e0:X++A.take p++x::(A.drop p++Y)=X++(A.take p++x::A.drop p)++Y:=by simp
  rw [e1,e0];simp (disch:=omega) only [E7,hlt2,EVT,EVM,EVC,xe,EVP,EV,simprocAttr]
end
end Go.X.G
/- Merging in place: the library's function, the M1. -/
namespace Go.X.G
open Go Go.X
section
variable {g:Nat} {caps:List PV} {c:Rec→Rec→Int} {P:Rec→Prop}
theorem It9 (hC:Cmp g caps c P) (X A B Y:List Rec) (s:List Rec) (hsd:s=X++(A++(B++Y))) (a m b mid:Int) (h i0 j0:Nat) (ha:a=X.length) (hm:m=a+A.length) (hb:b=m+B.length) (hM:(a+b) / 2=mid) (hmid:mid=a+h)
  (h1:i0≤j0) (h2:j0≤A.length) (h3:j0≤h) (h4:h≤i0+B.length) (hs:s.length≤1000000) (hP:∀y∈s,P y) (N:Nat) (hN:A.length<N):
  ∃i:Nat,Bp3.ev S N [Ag s, .i .i64 a, .i .i64 m, .i .i64 b, .f g caps, .i .i64 (a+i0), .i .i64 (a+j0)]=some (.yld 0 [.i .i64 (a+i)])∧i0≤i∧i≤j0∧
   (∀x y,i≠i0→A[i - 1]? =some x→B[h - i]? =some y→¬c y x<0)∧∀x y,i≠j0→A[i]? =some x→B[h - 1 - i]? =some y→c y x<0:=by
 have hl:s.length=X.length+A.length+B.length+Y.length:=by rw [hsd];simp;omega
 have hA:∀k y,A[k]? =some y→s[X.length+k]? =some y:=fun k y hk=>by have:=(Av.1 hk).1;rw [hsd,A4 (by omega),show X.length+k - X.length=k by omega,Bj this,hk]
 have hB:∀k y,B[k]? =some y→s[X.length+A.length+k]? =some y:=fun k y hk=>by have:=(Av.1 hk).1;rw [hsd,A4 (by omega),A4 (by omega),show X.length+A.length+k - X.length - A.length=k by omega,Bj this,hk]
 have key:=G7 (fn:=S) (N:=N) (η:=[Ag s, .i .i64 a, .i .i64 m, .i .i64 b, .f g caps, .i .i64 (a+i0), .i .i64 (a+j0)]) (id:=1) (init:=[.v 5, .v 6]) (body:=o9) (α:=Nat×Nat)
  (fun w=>[.i .i64 (a+w.1), .i .i64 (a+w.2)])
  (fun o=>∃i:Nat,o= .yld 0 [.i .i64 (a+i)]∧i0≤i∧i≤j0∧(∀x y,i≠i0→A[i - 1]? =some x→B[h - i]? =some y→¬c y x<0)∧∀x y,i≠j0→A[i]? =some x→B[h - 1 - i]? =some y→c y x<0)
  (fun w=>w.1≤w.2∧i0≤w.1∧w.2≤j0∧(∀x y,w.1≠i0→A[w.1 - 1]? =some x→B[h - w.1]? =some y→¬c y x<0)∧∀x y,w.2≠j0→A[w.2]? =some x→B[h - 1 - w.2]? =some y→c y x<0)
  (fun w=>w.2 - w.1) (i0,j0) ?_ ?_ (by simp only;omega) ?_
 ·obtain ⟨o,h1,p,rfl,h2⟩:=key;exact ⟨p,h1,h2⟩
 ·simp (disch:=omega) only [EVT,EVM,EVC,xe,EVP,EV,simprocAttr]
 ·exact ⟨h1,Af _,Af _,fun x y h0=>absurd rfl h0,fun x y h0=>absurd rfl h0⟩
 ·rintro ⟨p,q⟩ ⟨g1,g2,g3,g4,g5⟩;simp only at g1 g2 g3 g4 g5;by_cases hpq:p<q
  ·left;have hk:(p+q) / 2<A.length:=by omega
   have hx:=Ab hk;have hk2:h - 1 - (p+q) / 2<B.length:=by omega
   have hy:=Ab hk2;generalize A[(p+q) / 2]=x at hx;generalize B[h - 1 - (p+q) / 2]=y at hy;have hsx:=hA _ x hx;have hsy:=hB _ y hy;have hPx:P x:=hP x (Bv hsx);have hPy:P y:=hP y (Bv hsy);have hc:=hC.ok y x hPy hPx;have hlt:a+(p:Int)<a+(q:Int):=by omega
   have e1:(a+(p:Int)+(a+(q:Int))) / 2=a+(((p+q) / 2:Nat):Int):=by omega
   have e2:(a+(((p+q) / 2:Nat):Int)).toNat=X.length+(p+q) / 2:=by omega
   have e3:(mid+m - 1 - (a+(((p+q) / 2:Nat):Int))).toNat=X.length+A.length+(h - 1 - (p+q) / 2):=by omega
   have hkh:(p+q) / 2<h:=by omega
   by_cases hcy:c y x<0
   ·refine ⟨(p,(p+q) / 2),?_,⟨by simp only;omega,g2,by simp only;omega,g4,fun u v _ hu hv=> ?_⟩,by simp only;omega⟩
    ·simp only;generalize (p+q) / 2=k at*;simp (disch:=omega) only [E7,hlt,Eb,hM,e1,e2,e3,hsy,hsx,hc,hcy,EVT,EVM,EVC,xe,EVP,EV,simprocAttr]
    ·simp only at hu hv;rw [hx] at hu;injection hu with hu;subst hu;rw [hy] at hv;injection hv with hv;subst hv;exact hcy
   ·refine ⟨((p+q) / 2+1,q),?_,⟨by simp only;omega,by simp only;omega,g3,fun u v _ hu hv=> ?_,g5⟩,by simp only;omega⟩
    ·have e4:a+(((p+q) / 2+1:Nat):Int)=a+(((p+q) / 2:Nat):Int)+1:=by omega
     simp only [e4];generalize (p+q) / 2=k at*;simp (disch:=omega) only [E7,hlt,Eb,hM,e1,e2,e3,hsy,hsx,hc,hcy,EVT,EVM,EVC,xe,EVP,EV,simprocAttr]
    ·simp only [K1] at hu hv;rw [show h - ((p+q) / 2+1)=h - 1 - (p+q) / 2 by omega] at hv;rw [hx] at hu;injection hu with hu;subst hu;rw [hy] at hv;injection hv with hv;subst hv;exact hcy
  ·right;have e:p=q:=by omega
   subst e;have hlt:¬a+(p:Int)<a+(p:Int):=by omega
   refine ⟨.yld 0 [.i .i64 (a+p)],?_,rfl,p,rfl,g2,g3,g4,g5⟩;simp (disch:=omega) only [E7,hlt,EVT,EVM,EVC,xe,EVP,EV,simprocAttr]
theorem Gg8 {le:Rec→Rec→Bool} (ht:TP le) {B:List Rec} (hB:B.Pairwise fun x y=>le x y=true) (x:Rec) (p:Nat) (hp:p≤B.length) (h1:∀y,p≠0→B[p - 1]? =some y→le x y=false) (h2:∀y,B[p]? =some y→le x y=true):mrg le [x] B=B.take p++x::B.drop p:=by have e1:=S4 ht (A:=[x]) (B:=B) (by simp) hB 0 p (fun u v h=>absurd rfl h) (fun u v h0 hu hv=>by simp at hu;subst hu;exact h1 v h0 hv) (by simp) hp;have e2:=S4 ht (A:=[x]) (B:=B.drop p) (by simp) (hB.sublist (List.drop_sublist p B)) 1 0 (fun u v _ hu hv=>by simp at hu;subst hu;rw [A6] at hv;exact h2 v hv) (fun u v h=>absurd rfl h) (by simp) (by simp);rw [e1];simp only [List.take_zero,D7,List.take_succ_cons,List.drop_succ_cons,K8] at e2 ⊢;rw [e2];simp [mrg]
theorem Gg7 {le:Rec→Rec→Bool} (ht:TP le) {A:List Rec} (hA:A.Pairwise fun x y=>le x y=true) (x:Rec) (p:Nat) (hp:p≤A.length) (h1:∀y,p≠0→A[p - 1]? =some y→le y x=true) (h2:∀y,A[p]? =some y→le y x=false):mrg le A [x]=A.take p++x::A.drop p:=by have e1:=S4 ht (A:=A) (B:=[x]) hA (by simp) p 0 (fun u v h0 hu hv=>by simp at hv;subst hv;exact h1 u h0 hu) (fun u v h=>absurd rfl h) hp (by simp);have e2:=S4 ht (A:=A.drop p) (B:=[x]) (hA.sublist (List.drop_sublist p A)) (by simp) 0 1 (fun u v h=>absurd rfl h) (fun u v _ hu hv=>by simp at hv;subst hv;rw [A6] at hu;exact h2 u hu) (by simp) (by simp);rw [e1];simp only [List.take_zero,D7,List.take_succ_cons,List.drop_succ_cons,K8] at e2 ⊢;rw [e2];simp [mrg]
set_option maxHeartbeats 2000000 in
theorem J4 (hC:Cmp g caps c P) (ht:TP (leC c)):∀(n:Nat) (X A B Y:List Rec) (a m b:Int),A.length+B.length≤n→A≠[]→B≠[]→(A.Pairwise fun x y=>leC c x y=true)→(B.Pairwise fun x y=>leC c x y=true)→
  a=X.length→m=a+A.length→b=m+B.length→(X++A++B++Y).length≤1000000→(∀y∈X++A++B++Y,P y)→
  S Qv 1048581 [Ag (X++A++B++Y), .i .i64 a, .i .i64 m, .i .i64 b, .f g caps]=some [Ag (X++mrg (leC c) A B++Y)]
 |0,X,A,B,Y,a,m,b,hn,hA,_,_,_,_,_,_,_,_=>absurd (Bc (by omega)) hA
 |n+1,X,A,B,Y,a,m,b,hn,hA,hB,sA,sB,ha,hm,hb,hs,hP=>by
  have hA':0<A.length:=Bw.2 hA;have hB':0<B.length:=Bw.2 hB;have hs2:=hs;simp only [Ay] at hs2;obtain ⟨N,hN⟩:∃N,N=A.length+B.length+1:=⟨_,rfl⟩;refine Hm8 (N:=N) rfl ?_;by_cases c1:A.length=1
  ·-- one ahead
   obtain ⟨x,rfl⟩:=List.length_eq_one_iff.1 c1;have hsd:X++[x]++B++Y=X++x::(B++Y):=by simp
   obtain ⟨p,k1,k2,k3,k4⟩:=Jj3 hC X B Y x (X++[x]++B++Y) hsd a m b ha (by simpa using hm) hb hs hP N (by omega);have k5:=Jj2 X B Y x (X++[x]++B++Y) hsd a m b .u p ha (by simpa using hm) k2 hs N (by omega) (.i .i64 m) (.i .i64 b) (.f g caps);have e:=Gg8 ht sB x p k2 (fun y h0 hy=>Ef9.2 (k3 y h0 hy)) (fun y hy=>Ef8.2 (k4 y hy));rw [e];have q1:m - a=1:=by simp at hm;omega
   generalize X++[x]++B++Y=s at*;generalize X++(List.take p B++x::List.drop p B)++Y=u at*;simp (disch:=omega) only [E7,q1,k1,k5,EVT,EVM,EVC,xe,EVP,EV,simprocAttr]
  ·by_cases c2:B.length=1
   ·obtain ⟨x,rfl⟩:=List.length_eq_one_iff.1 c2;have hsd:X++A++[x]++Y=X++(A++x::Y):=by simp
    obtain ⟨p,k1,k2,k3,k4⟩:=Jj1 hC X A Y x (X++A++[x]++Y) hsd a m (.i .i64 b) ha hm hs hP N (by omega);have k5:=Jj0 X A Y x (X++A++[x]++Y) hsd a m p ha hm k2 hs N (by omega) (.i .i64 a) (.i .i64 b) (.f g caps);have e:=Gg7 ht sA x p k2 (fun y h0 hy=>Ef8.2 (k3 y h0 hy)) (fun y hy=>Ef9.2 (k4 y hy));rw [e];have q1:¬m - a=1:=by omega
    have q2:b - m=1:=by simp at hb;omega
    generalize X++A++[x]++Y=s at*;generalize X++(List.take p A++x::List.drop p A)++Y=u at*;simp (disch:=omega) only [E7,q1,q2,k1,k5,EVT,EVM,EVC,xe,EVP,EV,simprocAttr]
   ·-- two parts of more
    have q1:¬m - a=1:=by omega
    have q2:¬b - m=1:=by omega
    obtain ⟨h,hh⟩:∃h,h=(A.length+B.length) / 2:=⟨_,rfl⟩;obtain ⟨mid,hM⟩:∃mid,(a+b) / 2=mid:=⟨_,rfl⟩;have hmid:mid=a+h:=by omega
    obtain ⟨i0,j0,hc15,h1,h2,h3,h4,hi0,hj0⟩:∃i0 j0:Nat,Y7.ev S N [Ag (X++A++B++Y), .i .i64 a, .i .i64 m, .i .i64 b, .f g caps]=some (.yld 0 [.i .i64 (a+i0), .i .i64 (a+j0)])∧i0≤j0∧j0≤A.length∧j0≤h∧h≤i0+B.length∧(i0=0∨h - i0=B.length)∧(j0=h∨j0=A.length):=by
     by_cases hgt:h<A.length
     ·refine ⟨h - B.length,h,?_,by omega,by omega,by omega,by omega,by omega, .inl rfl⟩;have t1:mid<m:=by omega
      have t2:mid+m - b=a+((h - B.length:Nat):Int):=by omega
      rw [←t2,←hmid];generalize X++A++B++Y=s at*;simp (disch:=omega) only [E7,Eb,hM,t1,EVT,EVM,EVC,xe,EVP,EV,simprocAttr]
     ·refine ⟨0,A.length,?_,by omega,by omega,by omega,by omega, .inl rfl, .inr rfl⟩;have t1:¬mid<m:=by omega
      generalize X++A++B++Y=s at*;simp (disch:=omega) only [E7,Eb,hM,t1,hm,EVT,EVM,EVC,xe,EVP,EV,simprocAttr];simp
    have hsd:X++A++B++Y=X++(A++(B++Y)):=by simp
    obtain ⟨i,k1,k2,k3,k4,k5⟩:=It9 hC X A B Y (X++A++B++Y) hsd a m b mid h i0 j0 ha hm hb hM hmid h1 h2 h3 h4 hs hP N (by omega);have cut:=S4 ht sA sB i (h - i) (fun x y h0 hx hy=>Ef8.2 (k4 x y (fun e=>by
      rcases hi0 with q|q
      ·omega
      ·have:=(Av.1 hy).1;omega) hx hy)) (fun x y h0 hx hy=>Ef9.2 (k5 x y (fun e=>by
      rcases hj0 with q|q
      ·omega
      ·have:=(Av.1 hx).1;omega) hx (by rw [show h - 1 - i=h - i - 1 by omega];exact hy))) (by omega) (by omega)
    have eA:A.take i++A.drop i=A:=Bp _ _;have eB:B.take (h - i)++B.drop (h - i)=B:=Bp _ _;have lA1:(A.take i).length=i:=by rw [Ap];omega
    have lA2:(A.drop i).length=A.length - i:=B3;have lB1:(B.take (h - i)).length=h - i:=by rw [Ap];omega
    have lB2:(B.drop (h - i)).length=B.length - (h - i):=B3;have sA1:=sA.sublist (List.take_sublist i A);have sA2:=sA.sublist (List.drop_sublist i A);have sB1:=sB.sublist (List.take_sublist (h - i) B);have sB2:=sB.sublist (List.drop_sublist (h - i) B);generalize A.take i=A1 at*;generalize A.drop i=A2 at*;generalize B.take (h - i)=B1 at*;generalize B.drop (h - i)=B2 at*;have e0:X++A++B++Y=X++A1++A2++B1++(B2++Y):=by rw [←eA,←eB];simp
    have mem1:∀y,y∈X++A1++B1++(A2++B2++Y)→P y:=fun y hy=>hP y (by rw [e0];simp only [Bn] at hy ⊢;grind);have len1:(X++A1++B1++(A2++B2++Y)).length≤1000000:=by simp only [Ay] at hs2 ⊢;omega
    have lm1:=S3 (leC c) A1 B1;have mem2:∀y,y∈(X++mrg (leC c) A1 B1)++A2++B2++Y→P y:=fun y hy=>mem1 y (by simp only [Bn,mrg_mem] at hy ⊢;grind)
    have len2:((X++mrg (leC c) A1 B1)++A2++B2++Y).length≤1000000:=by simp only [Ay,lm1] at hs2 ⊢;omega
    have s1:(T.blk 0 Y6 Ol).ev S N [Ag (X++A++B++Y), .i .i64 a, .i .i64 m, .i .i64 b, .f g caps, .i .i64 (a+i0), .i .i64 (a+j0), .i .i64 (a+i)]=
      Ol.ev S N [Ag (X++A++B++Y), .i .i64 a, .i .i64 m, .i .i64 b, .f g caps, .i .i64 (a+i0), .i .i64 (a+j0), .i .i64 (a+i),Ag (X++A1++B1++(A2++B2++Y))]:=by
     by_cases t:A2=[]∨B1=[]
     ·have t1:¬(a+(i:Int)<m∧m<mid+m - (a+i)):=by
       rcases t with t|t
       ·rw [t] at lA2;simp at lA2;omega
       ·rw [t] at lB1;simp at lB1;omega
      have e1:X++A++B++Y=X++A1++B1++(A2++B2++Y):=by rw [e0];rcases t with t|t<;>subst t<;>simp
      rw [←e1];generalize X++A++B++Y=s at*;by_cases t2:a+(i:Int)<m
      ·have t3:¬m<mid+m - (a+i):=fun q=>t1 ⟨t2,q⟩;simp (disch:=omega) only [E7,Eb,hM,t2,t3,EVT,EVM,EVC,xe,EVP,EV,simprocAttr]
      ·simp (disch:=omega) only [E7,Eb,hM,t2,EVT,EVM,EVC,xe,EVP,EV,simprocAttr]
     ·have t':A2≠[]∧B1≠[]:=by grind
      have p1:=Bw.2 t'.1;have p2:=Bw.2 t'.2;have hr:=Bq9 (X++A1) A2 B1 (B2++Y) (a+i) m (mid+m - (a+i)) g caps (by simp only [Ay];omega) (by simp only [Ay];omega) (by simp only [Ay];omega) t'.1 t'.2 (by rw [←e0];exact hs);have t2:a+(i:Int)<m:=by omega
      have t3:m<mid+m - (a+i):=by omega
      rw [←e0] at hr;have e1:X++A1++B1++A2++(B2++Y)=X++A1++B1++(A2++B2++Y):=by simp
      rw [e1] at hr;generalize X++A1++B1++(A2++B2++Y)=s1 at*;generalize X++A++B++Y=s at*;simp (disch:=omega) only [E7,Eb,hM,t2,t3,hr,D3,Ks,EVT,EVM,EVC,xe,EVP,EV,simprocAttr]
    have s2:(T.blk 0 Y5 Om).ev S N [Ag (X++A++B++Y), .i .i64 a, .i .i64 m, .i .i64 b, .f g caps, .i .i64 (a+i0), .i .i64 (a+j0), .i .i64 (a+i),Ag (X++A1++B1++(A2++B2++Y))]=
      Om.ev S N [Ag (X++A++B++Y), .i .i64 a, .i .i64 m, .i .i64 b, .f g caps, .i .i64 (a+i0), .i .i64 (a+j0), .i .i64 (a+i),Ag (X++A1++B1++(A2++B2++Y)),Ag ((X++mrg (leC c) A1 B1)++A2++B2++Y)]:=by
     by_cases t:A1=[]∨B1=[]
     ·have t1:¬(a<a+(i:Int)∧a+(i:Int)<mid):=by
       rcases t with t|t
       ·rw [t] at lA1;simp at lA1;omega
       ·rw [t] at lB1;simp at lB1;omega
      have e1:X++A1++B1++(A2++B2++Y)=(X++mrg (leC c) A1 B1)++A2++B2++Y:=by rcases t with t|t<;>subst t<;>simp [mrg,K8]
      rw [←e1];generalize X++A1++B1++(A2++B2++Y)=s1 at*;generalize X++A++B++Y=s at*;by_cases t2:a<a+(i:Int)
      ·have t3:¬a+(i:Int)<mid:=fun q=>t1 ⟨t2,q⟩;simp (disch:=omega) only [E7,Eb,hM,t2,t3,EVT,EVM,EVC,xe,EVP,EV,simprocAttr]
      ·simp (disch:=omega) only [E7,Eb,hM,t2,EVT,EVM,EVC,xe,EVP,EV,simprocAttr]
     ·have t':A1≠[]∧B1≠[]:=by grind
      have p1:=Bw.2 t'.1;have p2:=Bw.2 t'.2;have hr:=J4 hC ht n X A1 B1 (A2++B2++Y) a (a+i) mid (by omega) t'.1 t'.2 sA1 sB1 ha (by omega) (by omega) len1 mem1;have t2:a<a+(i:Int):=by omega
      have t3:a+(i:Int)<mid:=by omega
      have e1:X++mrg (leC c) A1 B1++(A2++B2++Y)=(X++mrg (leC c) A1 B1)++A2++B2++Y:=by simp
      rw [e1] at hr;generalize (X++mrg (leC c) A1 B1)++A2++B2++Y=s2 at*;generalize X++A1++B1++(A2++B2++Y)=s1 at*;generalize X++A++B++Y=s at*;simp (disch:=omega) only [E7,Eb,hM,t2,t3,hr,D3,Ks,EVT,EVM,EVC,xe,EVP,EV,simprocAttr]
    have s3:Om.ev S N [Ag (X++A++B++Y), .i .i64 a, .i .i64 m, .i .i64 b, .f g caps, .i .i64 (a+i0), .i .i64 (a+j0), .i .i64 (a+i),Ag (X++A1++B1++(A2++B2++Y)),Ag ((X++mrg (leC c) A1 B1)++A2++B2++Y)]=
      some (.ret [Ag (X++mrg (leC c) A B++Y)]):=by
     have e9:X++mrg (leC c) A B++Y=(X++mrg (leC c) A1 B1)++mrg (leC c) A2 B2++Y:=by rw [cut];simp
     rw [e9];by_cases t:A2=[]∨B2=[]
     ·have t1:¬(mid<mid+m - (a+i)∧mid+m - (a+(i:Int))<b):=by
       rcases t with t|t
       ·rw [t] at lA2;simp at lA2;omega
       ·rw [t] at lB2;simp at lB2;omega
      have e1:(X++mrg (leC c) A1 B1)++A2++B2++Y=(X++mrg (leC c) A1 B1)++mrg (leC c) A2 B2++Y:=by rcases t with t|t<;>subst t<;>simp [mrg,K8]
      rw [←e1];generalize (X++mrg (leC c) A1 B1)++A2++B2++Y=s2 at*;generalize X++A1++B1++(A2++B2++Y)=s1 at*;generalize X++A++B++Y=s at*;by_cases t2:mid<mid+m - (a+(i:Int))
      ·have t3:¬mid+m - (a+(i:Int))<b:=fun q=>t1 ⟨t2,q⟩;simp (disch:=omega) only [E7,Eb,hM,t2,t3,EVT,EVM,EVC,xe,EVP,EV,simprocAttr]
      ·simp (disch:=omega) only [E7,Eb,hM,t2,EVT,EVM,EVC,xe,EVP,EV,simprocAttr]
     ·have t':A2≠[]∧B2≠[]:=by grind
      have p1:=Bw.2 t'.1;have p2:=Bw.2 t'.2;have hr:=J4 hC ht n (X++mrg (leC c) A1 B1) A2 B2 Y mid (mid+m - (a+i)) b (by omega) t'.1 t'.2 sA2 sB2 (by simp only [Ay,lm1];omega) (by omega) (by omega) len2 mem2;have t2:mid<mid+m - (a+(i:Int)):=by omega
      have t3:mid+m - (a+(i:Int))<b:=by omega
      generalize (X++mrg (leC c) A1 B1)++mrg (leC c) A2 B2++Y=s3 at*;generalize (X++mrg (leC c) A1 B1)++A2++B2++Y=s2 at*;generalize X++A1++B1++(A2++B2++Y)=s1 at*;generalize X++A++B++Y=s at*;simp (disch:=omega) only [E7,Eb,hM,t2,t3,hr,D3,Ks,EVT,EVM,EVC,xe,EVP,EV,simprocAttr]
    have f2:Ol.ev S N [Ag (X++A++B++Y), .i .i64 a, .i .i64 m, .i .i64 b, .f g caps, .i .i64 (a+i0), .i .i64 (a+j0), .i .i64 (a+i),Ag (X++A1++B1++(A2++B2++Y))]=some (.ret [Ag (X++mrg (leC c) A B++Y)]):=s2.trans s3;have f1:=s1.trans f2;clear s1 s2 s3 f2 mem1 mem2 cut k4 k5;generalize X++mrg (leC c) A B++Y=s3 at*;generalize X++A++B++Y=s at*;simp (disch:=omega) only [E7,q1,q2,Eb,hM,hc15,k1,f1,EVT,EVM,EVC,xe,EVP,EV,simprocAttr]
end
end Go.X.G
/- Stable sorting: the library's functions. -/
namespace Go.X.G
open Go Go.X
section
variable {g:Nat} {caps:List PV} {c:Rec→Rec→Int} {P:Rec→Prop}
theorem Jg0 (hC:Cmp g caps c P) (L L':List Rec) (i:Nat) (x y:Rec) (g0:L[i]? =some y) (g1:L[i+1]? =some x) (sw:(L.set (i+1) y).set i x=L') (k e:Int) (hk:k=i+1) (he:e<k) (he2:0≤e) (hx:P x) (hy:P y) (hlt:c x y<0) (hL:L.length≤1000000) (w0 w2 w4 w5:PV) (N:Nat):
  Lh.ev S N [w0, .i .i64 e,w2, .f g caps,w4,w5, .i .i64 k,Ag L]=some (.yld 3 [.i .i64 (k - 1),Ag L']):=by
 have hi:=(Av.1 g1).1;have ti0:(k - 1).toNat=i:=by omega
 have ti1:k.toNat=i+1:=by omega
 have g2:(L.set (i+1) y)[i]? =some y:=by rw [Ap5 (by omega)];exact g0
 have hc:=hC.ok x y hx hy;simp (disch:=first|omega|(rw [Hk];omega)) only [P6,I5,Lf,he,ti0,ti1,g0,g1,g2,sw,hc,hlt,EVT,EVM,EVC,xe,EVP,EV,simprocAttr]
theorem Bt9 (hC:Cmp g caps c P) (L:List Rec) (i:Nat) (x y:Rec) (g0:L[i]? =some y) (g1:L[i+1]? =some x) (k e:Int) (hk:k=i+1) (he:e<k) (hx:P x) (hy:P y) (hlt:¬c x y<0) (hL:L.length≤1000000) (w0 w2 w4 w5:PV) (N:Nat):
  Lh.ev S N [w0, .i .i64 e,w2, .f g caps,w4,w5, .i .i64 k,Ag L]=some (.yld 2 [Ag L]):=by
 have hi:=(Av.1 g1).1;have ti0:(k - 1).toNat=i:=by omega
 have ti1:k.toNat=i+1:=by omega
 have hc:=hC.ok x y hx hy;simp (disch:=omega) only [P6,I5,Lf,he,ti0,ti1,g0,g1,hc,hlt,EVT,EVM,EVC,xe,EVP,EV,simprocAttr]
theorem Eg6 (L:List Rec) (k e:Int) (he:¬e<k) (w0 w2 w3 w4 w5:PV) (N:Nat):
  Lh.ev S N [w0, .i .i64 e,w2,w3,w4,w5, .i .i64 k,Ag L]=some (.yld 2 [Ag L]):=by
 simp (disch:=omega) only [P6,I5,Lf,he,EVT,EVM,EVC,xe,EVP,EV,simprocAttr]
theorem Jf9 (hC:Cmp g caps c P) (ht:TP (leC c)) (X R Y:List Rec) (x:Rec) (hR:R.Pairwise fun a b=>leC c a b=true) (hP:∀y∈X++R++x::Y,P y) (hs:(X++R++x::Y).length≤1000000) (a k:Int) (ha:a=X.length) (hk:k=a+R.length) (w0 w2:PV) (N:Nat) (hN:R.length<N):
  ∃R1 R2,R=R1++R2∧(∀y∈R1,leC c y x=true)∧(∀y∈R2,leC c y x=false)∧
   Bp9.ev S N [w0, .i .i64 a,w2, .f g caps, .i .i64 k,Ag (X++R++x::Y)]=some (.yld 2 [Ag (X++(R1++x::R2)++Y)]):=by
 have hx:P x:=hP x (by simp);have hs2:=hs;simp only [Ay,As] at hs2;have key:=G7 (fn:=S) (N:=N) (η:=[w0, .i .i64 a,w2, .f g caps, .i .i64 k,Ag (X++R++x::Y)]) (id:=3) (init:=[.v 4, .v 5]) (body:=Lh) (α:=List Rec×List Rec)
  (fun w=>[.i .i64 (a+w.1.length),Ag (X++w.1++x::(w.2++Y))])
  (fun o=>∃R1 R2,R=R1++R2∧(∀y∈R1,leC c y x=true)∧(∀y∈R2,leC c y x=false)∧o= .yld 2 [Ag (X++(R1++x::R2)++Y)])
  (fun w=>R=w.1++w.2∧∀y∈w.2,leC c y x=false) (fun w=>w.1.length) (R,[]) ?_ ⟨by simp,by simp⟩ hN ?_
 ·obtain ⟨o,h1,R1,R2,h2,h3,h4,rfl⟩:=key;exact ⟨R1,R2,h2,h3,h4,h1⟩
 ·subst hk;simp only [Cv];generalize X++R++x::Y=s at*;simp (disch:=omega) only [EVT,EVM,EVC,xe,EVP,EV,simprocAttr]
 ·rintro ⟨R1,R2⟩ ⟨h1,h2⟩;simp only at h1 h2;have hlen:=congrArg List.length h1;simp only [Ay] at hlen;rcases List.eq_nil_or_concat R1 with rfl|⟨R0,y,rfl⟩
  ·right;refine ⟨_,Eg6 _ _ a (by simp) _ _ _ _ _ N,rfl,[],R2,h1,by simp,h2,?_⟩;simp
  ·rw [List.concat_eq_append] at*;simp only [Ay,As,A9] at hlen;have hy:P y:=hP y (by rw [h1];simp);have lP:(X++R0).length=X.length+R0.length:=Ay;have g0:=gj (X++R0) (x::(R2++Y)) y;have g1:=md (X++R0) (R2++Y) y x;rw [lP] at g0 g1;have e0:X++(R0++[y])++x::(R2++Y)=X++R0++y::x::(R2++Y):=by simp
   have lL:(X++R0++y::x::(R2++Y)).length≤1000000:=by simp only [Ay,As];omega
   by_cases hlt:c x y<0
   ·left;have sw0:((X++R0++y::x::(R2++Y)).set (X.length+R0.length+1) y).set (X.length+R0.length) x=X++R0++x::(y::R2++Y):=by rw [←lP,List.set_comm _ _ (by omega)];exact Gz9 (X++R0) (R2++Y) y x
    refine ⟨(R0,y::R2),?_,⟨by simp only;rw [h1];simp,fun w hw=> ?_⟩,by simp⟩
    ·have:=Jg0 hC _ _ (X.length+R0.length) x y g0 g1 sw0 (a+((R0++[y]).length:Nat)) a (by simp;omega) (by simp;omega) (by omega) hx hy hlt lL w0 w2 (.i .i64 k) (Ag (X++R++x::Y)) N;have e1:a+((R0++[y]).length:Nat) - 1=a+(R0.length:Int):=by simp;omega
     rw [e1] at this;show Lh.ev S N [w0, .i .i64 a,w2, .f g caps, .i .i64 k,Ag (X++R++x::Y), .i .i64 (a+((R0++[y]).length:Nat)),Ag (X++(R0++[y])++x::(R2++Y))]=_;rw [e0];exact this
    ·rcases Am.1 hw with rfl|hw
     ·exact Ef9.2 hlt
     ·exact h2 w hw
   ·right;have hle:leC c y x=true:=Ef8.2 hlt;refine ⟨_,?_,rfl,R0++[y],R2,h1,kq ht (by rw [h1] at hR;exact (E4.1 hR).1) hle,h2,rfl⟩;have:=Bt9 hC _ (X.length+R0.length) x y g0 g1 (a+((R0++[y]).length:Nat)) a (by simp;omega) (by simp;omega) hx hy hlt lL w0 w2 (.i .i64 k) (Ag (X++R++x::Y)) N;show Lh.ev S N [w0, .i .i64 a,w2, .f g caps, .i .i64 k,Ag (X++R++x::Y), .i .i64 (a+((R0++[y]).length:Nat)),Ag (X++(R0++[y])++x::(R2++Y))]=_;rw [e0,this,←e0];simp
theorem V8 (hC:Cmp g caps c P) (ht:TP (leC c)) (X A Y:List Rec) (a b:Int) (ha:a=X.length) (hb:b=a+A.length) (hP:∀y∈X++A++Y,P y) (hs:(X++A++Y).length≤1000000):
  ∃R,Stab (leC c) R A∧R.length=A.length∧S Vg 1048580 [Ag (X++A++Y), .i .i64 a, .i .i64 b, .f g caps]=some [Ag (X++R++Y)]:=by
 have hs2:=hs;simp only [Ay] at hs2;cases A with
 |nil=>
  refine ⟨[],Rj _,rfl,?_⟩;refine Fj0 (N:=2) rfl ?_;simp only [A9] at hb;have h1:¬a+1<b:=by omega
  have key:l8.ev S 2 [Ag (X++[]++Y), .i .i64 a, .i .i64 b, .f g caps]=some (.yld 0 [Ag (X++[]++Y)]):=by
   generalize X++[]++Y=s at*;refine F9 0 (fun _=>[.i .i64 (a+1),Ag s]) (fun _=> .yld 0 [Ag s]) ?_ (by omega) (fun i hi=>absurd hi (by omega)) ⟨?_,rfl⟩
   ·simp (disch:=omega) only [EVT,EVM,EVC,xe,EVP,EV,simprocAttr]
   ·simp (disch:=omega) only [P6,I5,Lf,h1,EVT,EVM,EVC,xe,EVP,EV,simprocAttr]
  generalize X++[]++Y=s at*;simp (disch:=omega) only [P6,I5,Lf,key,EVT,EVM,EVC,xe,EVP,EV,simprocAttr]
 |cons x0 A=>
  obtain ⟨N,hN⟩:∃N,N=A.length+3:=⟨_,rfl⟩;simp only [As] at hb hs2;have key:=G7 (fn:=S) (N:=N) (η:=[Ag (X++x0::A++Y), .i .i64 a, .i .i64 b, .f g caps]) (id:=1) (init:=[.bin .add (.v 1) (.c (.i .i64 1)), .v 0]) (body:=Zw) (α:=List Rec×List Rec×List Rec)
   (fun w=>[.i .i64 (a+w.1.length),Ag (X++w.1++(w.2.2++Y))])
   (fun o=>∃R,Stab (leC c) R (x0::A)∧R.length=(x0::A).length∧o= .yld 0 [Ag (X++R++Y)])
   (fun w=>x0::A=w.2.1++w.2.2∧Stab (leC c) w.1 w.2.1∧w.1.length=w.2.1.length) (fun w=>w.2.2.length) ([x0],[x0],A) ?_ ⟨rfl,j9 _ _,rfl⟩ (by simp only;omega) ?_
  ·obtain ⟨o,h1,R,h2,h3,rfl⟩:=key;refine ⟨R,h2,h3,?_⟩;refine Fj0 (N:=N) rfl ?_;have h4:l8.ev S N [Ag (X++x0::A++Y), .i .i64 a, .i .i64 b, .f g caps]=_:=h1;clear h1;generalize X++x0::A++Y=s at*;generalize X++R++Y=u at*;simp (disch:=omega) only [P6,I5,Lf,h4,EVT,EVM,EVC,xe,EVP,EV,simprocAttr]
  ·simp only [As,A9];have e:X++[x0]++(A++Y)=X++x0::A++Y:=by simp
   rw [e];have e1:a+((0+1:Nat):Int)=a+1:=by omega
   rw [e1];generalize X++x0::A++Y=s at*;simp (disch:=omega) only [EVT,EVM,EVC,xe,EVP,EV,simprocAttr]
  ·rintro ⟨R,D,Z⟩ ⟨h1,h2,h3⟩;simp only at h1 h2 h3;have hlen:=congrArg List.length h1;simp only [Ay,As] at hlen;cases Z with
   |nil=>
    right;rw [Dp] at h1;subst h1;refine ⟨_,?_,rfl,R,h2,h3,rfl⟩;have hlt:¬a+(R.length:Int)<b:=by simp only [As] at h3;omega
    simp only [Cv];generalize X++x0::A++Y=s at*;have hu:(X++R++Y).length≤1000000:=by simp only [Ay];omega
    generalize X++R++Y=u at*;simp (disch:=omega) only [P6,I5,Lf,hlt,EVT,EVM,EVC,xe,EVP,EV,simprocAttr]
   |cons x Z=>
    left;simp only [As] at hlen;have hmem:∀y∈X++R++x::(Z++Y),P y:=fun y hy=>hP y (by
     rw [h1];have:=h2.mem ht y;simp only [Bn,Am] at hy ⊢
     grind)
    have hlen2:(X++R++x::(Z++Y)).length≤1000000:=by simp only [Ay,As];omega
    obtain ⟨R1,R2,rfl,k1,k2,k3⟩:=Jf9 hC ht X R (Z++Y) x h2.sorted hmem hlen2 a (a+R.length) ha rfl (Ag (X++x0::A++Y)) (.i .i64 b) N (by omega);refine ⟨(R1++x::R2,D++[x],Z),?_,⟨by simp only;rw [h1];simp,Ex4 ht h2 k1 k2,by simp at h3 ⊢;omega⟩,by simp⟩;have e1:a+((R1++x::R2).length:Nat)=a+((R1++R2).length:Nat)+1:=by simp;omega
    have hlt:a+((R1++R2).length:Nat)<b:=by omega
    show Zw.ev S N [Ag (X++x0::A++Y), .i .i64 a, .i .i64 b, .f g caps, .i .i64 (a+((R1++R2).length:Nat)),Ag (X++(R1++R2)++x::(Z++Y))]=some (.yld 1 [.i .i64 (a+((R1++x::R2).length:Nat)),Ag (X++(R1++x::R2)++(Z++Y))]);rw [e1];have hb2:(R1++R2).length≤1000000:=by simp only [Ay] at hlen2 ⊢;omega
    generalize (R1++R2).length=n at*;generalize X++(R1++R2)++x::(Z++Y)=s1 at*;generalize X++(R1++x::R2)++(Z++Y)=s2 at*;generalize X++x0::A++Y=s at*;simp (disch:=omega) only [P6,I5,Lf,hlt,k3,EVT,EVM,EVC,xe,EVP,EV,simprocAttr]
end
end Go.X.G
/- Stable sorting: the M1. -/
namespace Go.X.G
open Go Go.X
theorem ik {α:Type} {le:α→α→Bool} (ht:TP le) {bs:Nat} {Y LY:List α} (h:Blk le bs Y LY) (hl:Y.length≤2*bs) (hb:bs<Y.length):Stab le (mrg le (Y.take bs) (Y.drop bs)) LY:=by have h1:=h.head;have h2:=(h.tail).all (by rw [B3];omega);have:=Stab.mrg ht h1 h2;rwa [Bp] at this
theorem Blk.pre {α:Type} {le:α→α→Bool} {bs k:Nat} {Y LY:List α} (h:Blk le bs Y LY):Blk le bs (Y.take (k*bs)) (LY.take (k*bs)):=by
 refine ⟨by simp [h.len],fun j=> ?_⟩;rw [List.drop_take,List.drop_take,Ap3,Ap3];by_cases hj:j<k
 ·have e:(j+1)*bs≤k*bs:=Bb _ hj;rw [Nat.succ_mul] at e;rw [Jx (by omega)];exact h.st j
 ·have e:k*bs≤j*bs:=Bb _ (by omega);rw [show k*bs - j*bs=0 by omega,Nat.min_eq_right (by omega),List.take_zero,List.take_zero];exact Rj le
section
variable {g:Nat} {caps:List PV} {c:Rec→Rec→Int} {P:Rec→Prop}
theorem It6 (hC:Cmp g caps c P) (ht:TP (leC c)) (l:List Rec) (hP:∀y∈l,P y) (hs:l.length≤1000000) (N:Nat) (hN:l.length+2<N):
  ∃(X LX Y:List Rec) (q:Nat),Bs4.ev S N [Ag l, .i .i64 l.length, .f g caps]=some (.yld 0 [.i .i64 X.length,Ag (X++Y)])∧l=LX++Y∧X.length=q*20∧Y.length<20∧Blk (leC c) 20 X LX∧∀y∈X++Y,P y:=by
 have key:=G7 (fn:=S) (N:=N) (η:=[Ag l, .i .i64 l.length, .f g caps]) (id:=1) (init:=[.c (.i .i64 0), .c (.i .i64 20), .v 0]) (body:=pn) (α:=List Rec×List Rec×List Rec×Nat)
  (fun w=>[.i .i64 (w.1.length:Int), .i .i64 ((w.1.length:Int)+20),Ag (w.1++w.2.2.1)])
  (fun o=>∃(X LX Y:List Rec) (q:Nat),o= .yld 0 [.i .i64 X.length,Ag (X++Y)]∧l=LX++Y∧X.length=q*20∧Y.length<20∧Blk (leC c) 20 X LX∧∀y∈X++Y,P y)
  (fun w=>l=w.2.1++w.2.2.1∧w.1.length=w.2.2.2*20∧Blk (leC c) 20 w.1 w.2.1∧∀y∈w.1++w.2.2.1,P y) (fun w=>w.2.2.1.length) ([],[],l,0) ?_ ⟨rfl,by simp,Blk.nil _ _,by simpa using hP⟩ (by simp only;omega) ?_
 ·obtain ⟨o,h1,X,LX,Y,q,rfl,h2⟩:=key;exact ⟨X,LX,Y,q,h1,h2⟩
 ·simp (disch:=omega) only [EVT,EVM,EVC,xe,EVP,EV,simprocAttr]
  try simp
 ·rintro ⟨X,LX,Y,q⟩ ⟨h1,h2,h3,h4⟩;simp only at h1 h2 h3 h4;have hlen:=congrArg List.length h1;simp only [Ay] at hlen;have hXL:=h3.len;by_cases hge:20≤Y.length
  ·left;have eY:Y.take 20++Y.drop 20=Y:=Bp _ _;have l1:(Y.take 20).length=20:=by rw [Ap];omega
   have l2:(Y.drop 20).length=Y.length - 20:=B3;have eXY:X++Y.take 20++Y.drop 20=X++Y:=by rw [A0,eY]
   obtain ⟨R,k1,k2,k3⟩:=V8 hC ht X (Y.take 20) (Y.drop 20) (X.length:Int) ((X.length:Int)+20) rfl (by omega) (by rw [eXY];exact h4) (by rw [eXY,Ay];omega);rw [eXY] at k3;refine ⟨(X++R,LX++Y.take 20,Y.drop 20,q+1),?_,⟨by simp only;rw [h1,A0,eY],by simp only [Ay];omega,Blk.app h2 h3 (Blk.one k1 k2 (by omega)),fun y hy=>h4 y ?_⟩,by simp only;omega⟩
   ·have e1:((X++R).length:Int)=(X.length:Int)+20:=by simp only [Ay];omega
    have hge':(X.length:Int)+20≤(l.length:Int):=by omega
    simp only;rw [e1];generalize X++R++Y.drop 20=s1 at*;generalize X++Y=s0 at*;simp (disch:=omega) only [P7,hge',k3,D3,Ks,EVT,EVM,EVC,xe,EVP,EV,simprocAttr]
   ·have:=k1.mem ht y;simp only [Bn] at hy;rcases hy with (hy|hy)|hy
    ·simp [hy]
    ·exact Br _ (Gb (this.1 hy))
    ·exact Br _ (Ib hy)
  ·right;have hge':¬(X.length:Int)+20≤(l.length:Int):=by omega
   refine ⟨.yld 0 [.i .i64 X.length,Ag (X++Y)],?_,rfl,X,LX,Y,q,rfl,h1,h2,by omega,h3,h4⟩;simp only;generalize X++Y=s0 at*;simp (disch:=omega) only [P7,hge',EVT,EVM,EVC,xe,EVP,EV,simprocAttr]
theorem It5 (hC:Cmp g caps c P) (ht:TP (leC c)) (l r:List Rec) (bs:Nat) (hbs:0<bs) (hbs2:bs<l.length) (hr:Blk (leC c) bs r l) (hP:∀y∈r,P y) (hs:l.length≤1000000) (w0:PV) (w3 w4 w5:PV) (N:Nat) (hN:l.length+2<N):
  ∃(X LX Y LY:List Rec) (q:Nat),Bp6.ev S N [w0, .i .i64 l.length, .f g caps,w3,w4,w5, .i .i64 bs,Ag r]=some (.yld 2 [.i .i64 X.length,Ag (X++Y)])∧l=LX++LY∧X.length=q*(2*bs)∧Y.length<2*bs∧Blk (leC c) (2*bs) X LX∧Blk (leC c) bs Y LY∧∀y∈X++Y,P y:=by
 have key:=G7 (fn:=S) (N:=N) (η:=[w0, .i .i64 l.length, .f g caps,w3,w4,w5, .i .i64 bs,Ag r]) (id:=3) (init:=[.c (.i .i64 0), .bin .mul (.c (.i .i64 2)) (.v 6), .v 7]) (body:=pq) (α:=(List Rec×List Rec)×(List Rec×List Rec)×Nat)
  (fun w=>[.i .i64 (w.1.1.length:Int), .i .i64 ((w.1.1.length:Int)+2*bs),Ag (w.1.1++w.2.1.1)])
  (fun o=>∃(X LX Y LY:List Rec) (q:Nat),o= .yld 2 [.i .i64 X.length,Ag (X++Y)]∧l=LX++LY∧X.length=q*(2*bs)∧Y.length<2*bs∧Blk (leC c) (2*bs) X LX∧Blk (leC c) bs Y LY∧∀y∈X++Y,P y)
  (fun w=>l=w.1.2++w.2.1.2∧w.1.1.length=w.2.2*(2*bs)∧Blk (leC c) (2*bs) w.1.1 w.1.2∧Blk (leC c) bs w.2.1.1 w.2.1.2∧∀y∈w.1.1++w.2.1.1,P y) (fun w=>w.2.1.1.length) (([],[]),(r,l),0) ?_ ⟨rfl,by simp,Blk.nil _ _,hr,by simpa using hP⟩ (by have:=hr.len;simp only;omega) ?_
 ·obtain ⟨o,h1,X,LX,Y,LY,q,rfl,h2⟩:=key;exact ⟨X,LX,Y,LY,q,h1,h2⟩
 ·simp (disch:=omega) only [EVT,EVM,EVC,xe,EVP,EV,simprocAttr];simp
 ·rintro ⟨⟨X,LX⟩,⟨Y,LY⟩,q⟩ ⟨h1,h2,h3,h4,h5⟩;simp only at h1 h2 h3 h4 h5;have hlen:=congrArg List.length h1;simp only [Ay] at hlen;have hXL:=h3.len;have hYL:=h4.len;by_cases hge:2*bs≤Y.length
  ·left;have eY:Y.take (2*bs)++Y.drop (2*bs)=Y:=Bp _ _;have l1:(Y.take (2*bs)).length=2*bs:=by rw [Ap];omega
   have l2:(Y.drop (2*bs)).length=Y.length - 2*bs:=B3;have hp:=h4.pre (k:=2);have hz:Blk (leC c) bs (Y.drop (2*bs)) (LY.drop (2*bs)):=by have:=h4.tail.tail;rwa [Cm,Cm,show bs+bs=2*bs by omega] at this
   have hst:=ik ht hp (by omega) (by omega);have sA:((Y.take (2*bs)).take bs).Pairwise fun x y=>leC c x y=true:=hp.head.sorted;have sB:((Y.take (2*bs)).drop bs).Pairwise fun x y=>leC c x y=true:=(hp.tail.all (by rw [B3];omega)).sorted;have lA:((Y.take (2*bs)).take bs).length=bs:=by rw [Ap];omega
   have lB:((Y.take (2*bs)).drop bs).length=bs:=by rw [B3];omega
   have eAB:(Y.take (2*bs)).take bs++(Y.take (2*bs)).drop bs=Y.take (2*bs):=Bp _ _;generalize (Y.take (2*bs)).take bs=A at*;generalize (Y.take (2*bs)).drop bs=B at*;have eXY:X++A++B++Y.drop (2*bs)=X++Y:=by rw [A0 X,eAB,A0,eY]
   have hm:=J4 hC ht (A.length+B.length) X A B (Y.drop (2*bs)) (X.length:Int) ((X.length:Int)+bs) ((X.length:Int)+2*bs) (Af _) (by intro e;rw [e] at lA;simp at lA;omega) (by intro e;rw [e] at lB;simp at lB;omega) sA sB rfl (by omega) (by omega) (by rw [eXY,Ay];omega) (by rw [eXY];exact h5);rw [eXY] at hm;have lM:=S3 (leC c) A B;have eL:LY.take (2*bs)++LY.drop (2*bs)=LY:=Bp _ _;refine ⟨((X++mrg (leC c) A B,LX++LY.take (2*bs)),(Y.drop (2*bs),LY.drop (2*bs)),q+1),?_,⟨by simp only;rw [h1,A0,eL],by simp only [Ay];rw [Nat.succ_mul];omega,Blk.app h2 h3 (Blk.one hst (by rw [lM,Ap];omega) (by omega)),hz,fun y hy=>h5 y ?_⟩,by simp only;omega⟩
   ·have e1:((X++mrg (leC c) A B).length:Int)=(X.length:Int)+2*bs:=by simp only [Ay];omega
    have hge':(X.length:Int)+2*(bs:Int)≤(l.length:Int):=by omega
    simp only;rw [e1];generalize X++mrg (leC c) A B++Y.drop (2*bs)=s1 at*;generalize X++Y=s0 at*;simp (disch:=omega) only [P7,hge',hm,D3,Ks,EVT,EVM,EVC,xe,EVP,EV,simprocAttr]
   ·rw [←eXY];simp only [Bn,mrg_mem] at hy ⊢
    grind
  ·right;have hge':¬(X.length:Int)+2*(bs:Int)≤(l.length:Int):=by omega
   refine ⟨.yld 2 [.i .i64 X.length,Ag (X++Y)],?_,rfl,X,LX,Y,LY,q,rfl,h1,h2,by omega,h3,h4,h5⟩;simp only;generalize X++Y=s0 at*;simp (disch:=omega) only [P7,hge',EVT,EVM,EVC,xe,EVP,EV,simprocAttr]
theorem It7 (hC:Cmp g caps c P) (ht:TP (leC c)) (l r:List Rec) (bs:Nat) (hbs:0<bs) (hbs2:bs<l.length) (hr:Blk (leC c) bs r l) (hP:∀y∈r,P y) (hs:l.length≤1000000) (w0 w3 w4 w5:PV) (N:Nat) (hN:l.length+2<N):
  ∃r',Blk (leC c) (2*bs) r' l∧(∀y∈r',P y)∧Zv.ev S N [w0, .i .i64 l.length, .f g caps,w3,w4,w5, .i .i64 bs,Ag r]=some (.yld 1 [.i .i64 ((2*bs:Nat):Int),Ag r']):=by
 obtain ⟨X,LX,Y,LY,q,k,h1,h2,h3,h4,h5,h6⟩:=It5 hC ht l r bs hbs hbs2 hr hP hs w0 w3 w4 w5 N hN;have hlen:=congrArg List.length h1;simp only [Ay] at hlen;have hXL:=h4.len;have hYL:=h5.len;have hlt:(bs:Int)<(l.length:Int):=by omega
 have e2:((2*bs:Nat):Int)=(bs:Int)*2:=by omega
 rw [e2];by_cases hge:bs<Y.length
 ·have eY:Y.take bs++Y.drop bs=Y:=Bp _ _;have hst:=ik ht h5 (by omega) hge;have sA:=h5.head.sorted;have sB:=(h5.tail.all (by rw [B3];omega)).sorted;have lA:(Y.take bs).length=bs:=by rw [Ap];omega
  have lB:(Y.drop bs).length=Y.length - bs:=B3;generalize Y.take bs=A at*;generalize Y.drop bs=B at*;have eXY:X++A++B++[]=X++Y:=by rw [Dp,A0,eY]
  have hm:=J4 hC ht (A.length+B.length) X A B [] (X.length:Int) ((X.length:Int)+bs) (l.length:Int) (Af _) (by intro e;rw [e] at lA;simp at lA;omega) (by intro e;rw [e] at lB;simp at lB;omega) sA sB rfl (by omega) (by omega) (by rw [eXY,Ay];omega) (by rw [eXY];exact h6);rw [eXY,Dp] at hm;have lM:=S3 (leC c) A B;refine ⟨X++mrg (leC c) A B,by rw [h1];exact Blk.app h2 h4 (Blk.one hst (by omega) (by omega)),fun y hy=>h6 y (by
   rw [←eXY];simp only [Bn,mrg_mem] at hy ⊢
   grind),?_⟩
  have hge':(X.length:Int)+(bs:Int)<(l.length:Int):=by omega
  generalize X++mrg (leC c) A B=s1 at*;generalize X++Y=s0 at*;simp (disch:=omega) only [P7,hlt,hge',k,hm,D3,Ks,EVT,EVM,EVC,xe,EVP,EV,simprocAttr]
 ·refine ⟨X++Y,by rw [h1];exact Blk.app h2 h4 (Blk.one (h5.all (by omega)) hYL (by omega)),h6,?_⟩;have hge':¬(X.length:Int)+(bs:Int)<(l.length:Int):=by omega
  generalize X++Y=s0 at*;simp (disch:=omega) only [P7,hlt,hge',k,EVT,EVM,EVC,xe,EVP,EV,simprocAttr]
theorem Bj9 (hC:Cmp g caps c P) (ht:TP (leC c)) (l:List Rec) (hP:∀y∈l,P y) (hs:l.length≤1000000):
  ∃r,Stab (leC c) r l∧r.length=l.length∧S d4 1048579 [Ag l, .i .i64 l.length, .f g caps]=some [Ag r]:=by
 obtain ⟨N,hN⟩:∃N,N=l.length+3:=⟨_,rfl⟩;obtain ⟨X,LX,Y,q,k0,h1,h2,h3,h4,h5⟩:=It6 hC ht l hP hs N (by omega);have hlen:=congrArg List.length h1;simp only [Ay] at hlen;have hXL:=h4.len;obtain ⟨R,i1,i2,i3⟩:=V8 hC ht X Y [] (X.length:Int) (l.length:Int) rfl (by omega) (by simpa using h5) (by simp;omega);simp only [Dp] at i3;have hB:Blk (leC c) 20 (X++R) l:=by rw [h1];exact Blk.app h2 h4 (Blk.one i1 i2 (by omega))
 have hP':∀y∈X++R,P y:=fun y hy=>h5 y (by
  have:=i1.mem ht y;simp only [Bn] at hy ⊢
  grind)
 have key:=G7 (fn:=S) (N:=N) (η:=[Ag l, .i .i64 l.length, .f g caps, .i .i64 X.length,Ag (X++Y),Ag (X++R)]) (id:=1) (init:=[.c (.i .i64 20), .v 5]) (body:=Zv) (α:=Nat×List Rec)
  (fun w=>[.i .i64 (w.1:Int),Ag w.2])
  (fun o=>∃r,Stab (leC c) r l∧r.length=l.length∧o= .yld 0 [Ag r])
  (fun w=>0<w.1∧Blk (leC c) w.1 w.2 l∧∀y∈w.2,P y) (fun w=>l.length - w.1) (20,X++R) ?_ ⟨by simp,hB,hP'⟩ (by simp only;omega) ?_
 ·obtain ⟨o,k1,r,k2,k3,rfl⟩:=key;refine ⟨r,k2,k3,?_⟩;refine Hp3 (N:=N) rfl ?_;have k4:Br0.ev S N [Ag l, .i .i64 l.length, .f g caps, .i .i64 X.length,Ag (X++Y),Ag (X++R)]=_:=k1;clear k1;generalize X++Y=s0 at*;generalize X++R=s1 at*;simp (disch:=omega) only [P7,k0,i3,k4,D3,Ks,EVT,EVM,EVC,xe,EVP,EV,simprocAttr]
 ·generalize X++Y=s0 at*;generalize X++R=s1 at*;simp (disch:=omega) only [EVT,EVM,EVC,xe,EVP,EV,simprocAttr]
 ·rintro ⟨bs,r⟩ ⟨g1,g2,g3⟩;simp only at g1 g2 g3;have hr:=g2.len;by_cases hlt:bs<l.length
  ·left;obtain ⟨r',k1,k2,k3⟩:=It7 hC ht l r bs g1 hlt g2 g3 hs (Ag l) (.i .i64 X.length) (Ag (X++Y)) (Ag (X++R)) N (by omega);exact ⟨(2*bs,r'),k3,⟨by simp only;omega,k1,k2⟩,by simp only;omega⟩
  ·right;have hlt':¬(bs:Int)<(l.length:Int):=by omega
   refine ⟨.yld 0 [Ag r],?_,rfl,r,g2.all (by omega),hr,rfl⟩;generalize X++Y=s0 at*;generalize X++R=s1 at*;simp (disch:=omega) only [P7,hlt',EVT,EVM,EVC,xe,EVP,EV,simprocAttr]
theorem Ot (hC:Cmp g caps c P) (ht:TP (leC c)) (l:List Rec) (hP:∀y∈l,P y) (hs:l.length≤1000000):
  ∃r,Stab (leC c) r l∧r.length=l.length∧S Bg8 1048578 [Ag l, .f g caps]=some [Ag r]:=by
 obtain ⟨r,h1,h2,h3⟩:=Bj9 hC ht l hP hs;refine ⟨r,h1,h2,?_⟩;refine Jj6 (N:=1) rfl ?_;simp (disch:=omega) only [Ip5,h3,D3,Ks,EVT,EVM,EVC,xe,EVP,EV,simprocAttr]
end
end Go.X.G
/- Records compacted: the library's function. -/
namespace Go.X.G
open Go Go.X
theorem qm (l:List Rec) (g:Nat) (caps:List PV) (eq2:Rec→Rec→Bool) (h:∀x∈l,∀y∈l,S g 2 (x.pv::y.pv::caps)=some [.b (eq2 x y)]) (hl:l.length≤1000000):S fj 1048578 [Ag l, .f g caps]=some [Ag (cpt eq2 l)]:=by
 refine Hs8 (N:=l.length+2) rfl ?_;by_cases h2:(l.length:Int)<2
 ·have e:cpt eq2 l=l:=by
   match l,h2 with
   |[],_=>rfl
   |[x],_=>rfl
   |_::_::_,h=>simp at h;omega
  rw [e];simp (disch:=omega) only [Nl,h2,EVT,EVM,EVC,xe,EVP,EV,simprocAttr]
 ·-- the inner Gq, from a place where two neighbours are equal
  have inner:∀k:Nat,1≤k→k<l.length→cpt eq2 (l.take (k+1))=l.take k→∃s:List Rec,s.length=l.length∧s.take (cpt eq2 l).length=cpt eq2 l∧Br2.ev S (l.length+2) [Ag l, .f g caps, .i .i64 (k:Int),Ag l, .b true]=some (.yld 2 [.i .i64 ((cpt eq2 l).length:Int),Ag s]):=by
   intro k hk1 hk hcp;have key:=G7 (fn:=S) (N:=l.length+2) (η:=[Ag l, .f g caps, .i .i64 (k:Int),Ag l, .b true]) (id:=3) (init:=[(.v 2),(.c (.i .i64 (1))),(.v 3)]) (body:=pc) (α:=Nat×Nat×List Rec)
    (fun a=>[.i .i64 (a.1:Int), .i .i64 (a.2.1:Int),Ag a.2.2])
    (fun o=>∃s:List Rec,s.length=l.length∧s.take (cpt eq2 l).length=cpt eq2 l∧o= .yld 2 [.i .i64 ((cpt eq2 l).length:Int),Ag s])
    (fun a=>1≤a.2.1∧k+a.2.1≤l.length∧a.1<k+a.2.1∧a.2.2.length=l.length∧a.2.2.take a.1=cpt eq2 (l.take (k+a.2.1))∧(cpt eq2 (l.take (k+a.2.1))).length=a.1∧a.2.2.drop (k+a.2.1 - 1)=l.drop (k+a.2.1 - 1))
    (fun a=>l.length - a.2.1) (k,1,l) (by simp (disch:=omega) only [EVT,EVM,EVC,xe,EVP,EV,simprocAttr])
    ⟨by simp,by simp;omega,by simp,rfl,by simp only;rw [hcp],by simp only;rw [hcp,Ap];omega,rfl⟩ (by simp only;omega) ?_
   ·obtain ⟨o,h3,s,h4,h5,rfl⟩:=key;exact ⟨s,h4,h5,h3⟩
   ·rintro ⟨i,j,s⟩ ⟨a1,a2,a3,a4,a5,a6,a7⟩;simp only at a1 a2 a3 a4 a5 a6 a7;by_cases hj:k+j<l.length
    ·left;have c1:s[k+j]? =l[k+j]? :=by have:=congrArg (fun q=>q[1]?) a7;simp only [A6] at this;rwa [show k+j - 1+1=k+j by omega] at this
     have c0:s[k+j - 1]? =l[k+j - 1]? :=by have:=congrArg (fun q=>q[0]?) a7;simpa only [A6,Dv] using this
     have g1:l[k+j]? =some (l[k+j]'hj):=Ab hj;have g0:l[k+j - 1]? =some (l[k+j - 1]'(by omega)):=Ab (by omega);have tk:l.take (k+(j+1))=l.take (k+j)++[l[k+j]'hj]:=by rw [show k+(j+1)=(k+j)+1 by omega,Cw,g1];rfl
     have ne:l.take (k+j)≠[]:=by intro h;have:=congrArg List.length h;rw [Ap,A9] at this;omega
     have gl:(l.take (k+j)).getLast ne=l[k+j - 1]'(by omega):=by rw [I2];simp only [qt,Ap];congr 1;omega
     have cs:=My eq2 (l[k+j]'hj) (l.take (k+j)) ne;rw [←tk,gl] at cs;have hc:=h (l[k+j]'hj) (Dy _) (l[k+j - 1]'(by omega)) (Dy _);generalize l[k+j]'hj=x at*;generalize l[k+j - 1]'(by omega)=y at*;have hjj:(j:Int)<(s.length:Int) - (k:Int):=by omega
     have i1:Gt 16 (Ag s) (.i .i64 ((k:Int)+(j:Int)))=some x.pv:=by rw [Jj _ _ _ (by omega),show ((k:Int)+(j:Int)).toNat=k+j by omega,c1,g1];rfl
     have i0:Gt 16 (Ag s) (.i .i64 ((k:Int)+((j:Int) - 1)))=some y.pv:=by rw [Jj _ _ _ (by omega),show ((k:Int)+((j:Int) - 1)).toNat=k+j - 1 by omega,c0,g0];rfl
     have ls:G6 16 (Ag s) (.i .i64 (k:Int)) (.i .i64 (s.length:Int))=some (Ag (s.drop k)):=by rw [G5 _ _ _ _ _ (by omega) (by omega) (by omega)];simp
     have e1:(s.drop k)[j]? =some x:=by rw [A6,c1,g1]
     have e0:(s.drop k)[j - 1]? =some y:=by rw [A6,show k+(j - 1)=k+j - 1 by omega,c0,g0]
     have si:∃w,s[i]? =some w:=⟨_,Ab (by omega)⟩;obtain ⟨w,si⟩:=si;have ej:((j:Int) - 1).toNat=j - 1:=by omega
     by_cases hxy:eq2 x y=true
     ·refine ⟨(i,j+1,s),?_,⟨by simp,by simp only;omega,by simp only;omega,a4,?_,?_,?_⟩,by simp only;omega⟩
      ·simp (disch:=omega) only [Nl,hjj,i1,i0,ls,e1,e0,ej,hc,hxy,EVT,EVM,EVC,xe,EVP,EV,simprocAttr]
      ·simp only;rw [cs,a5];simp [hxy]
      ·simp only;rw [cs,Ay,a6];simp [hxy]
      ·simp only;rw [show k+(j+1) - 1=(k+j - 1)+1 by omega,←Cm,←Cm,a7]
     ·refine ⟨(i+1,j+1,s.set i x),?_,⟨by simp,by simp only;omega,by simp only;omega,by simpa using a4,?_,?_,?_⟩,by simp only;omega⟩
      ·simp (disch:=omega) only [Nl,hjj,i1,i0,ls,e1,e0,ej,si,hc,hxy,EVT,EVM,EVC,xe,EVP,EV,simprocAttr]
      ·simp only;rw [cs,Cw,List.getElem?_set_self (by omega),List.take_set_of_le (by omega),a5];simp [hxy]
      ·simp only;rw [cs,Ay,a6];simp [hxy]
      ·simp only;rw [show k+(j+1) - 1=(k+j - 1)+1 by omega,Q6 (by omega),←Cm,←Cm,a7]
    ·right;have ek:k+j=l.length:=by omega
     rw [ek,C7] at a5 a6;have hjj:¬(j:Int)<(s.length:Int) - (k:Int):=by omega
     refine ⟨.yld 2 [.i .i64 (i:Int),Ag s],?_,rfl,s,a4,by rw [a6];exact a5,by rw [a6]⟩;simp (disch:=omega) only [Nl,hjj,EVT,EVM,EVC,xe,EVP,EV,simprocAttr]
  have key:Bt2.ev S (l.length+2) [Ag l, .f g caps]=some (if cpt eq2 l=l then .yld 0 [Ag l] else .ret [Ag (cpt eq2 l)]):=by
   have:=G7 (fn:=S) (N:=l.length+2) (η:=[Ag l, .f g caps]) (id:=1) (init:=[(.c (.i .i64 (1))),(.v 0)]) (body:=qw) (α:=Nat)
    (fun k=>[.i .i64 (k:Int),Ag l]) (fun o=>o=if cpt eq2 l=l then .yld 0 [Ag l] else .ret [Ag (cpt eq2 l)])
    (fun k=>1≤k∧k≤l.length∧cpt eq2 (l.take k)=l.take k) (fun k=>l.length - k) 1 (by simp (disch:=omega) only [EVT,EVM,EVC,xe,EVP,EV,simprocAttr])
    ⟨Af 1,by omega,by cases l with
     |nil=>simp at h2
     |cons x r=>rfl⟩ (by omega) ?_
   ·obtain ⟨o,h3,h4⟩:=this;rw [←h4];exact h3
   ·rintro k ⟨k1,k2,k3⟩;by_cases hk:k<l.length
    ·have g1:l[k]? =some l[k]:=Ab hk;have g0:l[k - 1]? =some (l[k - 1]'(by omega)):=Ab (by omega);have tk:l.take (k+1)=l.take k++[l[k]]:=by rw [Cw,g1];rfl
     have ne:l.take k≠[]:=by intro h;have:=congrArg List.length h;rw [Ap,A9] at this;omega
     have gl:(l.take k).getLast ne=l[k - 1]'(by omega):=by rw [I2];simp only [qt,Ap];congr 1;omega
     have cs:=My eq2 l[k] (l.take k) ne;rw [←tk,gl,k3] at cs;have hkk:(k:Int)<(l.length:Int):=by omega
     have i1:Gt 16 (Ag l) (.i .i64 (k:Int))=some (l[k]).pv:=by rw [Jj _ _ _ (by omega),show ((k:Int)).toNat=k by omega,g1];rfl
     have i0:Gt 16 (Ag l) (.i .i64 ((k:Int) - 1))=some (l[k - 1]'(by omega)).pv:=by rw [Jj _ _ _ (by omega),show ((k:Int) - 1).toNat=k - 1 by omega,g0];rfl
     have hc:=h l[k] (Dy _) (l[k - 1]'(by omega)) (Dy _);by_cases hxy:eq2 l[k] (l[k - 1]'(by omega))=true
     ·right;have cs':cpt eq2 (l.take (k+1))=l.take k:=by rw [cs];simp [hxy]
      obtain ⟨s,s1,s2,s3⟩:=inner k k1 hk cs';have hlt:cpt eq2 l≠l:=by
       intro h;have q:(cpt eq2 l).length≤(cpt eq2 (l.take (k+1))).length+(l.drop (k+1)).length:=by
        have:∀(b a:List Rec),a≠[]→(cpt eq2 (a++b)).length≤(cpt eq2 a).length+b.length:=by
         intro b
         induction b with
         |nil=>intro a _;simp
         |cons x r ih=>
          intro a ha;have h1:=ih (a++[x]) (by simp);rw [My _ _ _ ha] at h1;rw [show a++x::r=a++[x]++r by simp];refine C6 h1 ?_;rw [Ay];split<;>simp<;>omega
        have h3:=this (l.drop (k+1)) (l.take (k+1)) (by intro h;have:=congrArg List.length h;rw [Ap,A9] at this;omega);rwa [Bp] at h3
       rw [h,cs',Ap,B3] at q;omega
      have hlen:=Ys eq2 l;refine ⟨.ret [Ag (cpt eq2 l)],?_,rfl,by rw [if_neg hlt]⟩;generalize cpt eq2 l=fl at*;have ls:G6 16 (Ag l) (.i .i64 (k:Int)) (.i .i64 (l.length:Int))=some (Ag (l.drop k)):=by rw [G5 _ _ _ _ _ (by omega) (by omega) (by omega)];simp
      have hsl1:G6 16 (Ag s) (.i .i64 ((fl.length:Nat):Int)) (.i .i64 (s.length:Int))=some (Ag (s.drop fl.length)):=by rw [G5 _ _ _ _ _ (by omega) (by omega) (by omega)];simp
      have hsl2:G6 16 (Ag s) (.i .i64 0) (.i .i64 ((fl.length:Nat):Int))=some (Ag fl):=by rw [G5 _ _ _ _ _ (by omega) (by omega) (by omega)];simp [s2]
      have hrep:Kt 16 (.i .i64 ((s.length:Int) - (fl.length:Int))) q9=some (Ag (List.replicate (s.length - fl.length) zr)):=by rw [wm _ (by omega) (by omega)];congr 3;omega
      have happ:H3 16 (Ag fl) (Ag (List.replicate (s.length - fl.length) zr))=some (Ag (fl++List.replicate (s.length - fl.length) zr)):=Iq _ _ (by simp;omega);have hsl3:G6 16 (Ag (fl++List.replicate (s.length - fl.length) zr)) (.i .i64 0) (.i .i64 ((fl.length:Nat):Int))=some (Ag fl):=by rw [G5 _ _ _ _ _ (by omega) (by omega) (by simp;omega)];simp
      simp (disch:=omega) only [Nl,hkk,i1,i0,hc,hxy,ls,s3,hsl1,hsl2,hrep,happ,hsl3,EVT,EVM,EVC,xe,EVP,EV,simprocAttr]
     ·left;refine ⟨k+1,?_,⟨by omega,by omega,?_⟩,by omega⟩
      ·simp (disch:=omega) only [Nl,hkk,i1,i0,hc,hxy,EVT,EVM,EVC,xe,EVP,EV,simprocAttr]
      ·rw [cs,tk];simp [hxy]
    ·right;have e:k=l.length:=by omega
     subst e;rw [C7] at k3;refine ⟨_,?_,?_,rfl⟩
     ·rw [if_pos k3];simp (disch:=omega) only [Nl,EVT,EVM,EVC,xe,EVP,EV,simprocAttr]
     ·rw [if_pos k3];rfl
  by_cases hh:cpt eq2 l=l
  ·rw [if_pos hh] at key;rw [hh];simp (disch:=omega) only [Nl,h2,key,EVT,EVM,EVC,xe,EVP,EV,simprocAttr]
  ·rw [if_neg hh] at key;simp (disch:=omega) only [Nl,h2,key,EVT,EVM,EVC,xe,EVP,EV,simprocAttr]
end Go.X.G
/- Lists of records in the program: which are valid, their order, their sorting. -/
namespace Go.X.G
open Go Go.X
theorem Dn8 (r:Rec) (h:r.wf):S Bl0 1 [r.pv]=some [.b (Pj r)]:=by
 refine Jq9 (N:=1) rfl ?_;have g:r.name.length≤9223372036854775807:=h.name;have h1:=B4 r.name g;have h2:=Ct r.typ;have h3:=U8 r.typ r.data h.data;unfold Pj;by_cases k0:0≤r.ttl<;>by_cases k1:r.ttl≤2147483647
 all_goals rcases ch3 (vld r.name) (knw r.typ) (Ew r.typ r.data) with e0|⟨e0,e1⟩|⟨e0,e1,e2⟩|⟨e0,e1,e2⟩
 all_goals simp only [*] at h1 h2 h3
 all_goals simp (disch:=omega) only [Ir2,Yw,E9,h1,h2,h3,EVC,xe,EVP,EV,simprocAttr, *]
 all_goals simp
theorem Gx7 (x:Int):S Vf 1 [.i .i64 x]=some [.b false]:=by refine Hm7 (N:=1) rfl ?_;simp (disch:=omega) only [Hb1,EVC,xe,EVP,EV,simprocAttr]
theorem Dp7 (a b:Int):S Vp 2 [.i .i64 a, .i .i64 b]=some [.i .i64 (zj a b)]:=by
 refine Hp2 (N:=1) rfl ?_;have h1:=Gx7 a;have h2:=Gx7 b;unfold zj;by_cases k1:a<b
 ·simp (disch:=omega) only [As7,h1,h2,k1,EVC,xe,EVP,EV,simprocAttr]
 ·by_cases k2:b<a
  ·simp (disch:=omega) only [As7,h1,h2,k1,k2,EVC,xe,EVP,EV,simprocAttr]
  ·simp (disch:=omega) only [As7,h1,h2,k1,k2,EVC,xe,EVP,EV,simprocAttr]
theorem wt (a b:Rec) (ha:a.wf) (hb:b.wf):S V3 2 [a.pv,b.pv]=some [.i .i64 (Uq a b)]:=by
 refine Hs6 (N:=1) rfl ?_;have g1:a.name.length≤9223372036854775807:=ha.name;have g2:b.name.length≤9223372036854775807:=hb.name;have h1:=T6 a.name b.name g1 g2;have h2:=Dp7 a.typ b.typ;have h3:=ql a.typ a.data b.data ha.data hb.data;unfold Uq;by_cases k1:Jf a.name b.name=0
 ·by_cases k2:zj a.typ b.typ=0
  ·rw [k1] at h1;rw [k2] at h2;simp (disch:=omega) only [At1,Yw,E9,h1,h2,h3,EVC,xe,EVP,EV,simprocAttr];simp [k1,k2]
  ·rw [k1] at h1;simp (disch:=omega) only [At1,h1,h2,k2,EVC,xe,EVP,EV,simprocAttr];simp [k1,k2]
 ·simp (disch:=omega) only [At1,h1,k1,EVC,xe,EVP,EV,simprocAttr]
theorem qf (a b:Rec) (ha:a.wf) (hb:b.wf):S V5 2 [a.pv,b.pv]=some [.i .i64 (Gs2 a b)]:=by
 refine Hs9 (N:=1) rfl ?_;have h1:=wt a b ha hb;have h2:=Dp7 a.ttl b.ttl;unfold Gs2;by_cases k1:Uq a b=0
 ·rw [k1] at h1;simp (disch:=omega) only [Es5,h1,h2,EVC,xe,EVP,EV,simprocAttr];simp [k1]
 ·simp (disch:=omega) only [Es5,h1,k1,EVC,xe,EVP,EV,simprocAttr]
theorem Ih9:Cmp V5 [] Gs2 Rec.wf:=⟨fun x y hx hy=>qf x y hx hy⟩
theorem Eg0:leC Gs2=leR:=rfl
theorem Er1 (a b:Rec) (ha:a.wf) (hb:b.wf):S V4 2 [a.pv,b.pv]=some [.b (eqF a b)]:=by refine Hs7 (N:=1) rfl ?_;have h1:=wt a b ha hb;simp (disch:=omega) only [Hc8,h1,EVC,xe,EVP,EV,simprocAttr]
theorem Er0 (l:List Rec) (hw:∀r∈l,r.wf) (hl:l.length≤1000000):S Bh8 1 [Ag l]=some [Ag (sortR l)]:=by refine Jq7 (N:=1) rfl ?_;have h0:=i6 l hl;obtain ⟨r,h1,h2,h3⟩:=Ot Ih9 (by rw [Eg0];exact Im8) l hw hl;rw [Eg0] at h1;have hm:=h1.mem Im8;have h4:=qm r V4 [] eqF (fun x hx y hy=>Er1 x y (hw x ((hm x).1 hx)) (hw y ((hm y).1 hy))) (by omega);rw [wx h1] at h4;simp (disch:=omega) only [Ir1,h0,h3,h4,D3,Ks,EVT,EVM,EVC,xe,EVP,EV,simprocAttr]
end Go.X.G
/- Zones in the program: what is asked of the records of one name. -/
namespace Go.X.G
open Go Go.X
abbrev ltC:List UInt8×Int→List UInt8×Int→Prop:=fun p q=>ltB p.1 q.1∨(p.1=q.1∧p.2<q.2)
theorem to_C:TO ltC:=Dr2.prod Hf7
def ltQ (a b:Ques):Prop:=ltC (a.name,a.typ) (b.name,b.typ)
theorem to_Q:TO ltQ where
 irr:=fun a=>to_C.irr _
 tr:=fun a b c=>to_C.tr _ _ _
 tri:=fun a b=>by
  rcases to_C.tri (a.name,a.typ) (b.name,b.typ) with h|h|h
  ·exact .inl h
  ·injection h with h1 h2;refine .inr (.inl ?_);cases a;cases b;simp only at h1 h2;rw [h1,h2]
  ·exact .inr (.inr h)
def nd (a b:Ques):Int:=if (Op.bytesLess a.name b.name||(decide (a.name=b.name) && decide (a.typ<b.typ)))=true then -1 else if a=b then 0 else 1
theorem Gp (a b:Ques):nd a b<0↔ltQ a b:=by
 unfold nd ltQ ltC;simp only;have e:(Op.bytesLess a.name b.name||(decide (a.name=b.name) && decide (a.typ<b.typ)))=true↔(ltB a.name b.name∨a.name=b.name∧a.typ<b.typ):=by simp only [An,Aw,decide_eq_true_eq,T1]
 by_cases h:ltB a.name b.name∨a.name=b.name∧a.typ<b.typ
 ·rw [if_pos (e.2 h)];simp [h]
 ·rw [if_neg (fun q=>h (e.1 q))];simp only [h,iff_false];split<;>omega
theorem nb (a b:Ques):S Ud 2 [a.pv,b.pv]=some [.i .i64 (nd a b)]:=by
 refine Jk0 (N:=1) rfl ?_;unfold nd;rcases Aq (Op.bytesLess a.name b.name) with h1|h1
 ·simp (disch:=omega) only [Ar3,h1,EVM,EVC,xe,EVP,EV,simprocAttr];simp
 ·by_cases h2:a.name=b.name
  ·by_cases h3:a.typ<b.typ
   ·rw [h2] at h1;simp (disch:=omega) only [Ar3,h1,h2,h3,EVM,EVC,xe,EVP,EV,simprocAttr];simp
   ·rw [h2] at h1;by_cases h4:a=b
    ·simp (disch:=omega) only [Ar3,h1,h2,h3,EVM,EVC,xe,EVP,EV,simprocAttr];simp [h4]
    ·simp (disch:=omega) only [Ar3,h1,h2,h3,h4,EVM,EVC,xe,EVP,EV,simprocAttr];simp [h4]
  ·have h4:¬a=b:=fun e=>h2 (by rw [e]);simp (disch:=omega) only [Ar3,h1,h2,h4,EVM,EVC,xe,EVP,EV,simprocAttr];simp [h4]
def H8 (l:List Ques):PV:= .l 2 (l.map Ques.pv)
theorem Ij (l:List Ques):F4 (H8 l)=some (.i .i64 (l.length:Int)):=by simp [H8,F4]
theorem Kq (l:List Ques) (k:IntKind) (z:Int) (h:0≤z):Gt 2 (H8 l) (.i k z)=(l[z.toNat]?).map Ques.pv:=by simp [H8,Yk _ _ _ _ h]
theorem Ef2 (x:Ques):Jn 2 [x.pv]=some (H8 [x]):=rfl
theorem Dn4 (l:List Ques) (x:Ques) (h:l.length+1≤1073741824):H3 2 (H8 l) (H8 [x])=some (H8 (l++[x])):=by have:=T4 2 (l.map Ques.pv) [x.pv] (by simpa using h);simpa [H8] using this
def wn:PV→PV→Int
 | .a [.s a, .i _ t], .a [.s b, .i _ u]=>nd ⟨a,t⟩ ⟨b,u⟩
 |_,_=>0
theorem Ep9 (l:List Ques) (hl:l.length≤1000000):S lg 1048578 [H8 l, .f Ud []]=some [H8 (l.mergeSort fun x y=> !decide (nd y x<0))]:=by
 have hm:∀x∈l.map Ques.pv,∃a∈l,x=a.pv:=fun x hx=>by obtain ⟨a,h1,h2⟩:=Dd.1 hx;exact ⟨a,h1,h2.symm⟩
 have hc:∀a b:Ques,wn a.pv b.pv=nd a b:=fun a b=>rfl;have h:=wz (tab:=tab) (xs:=Gn0) (ss:=Ux) (f:=lg) (s:=Et8) Hg5 Hh0 (g:=Ud) (caps:=[]) (l:=l.map Ques.pv) (by decide) (by simp;omega)
  (fun x hx=>by obtain ⟨a,_,rfl⟩:=hm x hx;rfl) wn
  (fun x hx y hy=>by obtain ⟨a,ha,rfl⟩:=hm x hx;obtain ⟨b,hb,rfl⟩:=hm y hy;exact nb a b)
  (fun x hx=>by obtain ⟨a,_,rfl⟩:=hm x hx;rw [hc,Gp];exact to_Q.irr a)
  (fun x hx y hy z hz h1 h2=>by obtain ⟨a,_,rfl⟩:=hm x hx;obtain ⟨b,_,rfl⟩:=hm y hy;obtain ⟨c,_,rfl⟩:=hm z hz;rw [hc] at*;exact (Gp a c).2 (to_Q.tr _ _ _ ((Gp a b).1 h1) ((Gp b c).1 h2)))
  (fun x hx y hy z hz h1 h2=>by obtain ⟨a,_,rfl⟩:=hm x hx;obtain ⟨b,_,rfl⟩:=hm y hy;obtain ⟨c,_,rfl⟩:=hm z hz;rw [hc] at*;exact fun h3=>to_Q.ntr (fun q=>h1 ((Gp a b).2 q)) (fun q=>h2 ((Gp b c).2 q)) ((Gp a c).1 h3))
  (fun x hx y hy h1 h2=>by
   obtain ⟨a,_,rfl⟩:=hm x hx;obtain ⟨b,_,rfl⟩:=hm y hy;rw [hc] at*;rcases to_Q.tri a b with q|q|q
   ·exact absurd ((Gp a b).2 q) h1
   ·rw [q]
   ·exact absurd ((Gp b a).2 q) h2)
 have e:(l.map Ques.pv).mergeSort (fun x y=> !decide (wn y x<0))=(l.mergeSort fun x y=> !decide (nd y x<0)).map Ques.pv:=(Ip1 (r:=fun x y=> !decide (nd y x<0)) (s:=fun x y=> !decide (wn y x<0)) (f:=Ques.pv) fun a _ b _=>rfl).symm;rw [e] at h;exact h
def Xx (p:Option Ques) (n:Nat):List Ques→Bool
 |[]=>false
 |k::r=>if 64<(if p=some k then n+1 else 1) then true else Xx (some k) (if p=some k then n+1 else 1) r
theorem Xw:∀(l:List Ques) (p:Ques) (n:Nat),(p::l).Pairwise (fun a b=>¬ltQ b a)→n≤64→(Xx (some p) n l=true↔(∃k,k≠p∧64<l.count k)∨64<n+l.count p)
 |[],p,n,_,hn=>by simp [Xx];omega
 |k::r,p,n,hs,hn=>by
  obtain ⟨h1,h2⟩:=A5.1 hs;by_cases e:p=k
  ·subst e;by_cases hg:64<n+1
   ·simp only [Xx,if_true,hg];refine ⟨fun _=> .inr ?_,fun _=>trivial⟩;rw [Gc];omega
   ·simp only [Xx,if_true,hg,if_false];rw [Xw r p (n+1) h2 (by omega),Gc];constructor
    ·rintro (⟨q,q1,q2⟩|q)
     ·exact .inl ⟨q,q1,by rw [F0 (fun e=>q1 e.symm)];exact q2⟩
     ·exact .inr (by omega)
    ·rintro (⟨q,q1,q2⟩|q)
     ·exact .inl ⟨q,q1,by rw [F0 (fun e=>q1 e.symm)] at q2;exact q2⟩
     ·exact .inr (by omega)
  ·have e':¬(some p=some k):=fun q=>e (by injection q);simp only [Xx,if_neg e',show¬64<1 by omega,if_false];rw [Xw r k 1 h2 (by omega)];have hlt:ltQ p k:=by
    rcases to_Q.tri p k with q|q|q
    ·exact q
    ·exact absurd q e
    ·exact absurd q (h1 k (.head _))
   have hno:∀y∈k::r,y≠p:=fun y hy q=>by
    subst q;rcases Am.1 hy with q|hy
    ·exact e q
    ·exact (A5.1 h2).1 y hy hlt
   have h0:(k::r).count p=0:=Ip3.2 fun hm=>hno p hm rfl;have h0r:r.count p=0:=Ip3.2 fun hm=>hno p (.tail _ hm) rfl;rw [h0];constructor
   ·rintro (⟨q,q1,q2⟩|q)
    ·refine .inl ⟨q,fun w=>by rw [w,h0r] at q2;omega,?_⟩;rw [F0 (fun w=>q1 w.symm)];exact q2
    ·refine .inl ⟨k,fun w=>e w.symm,?_⟩;rw [Gc];omega
   ·rintro (⟨q,q1,q2⟩|q)
    ·by_cases w:q=k
     ·subst w;rw [Gc] at q2;exact .inr (by omega)
     ·rw [F0 (fun v=>w v.symm)] at q2;exact .inl ⟨q,w,q2⟩
    ·omega
theorem Ey5 (l:List Ques) (hs:l.Pairwise (fun a b=>¬ltQ b a)):Xx none 0 l=true↔∃k,64<l.count k:=by
 cases l with
 |nil=>simp [Xx]
 |cons k r=>
  have e:¬((none:Option Ques)=some k):=by simp
  simp only [Xx,if_neg e,show¬64<1 by omega,if_false];rw [Xw r k 1 hs (by omega)];constructor
  ·rintro (⟨q,q1,q2⟩|q)
   ·exact ⟨q,by rw [F0 (fun w=>q1 w.symm)];exact q2⟩
   ·exact ⟨k,by rw [Gc];omega⟩
  ·rintro ⟨q,q2⟩;by_cases w:q=k
   ·subst w;rw [Gc] at q2;exact .inr (by omega)
   ·rw [F0 (fun v=>w v.symm)] at q2;exact .inl ⟨q,w,q2⟩
def kyQ (r:Rec):Ques:=⟨r.name,r.typ⟩
def Qf (l:List Rec):Bool:=Xx none 0 ((l.map kyQ).mergeSort fun x y=> !decide (nd y x<0))
theorem Y0 (n:List UInt8) (t:Int):∀l:List Rec,(l.map kyQ).count ⟨n,t⟩=(findR l n t).length
 |[]=>rfl
 |r::l=>by
  have ih:=Y0 n t l;unfold findR at ih ⊢;rw [F2,Kp];by_cases h:isK n t r=true
  ·rw [if_pos h];unfold isK at h;simp only [Aw,decide_eq_true_eq] at h;have:kyQ r=⟨n,t⟩:=by unfold kyQ;rw [h.1,h.2]
   rw [this,Gc,ih,As]
  ·rw [if_neg h];have:kyQ r≠⟨n,t⟩:=fun e=>h (by unfold kyQ at e;injection e with e1 e2;unfold isK;simp [e1,e2])
   rw [F0 this,ih]
theorem Gg5 (l:List Ques):(l.mergeSort fun x y=> !decide (nd y x<0)).Pairwise (fun a b=>¬ltQ b a):=by
 have:=List.pairwise_mergeSort (le:=fun x y:Ques=> !decide (nd y x<0)) (fun a b c h1 h2=>by
  simp only [A8,decide_eq_false_iff_not,Gp] at h1 h2 ⊢;exact to_Q.ntr h2 h1) (fun a b=>by
  simp only [An,A8,decide_eq_false_iff_not,Gp];rcases to_Q.tri a b with h|h|h
  ·exact .inl (to_Q.asym h)
  ·subst h;exact .inl (to_Q.irr a)
  ·exact .inr (to_Q.asym h)) l
 refine this.imp fun {a b} h=> ?_;simpa only [A8,decide_eq_false_iff_not,Gp] using h
theorem Al4 (l:List Rec):Qf l= !(l.all fun r=>decide ((findR l r.name r.typ).length≤64)):=by
 rw [Cp];unfold Qf;rw [Ey5 _ (Gg5 _)];have hc:∀k,((l.map kyQ).mergeSort fun x y=> !decide (nd y x<0)).count k=(l.map kyQ).count k:=fun k=>(List.mergeSort_perm _ _).count_eq k;simp only [hc,A8,List.all_eq_false,decide_eq_true_eq];constructor
 ·rintro ⟨⟨n,t⟩,h⟩;rw [Y0] at h;have hp:0<(findR l n t).length:=by omega
  obtain ⟨x,hx⟩:=List.length_pos_iff_exists_mem.1 hp;obtain ⟨h3,h4⟩:=Bf.1 hx;unfold isK at h4;simp only [Aw,decide_eq_true_eq] at h4;exact ⟨x,h3,by rw [h4.1,h4.2];omega⟩
 ·rintro ⟨r,h1,h2⟩;exact ⟨kyQ r,by show 64<(l.map kyQ).count ⟨r.name,r.typ⟩;rw [Y0];omega⟩
theorem Al3 (l:List Rec) (hl:l.length≤1000000):S Bl2 1 [Ag l]=some [.b (Qf l)]:=by
 obtain ⟨N,hN⟩:∃N,N=l.length+1:=⟨_,rfl⟩;refine Jv2 (N:=N) rfl ?_;have k0:Fq0.ev S N [Ag l]=some (.yld 0 [H8 (l.map kyQ)]):=by
  refine Fc l (fun i=>[H8 ((l.take i).map kyQ), .i .i64 (i:Int)]) (fun i r=> .yld 0 [H8 (l.map kyQ)]) rfl (by omega) (fun i c r hd hi hc=> ?_) ?_
  ·left;refine ⟨?_,rfl⟩;have e:(l.take (i+1)).map kyQ=(l.take i).map kyQ++[kyQ c]:=by rw [Cw,hc];simp
   have hsub:Jb 0 2 c.pv=some (kyQ c).pv:=rfl;have hlen:((l.take i).map kyQ).length≤1000000:=by rw [Ey,Ap];omega
   rw [e];generalize (l.take i).map kyQ=a at*;simp (disch:=omega) only [W0,hc,hsub,Ef2,Dn4,Ij,Kq,EVM,EVC,xe,EVP,EV,simprocAttr]
  ·refine ⟨?_,rfl⟩;have e:l.take l.length=l:=C7;simp (disch:=omega) only [W0,e,Ij,Kq,EVM,EVC,xe,EVP,EV,simprocAttr]
 have hs:=Ep9 (l.map kyQ) (by simpa using hl);have hlen:((l.map kyQ).mergeSort fun x y=> !decide (nd y x<0)).length=l.length:=by simp
 unfold Qf;generalize ((l.map kyQ).mergeSort fun x y=> !decide (nd y x<0))=ks at*;have k1:Fk1.ev S N [Ag l,H8 (l.map kyQ),H8 ks]=some (if Xx none 0 ks=true then .ret [.b true] else .yld 0 []):=by
  refine Fx ks (fun i (g:Nat)=>[.i .i64 (g:Int), .i .i64 (i:Int)]) (fun i g r=>if Xx (if i=0 then none else ks[i - 1]?) g r=true then .ret [.b true] else .yld 0 []) (fun i g=>g≤64) 0 ?_ (by omega) (by omega) (fun i g c r hd hi hc hg=> ?_) (fun g hg=> ?_)
  ·simp (disch:=omega) only [EVC,xe,EVP,EV,simprocAttr]
  ·have hp:(if i=0 then none else ks[i - 1]?)=some c↔(0<i∧ks[i - 1]? =some c):=by
    by_cases h:i=0
    ·simp [h]
    ·simp [h];omega
   have hci:(if i+1=0 then none else ks[i+1 - 1]?)=some c:=by rw [if_neg (by omega),K1,hc]
   have hsub:Jb 0 2 c.pv=some c.pv:=rfl;have eqq:∀x:Ques,K0 false true [.s,(.i .i64)] x.pv c.pv=some (.b (decide (x=c))):=fun x=>Jm3 false x c;by_cases hsame:0<i∧ks[i - 1]? =some c
   ·have hp':=hp.2 hsame;have hi0:(0:Int)<(i:Int):=by omega
    have ei:((i:Int) - 1).toNat=i - 1:=by omega
    have ei2:(i:Int).toNat=i:=by omega
    by_cases hgt:64<g+1
    ·right;have hgt':(64:Int)<(g:Int)+1:=by omega
     have er:Xx (if i=0 then none else ks[i - 1]?) g (c::r)=true:=by rw [hp'];simp [Xx,hgt]
     rw [er];refine ⟨?_,rfl⟩;simp (disch:=omega) only [W0,hc,hsame.2,hi0,ei,ei2,hgt',Ij,Kq,EVM,EVC,xe,EVP,EV,simprocAttr]
    ·left;have hgt':¬(64:Int)<(g:Int)+1:=by omega
     refine ⟨g+1,?_,by omega,?_⟩
     ·simp (disch:=omega) only [W0,hc,hsame.2,hi0,ei,ei2,hgt',Ij,Kq,EVM,EVC,xe,EVP,EV,simprocAttr]
     ·rw [hp',hci];simp [Xx,hgt]
   ·left;have hp':¬(if i=0 then none else ks[i - 1]?)=some c:=fun q=>hsame (hp.1 q);have ei:((i:Int) - 1).toNat=i - 1:=by omega
    have ei2:(i:Int).toNat=i:=by omega
    refine ⟨1,?_,by omega,?_⟩
    ·by_cases hi0:0<i
     ·have hi0':(0:Int)<(i:Int):=by omega
      obtain ⟨y,hy⟩:∃y,ks[i - 1]? =some y:=⟨_,Ab (by omega)⟩;have hyc:¬y=c:=fun q=>hsame ⟨hi0,by rw [hy,q]⟩;simp (disch:=omega) only [W0,hc,hy,hyc,hi0',ei,ei2,Ij,Kq,EVM,EVC,xe,EVP,EV,simprocAttr]
     ·have hi0':¬(0:Int)<(i:Int):=by omega
      simp (disch:=omega) only [W0,hc,hi0',ei2,Ij,Kq,EVM,EVC,xe,EVP,EV,simprocAttr]
    ·rw [hci];simp [Xx,hp']
  ·refine ⟨?_,by simp [Xx,Out.goes]⟩;have hlt:¬(ks.length:Int)<(ks.length:Int):=by omega
   simp (disch:=omega) only [W0,hlt,Ij,Kq,EVM,EVC,xe,EVP,EV,simprocAttr];simp [Xx]
 have hrep:∃p,Kt 2 (.i .i64 (l.length:Int)) (Ques.pv ⟨[],0⟩)=some p:=by
  have h1:(l.length:Int)≤(LIM:Int):=by simp only [LIM];omega
  have h2:(Ques.pv ⟨[],0⟩).cells.length=2:=rfl;simp [Kt,h1,h2]
 obtain ⟨p,hrep⟩:=hrep;rcases Aq (Xx none 0 ks) with h|h
 ·rw [h,if_pos rfl] at k1;rw [h];simp (disch:=omega) only [W0,hrep,k0,hs,k1,Ij,D3,Ks,EVM,EVC,xe,EVP,EV,simprocAttr]
 ·rw [h,if_neg (by simp)] at k1;rw [h];simp (disch:=omega) only [W0,hrep,k0,hs,k1,Ij,D3,Ks,EVM,EVC,xe,EVP,EV,simprocAttr]
end Go.X.G
/- Zones in the program: Check, the M1. -/
namespace Go.X.G
open Go Go.X
theorem An1 (t:Int):S dt 1 [.i .i64 t]=some [.b (decide (t=6)||decide (t=5)||decide (t=39))]:=by
 refine Hp0 (N:=1) rfl ?_;by_cases h1:t=6
 ·simp (disch:=omega) only [As6,h1,EVC,xe,EVP,EV,simprocAttr];simp
 ·by_cases h2:t=5
  ·simp (disch:=omega) only [As6,h2,EVC,xe,EVP,EV,simprocAttr];simp
  ·simp (disch:=omega) only [As6,h1,h2,EVC,xe,EVP,EV,simprocAttr];simp
theorem Dr8 (r:Rec) (t:Int):S V2 1 [r.pv, .i .i64 t]=some [.b (decide (r.typ=t))]:=by refine Hs3 (N:=1) rfl ?_;simp (disch:=omega) only [Hc6,EVC,xe,EVP,EV,simprocAttr]
theorem J2 (g:List Rec) (t:Int) (hl:g.length≤1000000):S N8 2 [Ag g, .i .i64 t]=some [.b (F5 g t)]:=by refine Jq4 (N:=1) rfl ?_;have h:=H6 g V2 [.i .i64 t] (fun r=>decide (r.typ=t)) hl (fun r _=>Dr8 r t);simp (disch:=omega) only [Ir0,h,EVC,xe,EVP,EV,simprocAttr];rfl
def I9 (l:List Int):PV:= .l 1 (l.map (PV.i .i64))
theorem Ov (l:List Int):F4 (I9 l)=some (.i .i64 (l.length:Int)):=by simp [I9,F4]
theorem Yq (l:List Int) (k:IntKind) (z:Int) (h:0≤z):Gt 1 (I9 l) (.i k z)=(l[z.toNat]?).map (PV.i .i64):=by simp [I9,Yk _ _ _ _ h]
theorem cq (l:List Int):Bs 0 (I9 l)=some (I9 l):=rfl
theorem Bq3 (l:List Int):H7 (I9 l)=some (I9 l):=rfl
theorem Dp3 (l:List Int) (x:Int) (hl:l.length≤1000000):∃k:Int,(0≤k↔x∈l)∧S dh 2 [I9 l, .i .i64 x]=some [.i .i64 k]:=by
 have go:∀(i:Nat) (l:List Int),∃k:Int,k=(match l.findIdx? (·=x) with|some j=>((i+j:Nat):Int)|none=> -1)∧(0≤k↔x∈l):=by
  intro i l;refine ⟨_,rfl,?_⟩;cases h:l.findIdx? (·=x) with
  |none=>
   rw [List.findIdx?_eq_none_iff] at h;simp only;constructor
   ·intro h2;omega
   ·intro h2;have:=h x h2;simp at this
  |some j=>
   simp only;constructor
   ·intro _;rw [List.findIdx?_eq_some_iff_getElem] at h;obtain ⟨h1,h2,_⟩:=h;simp at h2;rw [←h2];exact Dy _
   ·intro _;omega
 obtain ⟨k,hk,hk2⟩:=go 0 l;refine ⟨k,hk2,?_⟩;refine Hm5 (N:=l.length+1) rfl ?_;have key:Bs0.ev S (l.length+1) [I9 l, .i .i64 x]=some (match l.findIdx? (·=x) with|some j=> .ret [.i .i64 ((0+j:Nat):Int)]|none=> .yld 0 []):=by
  refine Fc l (fun i=>[.i .i64 (i:Int)]) (fun i r=>match r.findIdx? (·=x) with|some j=> .ret [.i .i64 ((i+j:Nat):Int)]|none=> .yld 0 []) rfl (by omega) (fun i c r hd hi hc=> ?_) ?_
  ·by_cases h:x=c
   ·right;subst h;simp (disch:=omega) only [Z1,hc,Ov,Yq,EVM,EVC,xe,EVP,EV,simprocAttr];simp [Ip2,Out.goes]
   ·left;have h':¬c=x:=fun e=>h e.symm;simp (disch:=omega) only [Z1,hc,h,h',Ov,Yq,EVM,EVC,xe,EVP,EV,simprocAttr];refine ⟨trivial,?_⟩;simp only [Ip2,h',decide_false,Ad,if_false];cases r.findIdx? (·=x) with
    |none=>rfl
    |some j=>simp;omega
  ·simp (disch:=omega) only [Z1,Ov,Yq,EVM,EVC,xe,EVP,EV,simprocAttr];simp [Out.goes]
 rw [hk];cases h:l.findIdx? (·=x) with
 |none=>
  rw [h] at key;simp (disch:=omega) only [Z1,key,Ov,EVM,EVC,xe,EVP,EV,simprocAttr]
 |some j=>
  rw [h] at key;simp (disch:=omega) only [Z1,key,Ov,EVM,EVC,xe,EVP,EV,simprocAttr]
theorem ir (l:List Int) (x:Int) (hl:l.length≤1000000):S dr 2 [I9 l, .i .i64 x]=some [.b (decide (x∈l))]:=by refine Hn8 (N:=1) rfl ?_;obtain ⟨k,h1,h2⟩:=Dp3 l x hl;simp (disch:=omega) only [Hb8,h2,EVM,EVC,xe,EVP,EV,simprocAttr];simp [h1]
theorem Ap8 (r:Rec) (ts:List Int) (hl:ts.length≤1000000):S Vn 1 [r.pv,I9 ts]=some [.b (!decide (r.typ∈ts))]:=by refine Hn9 (N:=1) rfl ?_;have h:=ir ts r.typ hl;simp (disch:=omega) only [Hb9,cq,h,EVC,xe,EVP,EV,simprocAttr]
theorem Ws (g:List Rec) (ts:List Int) (hl:g.length≤1000000) (ht:ts.length≤1000000):S Mn 2 [Ag g,I9 ts]=some [.b (It g ts)]:=by
 refine Hs4 (N:=1) rfl ?_;have h:=H6 g Vn [I9 ts] (fun r=> !decide (r.typ∈ts)) hl (fun r _=>Ap8 r ts ht);have e:(!(g.any fun r=> !decide (r.typ∈ts)))=It g ts:=by unfold It;rw [List.not_any_eq_all_not];simp
 rw [←e];generalize (g.any fun r=> !decide (r.typ∈ts))=b at*;simp (disch:=omega) only [Hc7,cq,Bq3,h,EVC,xe,EVP,EV,simprocAttr]
theorem jz (g:List Rec) (hl:g.length≤1000000):S ep 1 [Ag g]=some [.b (Dr1 g)]:=by
 obtain ⟨N,hN⟩:∃N,N=g.length+2:=⟨_,rfl⟩;refine Hs5 (N:=N) rfl ?_;have key:Bt1.ev S N [Ag g]=some (if Dr1 g=true then .yld 0 [] else .ret [.b false]):=by
  cases g with
  |nil=>
   refine F9 0 (fun _=>[.i .i64 1]) (fun _=> .yld 0 []) ?_ (by omega) (fun i hi=>absurd hi (by omega)) ⟨?_,rfl⟩
   ·simp (disch:=omega) only [EVC,xe,EVP,EV,simprocAttr]
   ·have hlt:¬(1:Int)<(([]:List Rec).length:Int):=by simp
    simp (disch:=omega) only [Nh,hlt,EVC,xe,EVP,EV,simprocAttr]
  |cons p r=>
   have hlr:(p::r).length=r.length+1:=rfl;have:=Fc (fn:=S) (N:=N) (η:=[Ag (p::r)]) (id:=1) (init:=[.c (.i .i64 1)]) (body:=qv) r (fun i=>[.i .i64 ((i:Int)+1)]) (fun i l=>if (match (p::r)[i]? with|some q=>U2 q l|none=>true)=true then .yld 0 [] else .ret [.b false]) ?_ (by omega) (fun i c l hd hi hc=> ?_) ?_
   ·exact this
   ·simp (disch:=omega) only [EVC,xe,EVP,EV,simprocAttr]
    try rfl
   ·obtain ⟨q,hq⟩:∃q,(p::r)[i]? =some q:=⟨_,Ab (by rw [hlr];omega)⟩;have hc':(p::r)[i+1]? =some c:=by simpa using hc
    have e1:((i:Int)+1 - 1).toNat=i:=by omega
    have e2:((i:Int)+1).toNat=i+1:=by omega
    have hlt:(i:Int)+1<((p::r).length:Int):=by rw [hlr];omega
    have hsg:=An1 c.typ;rw [hq,hc'];generalize (p::r)=g' at*;have step:U2 q (c::l)=((!decide (c.typ=q.typ)||(!(decide (c.typ=6)||decide (c.typ=5)||decide (c.typ=39)) && (decide (c.typ=46)||decide (c.ttl=q.ttl)))) && U2 c l):=rfl;by_cases h1:c.typ=q.typ
    ·rcases Aq (decide (c.typ=6)||decide (c.typ=5)||decide (c.typ=39)) with h2|h2
     ·right;have er:U2 q (c::l)=false:=by rw [step,h2];simp [h1]
      rw [h2] at hsg;simp only [er,Ad,if_false];refine ⟨?_,rfl⟩;rw [h1] at hsg;simp (disch:=omega) only [Nh,hlt,e1,e2,hq,hc',h1,hsg,EVC,xe,EVP,EV,simprocAttr]
     ·rw [h2] at hsg;rw [h2] at step;rw [h1] at hsg;by_cases h3:c.typ=46
      ·left;have er:U2 q (c::l)=U2 c l:=by rw [step];simp [h3]
       have h3':q.typ=46:=by rw [←h1];exact h3
       rw [h3'] at hsg;refine ⟨?_,by simp only [er]⟩;simp (disch:=omega) only [Nh,hlt,e1,e2,hq,hc',h1,h3',hsg,EVC,xe,EVP,EV,simprocAttr]
       try simp
      ·have h3':¬q.typ=46:=by rw [←h1];exact h3
       by_cases h4:c.ttl=q.ttl
       ·left;have er:U2 q (c::l)=U2 c l:=by rw [step];simp [h4]
        refine ⟨?_,by simp only [er]⟩;simp (disch:=omega) only [Nh,hlt,e1,e2,hq,hc',h1,h3',h4,hsg,EVC,xe,EVP,EV,simprocAttr]
        try simp
       ·right;have er:U2 q (c::l)=false:=by rw [step];simp [h1,h3',h4]
        simp only [er,Ad,if_false];refine ⟨?_,rfl⟩;simp (disch:=omega) only [Nh,hlt,e1,e2,hq,hc',h1,h3',h4,hsg,EVC,xe,EVP,EV,simprocAttr]
    ·left;have er:U2 q (c::l)=U2 c l:=by rw [step];simp [h1]
     refine ⟨?_,by simp only [er]⟩;simp (disch:=omega) only [Nh,hlt,e1,e2,hq,hc',h1,EVC,xe,EVP,EV,simprocAttr]
     try simp
   ·have hlt:¬(r.length:Int)+1<((p::r).length:Int):=by rw [hlr];omega
    obtain ⟨q,hq⟩:∃q,(p::r)[r.length]? =some q:=⟨_,Ab (by rw [hlr];omega)⟩;rw [hq];refine ⟨?_,by simp [U2,Out.goes]⟩;generalize (p::r)=g' at*;simp (disch:=omega) only [Nh,hlt,EVC,xe,EVP,EV,simprocAttr];simp [U2]
 rcases Aq (Dr1 g) with h|h
 ·rw [h,if_pos rfl] at key;rw [h];simp (disch:=omega) only [Nh,key,EVC,xe,EVP,EV,simprocAttr]
 ·rw [h,if_neg (by simp)] at key;rw [h];simp (disch:=omega) only [Nh,key,EVC,xe,EVP,EV,simprocAttr]
theorem Dp5 (a b:List Rec) (ha:a.length≤1000000) (hb:b.length≤1000000):S Bh9 2 [Ag a,Ag b]=some [.b (decide (a=b))]:=by
 obtain ⟨N,hN⟩:∃N,N=a.length+1:=⟨_,rfl⟩;refine Jq8 (N:=N) rfl ?_;by_cases hl:a.length=b.length
 ·have key:Fk9.ev S N [Ag a,Ag b]=some (if a.drop 0=b.drop 0 then .yld 0 [] else .ret [.b false]):=by
   refine F9 a.length (fun i=>[.i .i64 (i:Int)]) (fun i=>if a.drop i=b.drop i then .yld 0 [] else .ret [.b false]) rfl (by omega) (fun i hi=> ?_) ?_
   ·have h1:a[i]? =some a[i]:=Ab hi;have h2:b[i]? =some b[i]:=Ab (by omega);have d1:a.drop i=a[i]::a.drop (i+1):=Cz hi;have d2:b.drop i=b[i]::b.drop (i+1):=Cz (by omega);rw [d1,d2];generalize a[i]=x at*;generalize b[i]'(by omega)=y at*;have hlt:(i:Int)<(a.length:Int):=by omega
    by_cases h:x=y
    ·left;subst h;refine ⟨?_,by simp⟩;simp (disch:=omega) only [Ax1,hlt,h1,h2,EVC,xe,EVP,EV,simprocAttr]
     try simp
    ·right;rw [if_neg (by simp [h])];refine ⟨?_,rfl⟩;simp (disch:=omega) only [Ax1,hlt,h1,h2,h,EVC,xe,EVP,EV,simprocAttr]
   ·have hlt:¬(a.length:Int)<(a.length:Int):=by omega
    have e:a.drop a.length=b.drop a.length:=by rw [List.drop_length,hl,List.drop_length]
    rw [if_pos e];refine ⟨?_,rfl⟩;simp (disch:=omega) only [Ax1,hlt,EVC,xe,EVP,EV,simprocAttr]
  have hl':(a.length:Int)=(b.length:Int):=by omega
  rw [D7,D7] at key;by_cases h:a=b
  ·rw [if_pos h] at key;have e:decide (a=b)=true:=by simp [h]
   rw [e];simp (disch:=omega) only [Ax1,hl',key,EVC,xe,EVP,EV,simprocAttr]
  ·rw [if_neg h] at key;have e:decide (a=b)=false:=by simp [h]
   rw [e];simp (disch:=omega) only [Ax1,hl',key,EVC,xe,EVP,EV,simprocAttr]
 ·have hl':¬(a.length:Int)=(b.length:Int):=by omega
  have e:decide (a=b)=false:=decide_eq_false fun q=>hl (by rw [q]);rw [e];simp (disch:=omega) only [Ax1,hl',EVC,xe,EVP,EV,simprocAttr]
end Go.X.G
/- Zones in the program: proper. -/
namespace Go.X.G
open Go Go.X
section
variable (o cut red:List UInt8) (g:List Rec) (x:Rec) (N:Nat)
def Ax9 (n:List UInt8):Bool:=decide (n[0]? =some 42)
theorem Jx4 (hx:g[0]? =some x) (hl:g.length≤1000000) (hn:x.name≠[]) (p4 p5 p6 p7 p8 p9 p10 p11 p12 p13:PV):
  Cr4.ev S N [.s o,Ag g, .s cut, .s red,p4,p5,p6,p7,p8,p9,p10,p11,p12,p13]=some (.ret [.b (!Ax9 x.name||(!F5 g 2 && !F5 g 39))]):=by
 have k2:=J2 g 2 hl;have k39:=J2 g 39 hl;obtain ⟨c,hc⟩:∃c,x.name[0]? =some c:=⟨_,Ab (Bw.2 hn)⟩;unfold Ax9;rw [hc];by_cases h1:c=42
 ·have h1':(c.toNat:Int)=42:=by rw [h1];rfl
  rcases Aq (F5 g 2) with h2|h2
  ·rw [h2] at k2;simp (disch:=omega) only [Gy2,hx,hc,h1',k2,EVC,xe,EVP,EV,simprocAttr];simp [h1,h2]
  ·rw [h2] at k2;simp (disch:=omega) only [Gy2,hx,hc,h1',k2,k39,EVC,xe,EVP,EV,simprocAttr];simp [h1,h2]
 ·have h1':¬(c.toNat:Int)=42:=fun q=>h1 (UInt8.toNat_inj.1 (show c.toNat=42 by omega));simp (disch:=omega) only [Gy2,hx,hc,h1',EVC,xe,EVP,EV,simprocAttr];simp [h1]
theorem Jx3 (hx:g[0]? =some x) (hl:g.length≤1000000) (hn:x.name≠[]) (p4 p5 p6 p7 p8 p9 p10:PV):
  zy.ev S N [.s o,Ag g, .s cut, .s red,p4,p5,p6,p7,p8,p9,p10]=some (.ret [.b ((if (!decide (x.name=o) && F5 g 2)=true then It g [2,43,47,46,1,28] else !F5 g 43) && (!Ax9 x.name||(!F5 g 2 && !F5 g 39)))]):=by
 have k2:=J2 g 2 hl;have k43:=J2 g 43 hl;have kd:S Mn 2 [Ag g, .l 1 [.i .i64 2, .i .i64 43, .i .i64 47, .i .i64 46, .i .i64 1, .i .i64 28]]=some [.b (It g [2,43,47,46,1,28])]:=Ws g [2,43,47,46,1,28] hl (by decide);have hlit:Jn 1 [.i .i64 2, .i .i64 43, .i .i64 47, .i .i64 46, .i .i64 1, .i .i64 28]=some (.l 1 [.i .i64 2, .i .i64 43, .i .i64 47, .i .i64 46, .i .i64 1, .i .i64 28]):=rfl;have t:=fun p11 p12 p13=>Jx4 o cut red g x N hx hl hn p4 p5 p6 p7 p8 p9 p10 p11 p12 p13;have x7:=By zy.eq_1;have x6:=By Cy6.eq_1;have x5:=By Cb3.eq_1;have x4:=By Cf0.eq_1;have x3:=By Cl3.eq_1;by_cases h0:x.name=o
 ·rcases Aq (F5 g 43) with h1|h1<;>rw [h1] at k43<;>simp (disch:=omega) only [x7,x6,x5,x4,x3,t,hx,h0,k43,hlit,EVC,xe,EVP,EV,simprocAttr]<;>simp [h1]
 ·rcases Aq (F5 g 2) with h2|h2
  ·rw [h2] at k2;rcases Aq (It g [2,43,47,46,1,28]) with h3|h3<;>rw [h3] at kd<;>simp (disch:=omega) only [x7,x6,x5,x4,x3,t,hx,h0,k2,kd,hlit,EVC,xe,EVP,EV,simprocAttr]<;>simp [h0,h2,h3]
  ·rw [h2] at k2;rcases Aq (F5 g 43) with h1|h1<;>rw [h1] at k43<;>simp (disch:=omega) only [x7,x6,x5,x4,x3,t,hx,h0,k2,k43,hlit,EVC,xe,EVP,EV,simprocAttr]<;>simp [h0,h1,h2]
theorem Ij4 (hx:g[0]? =some x) (hl:g.length≤1000000) (hn:x.name≠[]) (p4 p5 p6 p7:PV):
  Y8.ev S N [.s o,Ag g, .s cut, .s red,p4,p5,p6,p7]=some (.ret [.b ((!F5 g 5||It g [5,46,47]) && decide (red=[]) && (decide (cut=[])||It g [1,28]) && ((if (!decide (x.name=o) && F5 g 2)=true then It g [2,43,47,46,1,28] else !F5 g 43) && (!Ax9 x.name||(!F5 g 2 && !F5 g 39))))]):=by
 have k5:=J2 g 5 hl;have kc:S Mn 2 [Ag g, .l 1 [.i .i64 5, .i .i64 46, .i .i64 47]]=some [.b (It g [5,46,47])]:=Ws g [5,46,47] hl (by decide);have ka:S Mn 2 [Ag g, .l 1 [.i .i64 1, .i .i64 28]]=some [.b (It g [1,28])]:=Ws g [1,28] hl (by decide);have hlit1:Jn 1 [.i .i64 5, .i .i64 46, .i .i64 47]=some (.l 1 [.i .i64 5, .i .i64 46, .i .i64 47]):=rfl;have hlit2:Jn 1 [.i .i64 1, .i .i64 28]=some (.l 1 [.i .i64 1, .i .i64 28]):=rfl;have t:=fun p8 p9 p10=>Jx3 o cut red g x N hx hl hn p4 p5 p6 p7 p8 p9 p10;generalize ((if (!decide (x.name=o) && F5 g 2)=true then It g [2,43,47,46,1,28] else !F5 g 43) && (!Ax9 x.name||(!F5 g 2 && !F5 g 39)))=B at*;have x13:=By Y8.eq_1;have x12:=By o6.eq_1;have x11:=By o7.eq_1;have x10:=By o8.eq_1;have x9:=By Cw3.eq_1;have x8:=By Cx0.eq_1;rcases Aq (F5 g 5) with h1|h1<;>rw [h1] at k5
 ·rcases Aq (It g [5,46,47]) with h2|h2<;>rw [h2] at kc
  ·by_cases h3:red=[]
   ·replace h3:=eq_true h3;by_cases h4:cut=[]
    ·replace h4:=eq_true h4;simp (disch:=omega) only [x13,x12,x11,x10,x9,x8,t,k5,kc,h3,h4,hlit1,hlit2,EVC,xe,EVP,EV,simprocAttr]
     (clear x13 x12 x11 x10 x9 x8 t;simp [*])
    ·rcases Aq (It g [1,28]) with h5|h5<;>rw [h5] at ka<;>simp (disch:=omega) only [x13,x12,x11,x10,x9,x8,t,k5,kc,ka,h3,h4,hlit1,hlit2,EVC,xe,EVP,EV,simprocAttr]<;>(clear x13 x12 x11 x10 x9 x8 t;simp [*])
   ·simp (disch:=omega) only [x13,x12,x11,x10,x9,x8,t,k5,kc,h3,hlit1,hlit2,EVC,xe,EVP,EV,simprocAttr]
    (clear x13 x12 x11 x10 x9 x8 t;simp [*])
  ·simp (disch:=omega) only [x13,x12,x11,k5,kc,hlit1,hlit2,EVC,xe,EVP,EV,simprocAttr]
   (clear x13 x12 x11 x10 x9 x8 t;simp [*])
 ·by_cases h3:red=[]
  ·replace h3:=eq_true h3;by_cases h4:cut=[]
   ·replace h4:=eq_true h4;simp (disch:=omega) only [x13,x12,x11,x10,x9,x8,t,k5,h3,h4,hlit1,hlit2,EVC,xe,EVP,EV,simprocAttr]
    (clear x13 x12 x11 x10 x9 x8 t;simp [*])
   ·rcases Aq (It g [1,28]) with h5|h5<;>rw [h5] at ka<;>simp (disch:=omega) only [x13,x12,x11,x10,x9,x8,t,k5,ka,h3,h4,hlit1,hlit2,EVC,xe,EVP,EV,simprocAttr]<;>(clear x13 x12 x11 x10 x9 x8 t;simp [*])
  ·simp (disch:=omega) only [x13,x12,x11,x10,x9,x8,t,k5,h3,hlit1,hlit2,EVC,xe,EVP,EV,simprocAttr]
   (clear x13 x12 x11 x10 x9 x8 t;simp [*])
end
theorem Aw9 (o cut red:List UInt8) (g:List Rec) (hg:g≠[]) (hl:g.length≤1000000) (ho:o.length≤9223372036854775807) (hn:(nmG g).length≤9223372036854775807):
  S Bh6 4 [.s o,Ag g, .s cut, .s red]=some [.b (propG o g (decide (cut≠[])) (decide (red≠[])))]:=by
 obtain ⟨x,r,rfl⟩:∃x r,g=x::r:=by
  cases g with
  |nil=>exact absurd rfl hg
  |cons x r=>exact ⟨x,r,rfl⟩
 have hx:(x::r)[0]? =some x:=rfl;have hnm:nmG (x::r)=x.name:=rfl;rw [hnm] at hn;unfold propG;rw [hnm];generalize (x::r)=g at*;obtain ⟨N,hN⟩:∃N,N=1:=⟨_,rfl⟩;refine Jq5 (N:=N) rfl ?_;have hu:=F7 x.name o hn ho;have k6:=J2 g 6 hl;have k2:=J2 g 2 hl;have ku:=jz g hl;have xt:=By Bj0.eq_1;have x18:=By oh.eq_1;have x17:=By om.eq_1;have x16:=By ot.eq_1;have x15:=By o2.eq_1;have x14:=By o3.eq_1;have e1:decide (cut≠[])= !decide (cut=[]):=by simp
 have e2:decide (red≠[])= !decide (red=[]):=by simp
 rw [e1,e2,Bool.not_not,Bool.not_not];rcases Aq (under x.name o) with h0|h0<;>rw [h0] at hu
 ·have hne:x.name≠[]:=jy (Bt.1 h0).1;have t:=fun p4 p5 p6 p7=>Ij4 o cut red g x N hx hl hne p4 p5 p6 p7;have eS:Ax9 x.name=decide (x.name[0]? =some 42):=rfl;rw [eS] at t;generalize hA:(!F5 g 5||It g [5,46,47])=A at*;generalize hB:(if (!decide (x.name=o) && F5 g 2)=true then It g [2,43,47,46,1,28] else !F5 g 43)=B at*;generalize hC:(!decide (x.name[0]? =some 42)||(!F5 g 2 && !F5 g 39))=C at*;generalize decide (red=[])=D at*;generalize (decide (cut=[])||It g [1,28])=E' at*;clear hB hC hA;rcases Aq (F5 g 6) with h6|h6<;>rw [h6] at k6
  ·by_cases hno:x.name=o
   ·replace hno:=eq_true hno;rcases Aq (Dr1 g) with h1|h1<;>rw [h1] at ku
    ·rcases Aq (F5 g 2) with h2|h2<;>rw [h2] at k2
     ·simp (disch:=omega) only [xt,x18,x17,x16,x15,x14,t,hx,hu,k6,hno,ku,k2,EVC,xe,EVP,EV,simprocAttr]
      (clear xt x18 x17 x16 x15 x14 t;simp [*,Bool.and_assoc])
     ·simp (disch:=omega) only [xt,x18,x17,x16,x15,x14,t,hx,hu,k6,hno,ku,k2,EVC,xe,EVP,EV,simprocAttr]
      (clear xt x18 x17 x16 x15 x14 t;simp [*])
    ·simp (disch:=omega) only [xt,x18,x17,x16,x15,x14,t,hx,hu,k6,hno,ku,EVC,xe,EVP,EV,simprocAttr]
     (clear xt x18 x17 x16 x15 x14 t;simp [*])
   ·simp (disch:=omega) only [xt,x18,x17,x16,x15,x14,t,hx,hu,k6,hno,EVC,xe,EVP,EV,simprocAttr]
    (clear xt x18 x17 x16 x15 x14 t;simp [*])
  ·by_cases hno:x.name=o
   ·replace hno:=eq_true hno;simp (disch:=omega) only [xt,x18,x17,x16,x15,x14,t,hx,hu,k6,hno,EVC,xe,EVP,EV,simprocAttr]
    (clear xt x18 x17 x16 x15 x14 t;simp [*])
   ·rcases Aq (Dr1 g) with h1|h1<;>rw [h1] at ku
    ·simp (disch:=omega) only [xt,x18,x17,x16,x15,x14,t,hx,hu,k6,hno,ku,EVC,xe,EVP,EV,simprocAttr]
     (clear xt x18 x17 x16 x15 x14 t;simp [*,Bool.and_assoc])
    ·simp (disch:=omega) only [xt,x18,x17,x16,x15,x14,t,hx,hu,k6,hno,ku,EVC,xe,EVP,EV,simprocAttr]
     (clear xt x18 x17 x16 x15 x14 t;simp [*])
 ·simp (disch:=omega) only [xt,x18,x17,x16,x15,x14,hx,hu,EVC,xe,EVP,EV,simprocAttr]
  (clear xt x18 x17 x16 x15 x14;simp [*])
end Go.X.G
