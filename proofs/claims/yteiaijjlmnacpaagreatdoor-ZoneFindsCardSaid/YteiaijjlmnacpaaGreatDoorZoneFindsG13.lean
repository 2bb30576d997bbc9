/- The order of any records; what is sorted stably and made compact is what the reference Uf. -/
import Derived.Test.YteiaijjlmnacpaaGreatDoorZoneFindsG12
import Derived.Test.YteiaijjlmnacpaaGreatDoorZoneFindsG9
import Derived.Test.YteiaijjlmnacpaaGreatDoorZoneFindsG10
open Bool renaming eq_false_or_eq_true→Ak,and_eq_true→Av,false_eq_true→Ab,or_eq_true→Am,not_eq_true'→A7,eq_iff_iff→Ch
open Int renaming le_refl→Ld9
open List renaming getElem?_eq_some_iff→Aq,getElem?_eq_getElem→Ax,length_append→Az,length_take→Ah,mem_cons→Al,append_assoc→Ap,mem_of_getElem?→Ar,pairwise_cons→As,length_cons→A0,getElem?_drop→A5,getElem?_append_right→A6,getElem?_append_left→A9,eq_nil_of_length_eq_zero→Bq,length_pos_iff→By,length_nil→Bc,mem_append_right→Bh,take_append_drop→Bl,mem_append→Br,mem_filter→Bs,length_drop→Bt,drop_eq_getElem_cons→B0,cons_append→B3,take_add_one→B7,any_eq_true→B8,nil_append→Cd,take_length→Ct,getElem?_cons_succ→C2,getElem?_set→C3,take_of_length_le→C5,drop_drop→C6,getElem?_of_mem→Dv,filter_cons_of_pos→Dd,getElem_mem→Dp,drop_zero→Ds,length_filter_le→D5,mem_map→D6,append_nil→D7,filter_eq_nil_iff→Ez,pairwise_append→E5,mem_of_mem_take→E7,filter_append→E8,length_map→Fw,count_cons_of_ne→F3,map_cons→F6,count_cons_self→Gd,flatMap_cons→G2,filter_cons→H5,mem_of_mem_drop→Ih,drop_append_of_le_length→Im,getLast_eq_getElem→Jj,length_set→Jl,pairwise_iff_getElem→M5,drop_of_length_le→W3,set_append_right→jr,length_mergeSort→jt,getElem_take→rl,take_take→Bb4,getElem?_set_ne→Bb5,drop_set_of_lt→Hh4,map_mergeSort→Ky6,findIdx?_cons→Ky7,count_eq_zero→Ky8
open Nat renaming le_refl→Ac,mul_le_mul_right→Bz,add_mul→B9,zero_le→Cn,le_trans→Dc,add_zero→Dr,min_eq_left→Nb,add_sub_cancel→W2,sub_self→En3,add_comm→En4
set_option maxHeartbeats 1000000
set_option linter.unusedVariables false
set_option linter.unusedSimpArgs false
namespace Go.X.G
open Go Go.X
def Iw8 (t:Int) (d:Dat):Int×List UInt8:=if Dz t d=true then (0,Iw t d) else (1,[])
abbrev ltD:Int×List UInt8→Int×List UInt8→Prop:=fun p q=>p.1<q.1∨(p.1=q.1∧ltB p.2 q.2)
theorem Lf4:TO ltD:=Is3.prod Em9
theorem Fm0 (t:Int) (a b:Dat):Cm5 t a b<0↔ltD (Iw8 t a) (Iw8 t b):=by
 unfold Cm5 Iw8 ltD
 rcases Ak (Dz t a) with h1|h1<;>rcases Ak (Dz t b) with h2|h2<;>simp [h1,h2,Rl,Em9.irr]
theorem Cm4 (t:Int) (a b:Dat):Cm5 t a b=0↔Iw8 t a=Iw8 t b:=by
 unfold Cm5 Iw8
 rcases Ak (Dz t a) with h1|h1<;>rcases Ak (Dz t b) with h2|h2<;>simp [h1,h2,I2]
abbrev Kx1:=List UInt8×Int×Int×List UInt8
abbrev ltF:Kx1→Kx1→Prop:=fun p q=>ltN p.1 q.1∨(p.1=q.1∧(p.2.1<q.2.1∨(p.2.1=q.2.1∧ltD p.2.2 q.2.2)))
theorem to_F:TO ltF:=to_N.prod (Is3.prod Lf4)
def F2 (r:Rec):Kx1:=(r.name,r.typ,Iw8 r.typ r.data)
theorem Y9 (a b:Rec):Ny a b<0↔ltF (F2 a) (F2 b):=by
 unfold Ny ltF F2
 simp only
 by_cases h1:I3 a.name b.name=0
 ·rw [if_neg (by simp [h1])]
  have e1:=H1.1 h1
  have n1:¬ltN a.name b.name:=by rw [e1];exact to_N.irr _
  by_cases h2:im a.typ b.typ=0
  ·rw [if_neg (by simp [h2])]
   have e2:=(H2 _ _).1 h2
   rw [e2,Fm0]
   constructor
   ·intro h;exact .inr ⟨e1,.inr ⟨rfl,h⟩⟩
   ·rintro (h|⟨_,h|⟨_,h⟩⟩)
    ·exact absurd h n1
    ·omega
    ·exact h
  ·rw [if_pos h2,Y8]
   have e2:a.typ≠b.typ:=fun e=>h2 ((H2 _ _).2 e)
   constructor
   ·intro h;exact .inr ⟨e1,.inl h⟩
   ·rintro (h|⟨_,h|⟨h,_⟩⟩)
    ·exact absurd h n1
    ·exact h
    ·exact absurd h e2
 ·rw [if_pos h1,Et]
  have e1:a.name≠b.name:=fun e=>h1 (H1.2 e)
  constructor
  ·intro h;exact .inl h
  ·rintro (h|⟨h,_⟩)
   ·exact h
   ·exact absurd h e1
theorem Mc (a b:Rec):Ny a b=0↔F2 a=F2 b:=by
 unfold Ny F2
 by_cases h1:I3 a.name b.name=0
 ·rw [if_neg (by simp [h1])]
  have e1:=H1.1 h1
  by_cases h2:im a.typ b.typ=0
  ·rw [if_neg (by simp [h2])]
   have e2:=(H2 _ _).1 h2
   rw [e2,Cm4]
   simp [e1]
  ·rw [if_pos h2]
   have e2:a.typ≠b.typ:=fun e=>h2 ((H2 _ _).2 e)
   constructor
   ·intro h;exact absurd h h2
   ·intro h;injection h with _ h;injection h with h _;exact absurd h e2
 ·rw [if_pos h1]
  have e1:a.name≠b.name:=fun e=>h1 (H1.2 e)
  constructor
  ·intro h;exact absurd h h1
  ·intro h;injection h with h _;exact absurd h e1
def Ix5 (a b:Rec):Int:=if Ny a b≠0 then Ny a b else im a.ttl b.ttl
abbrev ltT:Kx1×Int→Kx1×Int→Prop:=fun p q=>ltF p.1 q.1∨(p.1=q.1∧p.2<q.2)
theorem to_T:TO ltT:=to_F.prod Is3
theorem Fl9 (a b:Rec):Ix5 a b<0↔ltT (F2 a,a.ttl) (F2 b,b.ttl):=by
 unfold Ix5
 by_cases h:Ny a b=0
 ·have e:=(Mc a b).1 h
  rw [if_neg (by simp [h]),Y8]
  simp only [ltT,e,true_and]
  exact ⟨.inr,fun q=>q.resolve_left (to_F.irr _)⟩
 ·rw [if_pos h,Y9]
  have e:F2 a≠F2 b:=fun e=>h ((Mc a b).2 e)
  simp only [ltT,e,false_and,or_false]
def leR (a b:Rec):Bool:= !decide (Ix5 b a<0)
theorem Nw (a b:Rec):leR a b=true↔¬ltT (F2 b,b.ttl) (F2 a,a.ttl):=by
 unfold leR;simp [←Fl9]
theorem Is2:TP leR where
 tr:=fun a b c h1 h2=>by
  rw [Nw] at*
  exact to_T.ntr h2 h1
 tot:=fun a b=>by
  simp only [Nw]
  rcases to_T.tri (F2 a,a.ttl) (F2 b,b.ttl) with h|h|h
  ·exact .inl (to_T.asym h)
  ·rw [h];exact .inl (to_T.irr _)
  ·exact .inr (to_T.asym h)
theorem Ch5 (a b:Rec):eqv leR a b=true↔F2 a=F2 b∧a.ttl=b.ttl:=by
 unfold eqv
 rw [Av,Nw,Nw]
 constructor
 ·rintro ⟨h1,h2⟩
  rcases to_T.tri (F2 a,a.ttl) (F2 b,b.ttl) with h|h|h
  ·exact absurd h h2
  ·injection h with h3 h4;exact ⟨h3,h4⟩
  ·exact absurd h h1
 ·rintro ⟨h1,h2⟩
  rw [h1,h2];exact ⟨to_T.irr _,to_T.irr _⟩
theorem Xh {α:Type} {P:List α→Prop} (h0:P []) (h1:∀l x,P l→P (l++[x])):∀(n:Nat) (l:List α),l.length=n→P l
 |0,l,h=>by rw [Bq h];exact h0
 |n+1,l,h=>by
  have hne:l≠[]:=fun e=>by rw [e] at h;simp at h
  rw [←List.dropLast_concat_getLast hne]
  exact h1 _ _ (Xh h0 h1 n _ (by rw [List.length_dropLast];omega))
def Hh3 (l:List Rec) (z:Rec):Prop:=∃l1 l2,l=l1++z::l2∧(∀y∈l1,F2 y=F2 z→z.ttl<y.ttl)∧∀y∈l2,F2 y=F2 z→z.ttl≤y.ttl
theorem Hh3.mem {l:List Rec} {z:Rec} (h:Hh3 l z):z∈l:=by
 obtain ⟨l1,l2,rfl,_⟩:=h;simp
theorem I4 (l:List Rec) (x z:Rec):Hh3 (l++[x]) z↔(z=x∧∀y∈l,F2 y=F2 x→x.ttl<y.ttl)∨(Hh3 l z∧(F2 z=F2 x→z.ttl≤x.ttl)):=by
 constructor
 ·rintro ⟨l1,l2,h,h1,h2⟩
  rcases List.eq_nil_or_concat l2 with rfl|⟨l3,w,rfl⟩
  ·obtain ⟨q1,q2⟩:=List.append_inj' h rfl
   injection q2 with q2 _
   subst q1;subst q2
   exact .inl ⟨rfl,h1⟩
  ·rw [List.concat_eq_append,←B3,←Ap] at h
   obtain ⟨q1,q2⟩:=List.append_inj' h rfl
   injection q2 with q2 _
   subst q1;subst q2
   refine .inr ⟨⟨l1,l3,rfl,h1,fun y hy=>h2 y (by simp [hy])⟩,fun e=>h2 x (by simp) e.symm⟩
 ·rintro (⟨rfl,h⟩|⟨⟨l1,l2,rfl,h1,h2⟩,h⟩)
  ·exact ⟨l,[],rfl,h,fun y hy=>by simp at hy⟩
  ·refine ⟨l1,l2++[x],by simp,h1,fun y hy e=> ?_⟩
   rcases Br.1 hy with hy|hy
   ·exact h2 y hy e
   ·have:y=x:=by simpa using hy
    subst this
    exact h e.symm
theorem If8 (l:List Rec):∀y∈l,∃z,Hh3 l z∧F2 z=F2 y∧z.ttl≤y.ttl:=by
 refine Xh (P:=fun l=>∀y∈l,∃z,Hh3 l z∧F2 z=F2 y∧z.ttl≤y.ttl) ?_ ?_ _ l rfl
 ·intro y h;simp at h
 ·intro l x ih y hy
  by_cases hx:∀w∈l,F2 w=F2 x→x.ttl<w.ttl
  ·rcases Br.1 hy with hy|hy
   ·obtain ⟨z,h1,h2,h3⟩:=ih y hy
    by_cases e:F2 z=F2 x∧x.ttl<z.ttl
    ·exact ⟨x,(I4 l x x).2 (.inl ⟨rfl,hx⟩),by rw [←e.1,h2],by have:=e.2;omega⟩
    ·exact ⟨z,(I4 l x z).2 (.inr ⟨h1,fun q=>Int.le_of_not_gt fun r=>e ⟨q,r⟩⟩),h2,h3⟩
   ·have:y=x:=by simpa using hy
    subst this
    exact ⟨y,(I4 l y y).2 (.inl ⟨rfl,hx⟩),rfl,Ld9 _⟩
  ·have:∃w∈l,F2 w=F2 x∧w.ttl≤x.ttl:=by
    apply Classical.byContradiction
    intro h
    exact hx fun w hw e=>Int.lt_of_not_ge fun q=>h ⟨w,hw,e,q⟩
   obtain ⟨w,hw,hw1,hw2⟩:=this
   obtain ⟨z,h1,h2,h3⟩:=ih w hw
   rcases Br.1 hy with hy|hy
   ·obtain ⟨z',g1,g2,g3⟩:=ih y hy
    by_cases e:F2 z'=F2 x∧x.ttl<z'.ttl
    ·exact ⟨z,(I4 l x z).2 (.inr ⟨h1,fun _=>by omega⟩),by rw [h2,hw1,←e.1,g2],by have:=e.2;omega⟩
    ·exact ⟨z',(I4 l x z').2 (.inr ⟨g1,fun q=>Int.le_of_not_gt fun r=>e ⟨q,r⟩⟩),g2,g3⟩
   ·have:y=x:=by simpa using hy
    subst this
    exact ⟨z,(I4 l y z).2 (.inr ⟨h1,fun _=>by omega⟩),by rw [h2,hw1],by omega⟩
abbrev Ft5 (l:List Rec):Prop:=l.Pairwise fun a b=>ltF (F2 a) (F2 b)
theorem Cg0 (x:Rec):∀(l:List Rec),Ft5 l→(Ft5 (Tb x l)∧∀z,z∈Tb x l↔(z=x∧∀y∈l,F2 y=F2 x→x.ttl<y.ttl)∨(z∈l∧(F2 z=F2 x→z.ttl≤x.ttl)))
 |[],_=>by simp [Tb]
 |y::r,h=>by
  obtain ⟨h1,h2⟩:=As.1 h
  obtain ⟨i1,i2⟩:=Cg0 x r h2
  simp only [Tb]
  by_cases c:Ny y x<0
  ·rw [if_pos c]
   have c':=(Y9 y x).1 c
   have ne:F2 y≠F2 x:=fun e=>to_F.irr _ (by rw [e] at c';exact c')
   refine ⟨As.2 ⟨fun w hw=> ?_,i1⟩,fun z=> ?_⟩
   ·rcases (i2 w).1 hw with ⟨rfl,_⟩|⟨hw,_⟩
    ·exact c'
    ·exact h1 w hw
   ·rw [Al,i2]
    simp only [Al,forall_eq_or_imp,ne,false_implies,true_and]
    constructor
    ·rintro (rfl|h|⟨h,h'⟩)
     ·exact .inr ⟨.inl rfl,fun e=>absurd e ne⟩
     ·exact .inl h
     ·exact .inr ⟨.inr h,h'⟩
    ·rintro (h|⟨rfl|h,h'⟩)
     ·exact .inr (.inl h)
     ·exact .inl rfl
     ·exact .inr (.inr ⟨h,h'⟩)
  ·rw [if_neg c]
   by_cases e:Ny y x=0
   ·have ke:=(Mc y x).1 e
    have hr:∀w∈r,F2 w≠F2 x:=fun w hw q=>to_F.irr (F2 y) (by have:=h1 w hw;rw [q,←ke] at this;exact this)
    rw [if_pos e]
    by_cases t:x.ttl<y.ttl
    ·rw [if_pos t]
     refine ⟨As.2 ⟨fun w hw=>by rw [←ke];exact h1 w hw,h2⟩,fun z=> ?_⟩
     simp only [Al,forall_eq_or_imp,ke,t,true_implies,true_and]
     constructor
     ·rintro (rfl|h)
      ·exact .inl ⟨rfl,fun w hw q=>absurd q (hr w hw)⟩
      ·exact .inr ⟨.inr h,fun q=>absurd q (hr z h)⟩
     ·rintro (⟨h,_⟩|⟨rfl|h,h'⟩)
      ·exact .inl h
      ·have:=h' ke;omega
      ·exact .inr h
    ·rw [if_neg t]
     refine ⟨h,fun z=> ?_⟩
     simp only [Al,forall_eq_or_imp,ke,t,false_and,and_false,false_or,forall_const,true_implies]
     constructor
     ·rintro (rfl|h)
      ·exact ⟨.inl rfl,fun _=>by omega⟩
      ·exact ⟨.inr h,fun q=>absurd q (hr z h)⟩
     ·exact fun h=>h.1
   ·rw [if_neg e]
    have hxy:ltF (F2 x) (F2 y):=by
     rcases to_F.tri (F2 x) (F2 y) with q|q|q
     ·exact q
     ·exact absurd ((Mc y x).2 q.symm) e
     ·exact absurd ((Y9 y x).2 q) c
    have hall:∀w∈y::r,ltF (F2 x) (F2 w):=fun w hw=>by
     rcases Al.1 hw with rfl|hw
     ·exact hxy
     ·exact to_F.tr _ _ _ hxy (h1 w hw)
    have hne:∀w∈y::r,F2 w≠F2 x:=fun w hw q=>to_F.irr _ (by have:=hall w hw;rw [q] at this;exact this)
    refine ⟨As.2 ⟨hall,h⟩,fun z=> ?_⟩
    rw [Al]
    constructor
    ·rintro (rfl|h)
     ·exact .inl ⟨rfl,fun w hw q=>absurd q (hne w hw)⟩
     ·exact .inr ⟨h,fun q=>absurd q (hne z h)⟩
    ·rintro (⟨h,_⟩|⟨h,_⟩)
     ·exact .inl h
     ·exact .inr h
theorem Vv (l:List Rec):Ft5 (sortR l)∧∀z,z∈sortR l↔Hh3 l z:=by
 refine Xh (P:=fun l=>Ft5 (sortR l)∧∀z,z∈sortR l↔Hh3 l z) ?_ ?_ _ l rfl
 ·refine ⟨List.Pairwise.nil,fun z=>⟨fun h=>by simp [sortR] at h,fun h=>by have:=h.mem;simp at this⟩⟩
 ·intro l x ih
  have e:sortR (l++[x])=Tb x (sortR l):=by simp [sortR]
  obtain ⟨i1,i2⟩:=Cg0 x (sortR l) ih.1
  rw [e]
  refine ⟨i1,fun z=> ?_⟩
  rw [i2,I4,ih.2]
  have:(∀y∈sortR l,F2 y=F2 x→x.ttl<y.ttl)↔∀y∈l,F2 y=F2 x→x.ttl<y.ttl:=by
   constructor
   ·intro h y hy q
    obtain ⟨w,w1,w2,w3⟩:=If8 l y hy
    have:=h w ((ih.2 w).2 w1) (by rw [w2,q])
    omega
   ·intro h y hy q
    exact h y ((ih.2 y).1 hy).mem q
  rw [this]
theorem Bl7:∀(a b:List Rec),Ft5 a→Ft5 b→(∀x,x∈a↔x∈b)→a=b
 |[],[],_,_,_=>rfl
 |[],y::b,_,_,h=>absurd ((h y).2 (.head _)) (by simp)
 |x::a,[],_,_,h=>absurd ((h x).1 (.head _)) (by simp)
 |x::a,y::b,ha,hb,h=>by
  have ha':=As.1 ha
  have hb':=As.1 hb
  have hxy:x=y:=by
   rcases Al.1 ((h x).1 (.head _)) with h1|h1
   ·exact h1
   ·rcases Al.1 ((h y).2 (.head _)) with h2|h2
    ·exact h2.symm
    ·exact absurd (hb'.1 x h1) (to_F.asym (ha'.1 y h2))
  subst hxy
  rw [Bl7 a b ha'.2 hb'.2 fun z=> ?_]
  constructor
  ·intro hz
   rcases Al.1 ((h z).1 (.tail _ hz)) with rfl|h1
   ·exact absurd (ha'.1 z hz) (to_F.irr _)
   ·exact h1
  ·intro hz
   rcases Al.1 ((h z).2 (.tail _ hz)) with rfl|h1
   ·exact absurd (hb'.1 z hz) (to_F.irr _)
   ·exact h1
abbrev eqF:Rec→Rec→Bool:=fun a b=>decide (Ny a b=0)
theorem Gw7:∀(r:List Rec) (p:Rec),(p::r).Pairwise (fun a b=>leR a b=true)→(Ft5 (p::Q5 eqF p r)∧∀z,z∈Q5 eqF p r↔∃s1 s2,r=s1++z::s2∧∀y∈p::s1,F2 y≠F2 z)
 |[],p,_=>by simp [Q5]
 |c::r,p,h=>by
  obtain ⟨h1,h2⟩:=As.1 h
  obtain ⟨i1,i2⟩:=Gw7 r c h2
  have hpc:=(Nw p c).1 (h1 c (.head _))
  simp only [Q5]
  by_cases e:Ny c p=0
  ·rw [if_pos (by simp [e])]
   have ke:=(Mc c p).1 e
   refine ⟨?_,fun z=> ?_⟩
   ·obtain ⟨j1,j2⟩:=As.1 i1
    exact As.2 ⟨fun w hw=>by rw [←ke];exact j1 w hw,j2⟩
   ·rw [i2]
    constructor
    ·rintro ⟨s1,s2,rfl,q⟩
     refine ⟨c::s1,s2,rfl,fun y hy=> ?_⟩
     rcases Al.1 hy with rfl|hy
     ·rw [←ke];exact q c (.head _)
     ·exact q y hy
    ·rintro ⟨s1,s2,h,q⟩
     cases s1 with
     |nil=>
      injection h with h _
      subst h
      exact absurd ke.symm (q p (.head _))
     |cons w s1=>
      injection h with h h'
      subst h
      exact ⟨s1,s2,h',fun y hy=>q y (.tail _ hy)⟩
  ·rw [if_neg (by simp [e])]
   have ne:F2 c≠F2 p:=fun q=>e ((Mc c p).2 q)
   have hlt:ltF (F2 p) (F2 c):=by
    rcases to_F.tri (F2 p) (F2 c) with q|q|q
    ·exact q
    ·exact absurd q.symm ne
    ·exact absurd (.inl q) hpc
   obtain ⟨j1,j2⟩:=As.1 i1
   refine ⟨As.2 ⟨fun w hw=> ?_,i1⟩,fun z=> ?_⟩
   ·rcases Al.1 hw with rfl|hw
    ·exact hlt
    ·exact to_F.tr _ _ _ hlt (j1 w hw)
   ·rw [Al]
    constructor
    ·rintro (rfl|hz)
     ·exact ⟨[],r,rfl,fun y hy=>by have:y=p:=by simpa using hy
                                   subst this;exact ne.symm⟩
     ·obtain ⟨s1,s2,rfl,q⟩:=(i2 z).1 hz
      refine ⟨c::s1,s2,rfl,fun y hy=> ?_⟩
      rcases Al.1 hy with rfl|hy
      ·intro q2
       exact to_F.irr _ (by have:=to_F.tr _ _ _ hlt (j1 z hz);rw [q2] at this;exact this)
      ·exact q y hy
    ·rintro ⟨s1,s2,h,q⟩
     cases s1 with
     |nil=>injection h with h _;exact .inl h.symm
     |cons w s1=>
      injection h with h h'
      subst h
      exact .inr ((i2 z).2 ⟨s1,s2,h',fun y hy=>q y (.tail _ hy)⟩)
theorem Ld3 (s:List Rec) (h:s.Pairwise fun a b=>leR a b=true):Ft5 (cpt eqF s)∧∀z,z∈cpt eqF s↔∃s1 s2,s=s1++z::s2∧∀y∈s1,F2 y≠F2 z:=by
 cases s with
 |nil=>simp [cpt]
 |cons p r=>
  obtain ⟨i1,i2⟩:=Gw7 r p h
  refine ⟨i1,fun z=> ?_⟩
  show z∈p::Q5 eqF p r↔_
  rw [Al,i2]
  constructor
  ·rintro (rfl|⟨s1,s2,rfl,q⟩)
   ·exact ⟨[],r,rfl,by simp⟩
   ·exact ⟨p::s1,s2,rfl,q⟩
  ·rintro ⟨s1,s2,h,q⟩
   cases s1 with
   |nil=>injection h with h _;exact .inl h.symm
   |cons w s1=>
    injection h with h h'
    subst h
    exact .inr ⟨s1,s2,h',q⟩
theorem Xg {s l:List Rec} (h:Stab leR s l):cpt eqF s=sortR l:=by
 obtain ⟨i1,i2⟩:=Ld3 s h.sorted
 obtain ⟨j1,j2⟩:=Vv l
 refine Bl7 _ _ i1 j1 fun z=> ?_
 rw [i2,j2]
 have hz:eqv leR z z=true:=(Ch5 z z).2 ⟨rfl,rfl⟩
 have hm:=h.mem Is2
 constructor
 ·rintro ⟨s1,s2,rfl,q⟩
  have hs1:s1.filter (eqv leR z)=[]:=by
   rw [Ez]
   intro y hy hyz
   exact q y hy ((Ch5 z y).1 hyz).1.symm
  have hc:=h.cls z
  rw [E8,hs1,Cd,Dd hz] at hc
  obtain ⟨l1,l2,rfl,g1,_,_⟩:=List.filter_eq_cons_iff.1 hc.symm
  have key:∀y,y∈l1++z::l2→F2 y=F2 z→z.ttl≤y.ttl:=fun y hy e=>by
   rcases Br.1 ((hm y).2 hy) with w|w
   ·exact absurd e (q y w)
   ·rcases Al.1 w with rfl|w
    ·exact Ld9 _
    ·have:=(Nw z y).1 ((As.1 (E5.1 h.sorted).2.1).1 y w)
     exact Int.le_of_not_gt fun t=>this (.inr ⟨e,t⟩)
  refine ⟨l1,l2,rfl,fun y hy e=> ?_,fun y hy e=>key y (by simp [hy]) e⟩
  have k1:=key y (by simp [hy]) e
  have k2:=g1 y hy
  rw [Ch5] at k2
  have:z.ttl≠y.ttl:=fun t=>k2 ⟨e.symm,t⟩
  omega
 ·rintro ⟨l1,l2,rfl,q1,q2⟩
  have hl1:l1.filter (eqv leR z)=[]:=by
   rw [Ez]
   intro y hy hyz
   obtain ⟨a,b⟩:=(Ch5 z y).1 hyz
   have:=q1 y hy a.symm
   omega
  have hc:=h.cls z
  rw [E8,hl1,Cd,Dd hz] at hc
  obtain ⟨s1,s2,rfl,g1,_,_⟩:=List.filter_eq_cons_iff.1 hc
  refine ⟨s1,s2,rfl,fun y hy e=> ?_⟩
  have k1:=(Nw y z).1 ((E5.1 h.sorted).2.2 y hy z (by simp))
  have k2:¬z.ttl<y.ttl:=fun t=>k1 (.inr ⟨e.symm,t⟩)
  have k3:z.ttl≤y.ttl:=by
   rcases Br.1 ((hm y).1 (by simp [hy])) with w|w
   ·have:=q1 y w e;omega
   ·rcases Al.1 w with rfl|w
    ·exact Ld9 _
    ·exact q2 y w e
  exact g1 y hy ((Ch5 z y).2 ⟨e.symm,by omega⟩)
end Go.X.G
/- Merging in place, in plain words: where two sorted lists may be cut. -/
namespace Go.X.G
open Go Go.X
theorem L3 {α:Type} {le:α→α→Bool} (ht:TP le) {l:List α} (h:l.Pairwise fun x y=>le x y=true) {i j:Nat} {x y:α} (hij:i≤j) (hi:l[i]? =some x) (hj:l[j]? =some y):le x y=true:=by
 rcases Nat.lt_or_eq_of_le hij with h1|h1
 ·obtain ⟨a1,a2⟩:=Aq.1 hi
  obtain ⟨b1,b2⟩:=Aq.1 hj
  have:=M5.1 h i j a1 b1 h1
  rw [a2,b2] at this
  exact this
 ·subst h1
  rw [hi] at hj
  injection hj with hj
  subst hj
  exact ht.refl x
theorem S7 {α:Type} {le:α→α→Bool} (ht:TP le) {A B:List α} (hA:A.Pairwise fun x y=>le x y=true) (hB:B.Pairwise fun x y=>le x y=true) (i j:Nat)
  (h1:∀x y,i≠0→A[i - 1]? =some x→B[j]? =some y→le x y=true) (h2:∀x y,j≠0→A[i]? =some x→B[j - 1]? =some y→le x y=false) (hi:i≤A.length) (hj:j≤B.length):
  mrg le A B=mrg le (A.take i) (B.take j)++mrg le (A.drop i) (B.drop j):=by
 conv=>lhs;rw [←Bl i A,←Bl j B]
 refine Lw le _ _ _ _ (fun x hx y hy=> ?_) (fun x hx y hy=> ?_)
 ·obtain ⟨p,hp⟩:=Dv hx
  obtain ⟨q,hq⟩:=Dv hy
  have hpl:p<i:=by
   have:=(Aq.1 hp).1
   rw [Ah] at this;omega
  rw [List.getElem?_take_of_lt hpl] at hp
  rw [A5] at hq
  have hql:=(Aq.1 hq).1
  have a1:A[i - 1]? =some A[i - 1]:=Ax (by omega)
  have b1:B[j]? =some B[j]:=Ax (by omega)
  have s1:=L3 ht hA (i:=p) (j:=i - 1) (by omega) hp a1
  have s2:=L3 ht hB (i:=j) (j:=j+q) (by omega) b1 hq
  exact ht.tr _ _ _ s1 (ht.tr _ _ _ (h1 _ _ (by omega) a1 b1) s2)
 ·obtain ⟨p,hp⟩:=Dv hx
  obtain ⟨q,hq⟩:=Dv hy
  rw [A5] at hp
  have hpl:=(Aq.1 hp).1
  have hql:q<j:=by
   have:=(Aq.1 hq).1
   rw [Ah] at this;omega
  rw [List.getElem?_take_of_lt hql] at hq
  have a1:A[i]? =some A[i]:=Ax (by omega)
  have b1:B[j - 1]? =some B[j - 1]:=Ax (by omega)
  have s1:=L3 ht hA (i:=i) (j:=i+p) (by omega) a1 hp
  have s2:=L3 ht hB (i:=q) (j:=j - 1) (by omega) hq b1
  rcases Ak (le x y) with q1|q1
  ·have:=h2 _ _ (by omega) a1 b1
   rw [ht.tr _ _ _ s1 (ht.tr _ _ _ q1 s2)] at this
   cases this
  ·exact q1
end Go.X.G
/- Rows of records that are turned in place: swaps and rotations. -/
namespace Go.X.G
open Go Go.X
def sl {α:Type} (s:List α) (i j:Nat):List α:=(s.take j).drop i
def swapR {α:Type} (s:List α) (a b:Nat):Nat→List α
 |0=>s
 |k+1=>match s[a+k]?,s[b+k]? with
  |some x,some y=>(swapR s a b k|>.set (a+k) y).set (b+k) x
  |_,_=>swapR s a b k
theorem N0 {α:Type} (s:List α) (a b:Nat):∀k,(swapR s a b k).length=s.length
 |0=>rfl
 |k+1=>by
  unfold swapR
  split
  ·simp [N0 s a b k]
  ·exact N0 s a b k
theorem N1 {α:Type} (s:List α) (a b:Nat):∀(k i:Nat),a+k≤b→b+k≤s.length→
  (swapR s a b k)[i]? =if a≤i∧i<a+k then s[i - a+b]? else if b≤i∧i<b+k then s[i - b+a]? else s[i]?
 |0,i,_,_=>by
  unfold swapR
  rw [if_neg (by omega),if_neg (by omega)]
 |k+1,i,h1,h2=>by
  have ih:=N1 s a b k i (by omega) (by omega)
  have hl:=N0 s a b k
  unfold swapR
  have ha:s[a+k]? =some s[a+k]:=Ax (by omega)
  have hb:s[b+k]? =some s[b+k]:=Ax (by omega)
  rw [ha,hb]
  simp only
  rw [C3,C3]
  by_cases e1:b+k=i
  ·subst e1
   rw [if_pos rfl,if_pos (by rw [Jl,hl];omega),if_neg (by omega),if_pos (by omega),show b+k - b+a=a+k by omega,ha]
  ·rw [if_neg e1]
   by_cases e2:a+k=i
   ·subst e2
    rw [if_pos rfl,if_pos (by rw [hl];omega),if_pos (by omega),show a+k - a+b=b+k by omega,hb]
   ·rw [if_neg e2,ih]
    by_cases c1:a≤i∧i<a+k
    ·rw [if_pos c1,if_pos (by omega)]
    ·by_cases c2:b≤i∧i<b+k
     ·rw [if_neg c1,if_pos c2,if_neg (show¬(a≤i∧i<a+(k+1)) by omega),if_pos (show b≤i∧i<b+(k+1) by omega)]
     ·rw [if_neg c1,if_neg c2,if_neg (show¬(a≤i∧i<a+(k+1)) by omega),if_neg (show¬(b≤i∧i<b+(k+1)) by omega)]
end Go.X.G
/- Rotations, in plain words. -/
namespace Go.X.G
open Go Go.X
theorem Bg5 {α:Type} (X A M B Y:List α) (h:A.length=B.length):swapR (X++A++M++B++Y) X.length (X.length+A.length+M.length) A.length=X++B++M++A++Y:=by
 apply List.ext_getElem?
 intro i
 rw [N1 _ _ _ _ _ (by omega) (by simp;omega)]
 simp only [List.getElem?_append,Az]
 repeat' split
 all_goals first
  |(exfalso;omega)
  |rfl
  |(congr 1;omega)
end Go.X.G
/- Rows of records that are turned in place: the library's functions. -/
namespace Go.X.G
open Go Go.X
theorem af (s:List Rec) (a b n:Nat) (g:Nat) (caps:List PV) (h1:a+n≤b) (h2:b+n≤s.length) (hs:s.length≤1000000):S Qb 1048581 [Af s,.i .i64 (a:Int),.i .i64 (b:Int),.i .i64 (n:Int),.f g caps]=some [Af (swapR s a b n)]:=by
 refine Jk3 (N:=n+1) rfl ?_
 have key:Cc2.ev S (n+1) [Af s,.i .i64 (a:Int),.i .i64 (b:Int),.i .i64 (n:Int),.f g caps]=some (.yld 0 [Af (swapR s a b n)]):=by
  refine Er n (fun i=>[.i .i64 (i:Int),Af (swapR s a b i)]) (fun _=> .yld 0 [Af (swapR s a b n)]) (by simp (disch:=omega) only [swapR,EVT,EVM,EVC,xe,EVP,↓reduceIte,EV,Nat.reduceAdd,Nat.reduceEqDiff,Int.reduceToNat,reduceCtorEq]) (by omega) (fun i hi=> ?_) ?_
  ·left
   refine ⟨?_,rfl⟩
   have hl:=N0 s a b i
   have ga:=N1 s a b i (a+i) (by omega) (by omega)
   have gb:=N1 s a b i (b+i) (by omega) (by omega)
   rw [if_neg (by omega),if_neg (by omega)] at ga gb
   have ha:s[a+i]? =some s[a+i]:=Ax (by omega)
   have hb:s[b+i]? =some s[b+i]:=Ax (by omega)
   rw [ha] at ga
   rw [hb] at gb
   have e:swapR s a b (i+1)=((swapR s a b i).set (a+i) s[b+i]).set (b+i) s[a+i]:=by
    conv=>lhs;unfold swapR
    rw [ha,hb]
   rw [e]
   generalize s[a+i]=x at*
   generalize s[b+i]=y at*
   generalize swapR s a b i=t at*
   have ti1:((a:Int)+(i:Int)).toNat=a+i:=by omega
   have ti2:((b:Int)+(i:Int)).toNat=b+i:=by omega
   have g3:(t.set (a+i) y)[b+i]? =some y:=by rw [Bb5 (by omega)];exact gb
   have hlt:(t.set (a+i) y).length=s.length:=by rw [Jl,hl]
   simp (disch:=first|omega|(rw [Jl];omega)) only [Bd0,ti1,ti2,ga,gb,g3,EVT,EVM,EVC,xe,EVP,↓reduceIte,EV,Nat.reduceAdd,Nat.reduceEqDiff,Int.reduceToNat,reduceCtorEq]
  ·refine ⟨?_,rfl⟩
   simp (disch:=omega) only [Bd0,EVT,EVM,EVC,xe,EVP,↓reduceIte,EV,Nat.reduceAdd,Nat.reduceEqDiff,Int.reduceToNat,reduceCtorEq]
 simp (disch:=omega) only [Bd0,key,EVT,EVM,EVC,xe,EVP,↓reduceIte,EV,Nat.reduceAdd,Nat.reduceEqDiff,Int.reduceToNat,reduceCtorEq]
end Go.X.G
/- Rotations: the library's function. -/
namespace Go.X.G
open Go Go.X
theorem Kq (X A M B Y:List Rec) (a b n:Int) (g:Nat) (caps:List PV) (ha:a=X.length) (hb:b=X.length+A.length+M.length) (hn:n=A.length) (h:A.length=B.length) (hs:(X++A++M++B++Y).length≤1000000):S Qb 1048581 [Af (X++A++M++B++Y),.i .i64 a,.i .i64 b,.i .i64 n,.f g caps]=some [Af (X++B++M++A++Y)]:=by
 subst ha;subst hn
 have h1:=af (X++A++M++B++Y) X.length (X.length+A.length+M.length) A.length g caps (by omega) (by simp only [Az];omega) hs
 rw [Bg5 X A M B Y h] at h1
 rw [hb]
 simpa using h1
theorem Bl5 (X A B Y:List Rec) (a m b:Int) (g:Nat) (caps:List PV) (ha:a=X.length) (hm:m=X.length+A.length) (hb:b=X.length+A.length+B.length) (hA:A≠[]) (hB:B≠[]) (hs:(X++A++B++Y).length≤1000000):
  S d4 1048581 [Af (X++A++B++Y),.i .i64 a,.i .i64 m,.i .i64 b,.f g caps]=some [Af (X++B++A++Y)]:=by
 have hA':0<A.length:=By.2 hA
 have hB':0<B.length:=By.2 hB
 have hs2:=hs
 simp only [Az] at hs2
 refine Jq6 (N:=(X++A++B++Y).length+1) rfl ?_
 have key:=G6 (fn:=S) (N:=(X++A++B++Y).length+1) (η:=[Af (X++A++B++Y),.i .i64 a,.i .i64 m,.i .i64 b,.f g caps]) (id:=1) (init:=[.bin .sub (.v 2) (.v 1),.bin .sub (.v 3) (.v 2),.v 0]) (body:=qh) (α:=List Rec×List Rec×List Rec×List Rec)
  (fun x=>[.i .i64 (x.2.1.length:Int),.i .i64 (x.2.2.1.length:Int),Af (x.1++x.2.1++x.2.2.1++x.2.2.2)])
  (fun o=>∃X' A' B' Y':List Rec,o= .yld 0 [.i .i64 (A'.length:Int),Af (X'++A'++B'++Y')]∧A'.length=B'.length∧(X'.length:Int)+A'.length=m∧X'++B'++A'++Y'=X++B++A++Y∧(X'++A'++B'++Y').length≤1000000)
  (fun x=>0<x.2.1.length∧0<x.2.2.1.length∧(x.1.length:Int)+x.2.1.length=m∧x.1++x.2.2.1++x.2.1++x.2.2.2=X++B++A++Y)
  (fun x=>x.2.1.length+x.2.2.1.length) (X,A,B,Y) ?_ ⟨hA',hB',by simp only;omega,rfl⟩ (by simp only [Az];omega) ?_
 ·obtain ⟨o,ho,X',A',B',Y',rfl,e1,e2,e3,e4⟩:=key
  have hsw:=Kq X' A' [] B' Y' (m - A'.length) m A'.length g caps (by omega) (by simp;omega) rfl e1 (by simpa using e4)
  simp only [D7] at hsw
  rw [e3] at hsw
  have ht:Cc7.ev S ((X++A++B++Y).length+1) [Af (X++A++B++Y),.i .i64 a,.i .i64 m,.i .i64 b,.f g caps]=_:=ho
  have hl:(X'++A'++B'++Y').length=(X++B++A++Y).length:=by rw [←e3];simp only [Az];omega
  have hl2:A'.length≤1000000:=by simp only [Az] at e4;omega
  generalize X'++A'++B'++Y'=t at*
  generalize X++A++B++Y=s at*
  generalize X++B++A++Y=u at*
  simp (disch:=omega) only [sk,ht,hsw,D9,K8,EVT,EVM,EVC,xe,EVP,↓reduceIte,EV,Nat.reduceAdd,Nat.reduceEqDiff,Int.reduceToNat,reduceCtorEq]
 ·generalize X++A++B++Y=s at*
  have e1:b - m=(B.length:Int):=by omega
  have e2:m - a=(A.length:Int):=by omega
  simp (disch:=omega) only [e1,e2,EVT,EVM,EVC,xe,EVP,↓reduceIte,EV,Nat.reduceAdd,Nat.reduceEqDiff,Int.reduceToNat,reduceCtorEq]
 ·rintro ⟨X',A',B',Y'⟩ ⟨h1,h2,h3,h4⟩
  simp only at h1 h2 h3 h4
  have hl:(X'++A'++B'++Y').length≤1000000:=by
   have:=congrArg List.length h4
   simp only [Az] at this ⊢;omega
  have hl':=hl
  simp only [Az] at hl'
  by_cases hij:A'.length=B'.length
  ·right
   refine ⟨.yld 0 [.i .i64 (A'.length:Int),Af (X'++A'++B'++Y')],?_,rfl,X',A',B',Y',rfl,hij,h3,h4,hl⟩
   generalize X'++A'++B'++Y'=t at*
   generalize X++A++B++Y=s at*
   have hij':(A'.length:Int)=(B'.length:Int):=by omega
   simp (disch:=omega) only [sk,hij',EVT,EVM,EVC,xe,EVP,↓reduceIte,EV,Nat.reduceAdd,Nat.reduceEqDiff,Int.reduceToNat,reduceCtorEq]
  ·left
   have hij':¬(A'.length:Int)=(B'.length:Int):=by omega
   by_cases hgt:B'.length<A'.length
   ·have hgt':(B'.length:Int)<(A'.length:Int):=by omega
    have eA:A'.take B'.length++A'.drop B'.length=A':=Bl _ _
    have l1:(A'.take B'.length).length=B'.length:=by rw [Ah];omega
    have l2:(A'.drop B'.length).length=A'.length - B'.length:=Bt
    have hsw:=Kq X' (A'.take B'.length) (A'.drop B'.length) B' Y' (m - A'.length) m B'.length g caps (by omega) (by omega) (by omega) (by omega) (by rw [Ap X',eA];exact hl)
    rw [Ap X',eA] at hsw
    refine ⟨(X'++B',A'.drop B'.length,A'.take B'.length,Y'),?_,⟨by simp only;omega,by simp only;omega,by simp only [Az];omega,?_⟩,by simp only;omega⟩
    ·simp only
     rw [l1,l2]
     have e1:((A'.length - B'.length:Nat):Int)=(A'.length:Int) - (B'.length:Int):=by omega
     rw [e1]
     generalize X'++B'++A'.drop B'.length++A'.take B'.length++Y'=u at*
     generalize X'++A'++B'++Y'=t at*
     generalize X++A++B++Y=s at*
     simp (disch:=omega) only [sk,hij',hgt',hsw,D9,K8,EVT,EVM,EVC,xe,EVP,↓reduceIte,EV,Nat.reduceAdd,Nat.reduceEqDiff,Int.reduceToNat,reduceCtorEq]
    ·simp only
     rw [←h4,Ap (X'++B'),eA]
   ·have hgt':¬(B'.length:Int)<(A'.length:Int):=by omega
    have eB:B'.take (B'.length - A'.length)++B'.drop (B'.length - A'.length)=B':=Bl _ _
    have l1:(B'.take (B'.length - A'.length)).length=B'.length - A'.length:=by rw [Ah];omega
    have l2:(B'.drop (B'.length - A'.length)).length=A'.length:=by rw [Bt];omega
    have hsw:=Kq X' A' (B'.take (B'.length - A'.length)) (B'.drop (B'.length - A'.length)) Y' (m - A'.length) (m+B'.length - A'.length) A'.length g caps (by omega) (by omega) (by omega) (by omega) (by rw [Ap (X'++A'),eB];exact hl)
    rw [Ap (X'++A'),eB] at hsw
    have ea:X'++B'.drop (B'.length - A'.length)++B'.take (B'.length - A'.length)++A'++Y'=X'++B'.drop (B'.length - A'.length)++B'.take (B'.length - A'.length)++(A'++Y'):=by simp
    refine ⟨(X',B'.drop (B'.length - A'.length),B'.take (B'.length - A'.length),A'++Y'),?_,⟨by simp only;omega,by simp only;omega,by simp only;omega,?_⟩,by simp only;omega⟩
    ·simp only
     rw [l1,l2,←ea]
     have e1:((B'.length - A'.length:Nat):Int)=(B'.length:Int) - (A'.length:Int):=by omega
     rw [e1]
     generalize X'++B'.drop (B'.length - A'.length)++B'.take (B'.length - A'.length)++A'++Y'=u at*
     generalize X'++A'++B'++Y'=t at*
     generalize X++A++B++Y=s at*
     simp (disch:=omega) only [sk,hij',hgt',hsw,D9,K8,EVT,EVM,EVC,xe,EVP,↓reduceIte,EV,Nat.reduceAdd,Nat.reduceEqDiff,Int.reduceToNat,reduceCtorEq]
    ·simp only
     rw [←h4,Ap X' (B'.take _),eB]
     simp
end Go.X.G
/- Sorting by blocks, in plain words. -/
namespace Go.X.G
open Go Go.X
structure Blk {α:Type} (le:α→α→Bool) (bs:Nat) (r l:List α):Prop where
 len:r.length=l.length
 st:∀k,Stab le ((r.drop (k*bs)).take bs) ((l.drop (k*bs)).take bs)
theorem Rk {α:Type} (le:α→α→Bool):Stab le ([]:List α) []:=⟨.nil,fun _=>rfl⟩
theorem lk {α:Type} (le:α→α→Bool) (x:α):Stab le [x] [x]:=⟨by simp,fun _=>rfl⟩
theorem Blk.nil {α:Type} (le:α→α→Bool) (bs:Nat):Blk le bs ([]:List α) []:=⟨rfl,fun k=>by
 rw [List.drop_nil,List.take_nil];exact Rk le⟩
theorem Blk.one {α:Type} {le:α→α→Bool} {bs:Nat} {r l:List α} (h:Stab le r l) (hl:r.length=l.length) (hb:r.length≤bs):Blk le bs r l:=⟨hl,fun k=>by
 cases k with
 |zero=>
  simp only [Nat.zero_mul,Ds]
  rw [C5 hb,C5 (by omega)];exact h
 |succ k=>
  have:r.length≤(k+1)*bs:=by rw [Nat.succ_mul];omega
  rw [W3 this,W3 (by omega),List.take_nil]
  exact Rk le⟩
theorem iz {α:Type} (X Y:List α) (n m:Nat) (h:n=X.length+m):(X++Y).drop n=Y.drop m:=by
 rw [List.drop_append,W3 (by omega),Cd];congr 1;omega
theorem Blk.app {α:Type} {le:α→α→Bool} {bs q:Nat} {X LX Y LY:List α} (hX:X.length=q*bs) (h1:Blk le bs X LX) (h2:Blk le bs Y LY):Blk le bs (X++Y) (LX++LY):=by
 have hL:=h1.len
 refine ⟨by rw [Az,Az,h1.len,h2.len],fun k=> ?_⟩
 by_cases hk:k<q
 ·have e:(k+1)*bs≤q*bs:=Bz _ hk
  rw [Nat.succ_mul] at e
  rw [Im (by omega),Im (by omega),List.take_append_of_le_length (by rw [Bt];omega),List.take_append_of_le_length (by rw [Bt];omega)]
  exact h1.st k
 ·have e:(k - q)*bs+q*bs=k*bs:=by rw [←B9];congr 1;omega
  rw [iz X Y (k*bs) ((k - q)*bs) (by omega),iz LX LY (k*bs) ((k - q)*bs) (by omega)]
  exact h2.st (k - q)
theorem Blk.all {α:Type} {le:α→α→Bool} {bs:Nat} {r l:List α} (h:Blk le bs r l) (hb:r.length≤bs):Stab le r l:=by
 have:=h.st 0
 have hl:=h.len
 simp only [Nat.zero_mul,Ds] at this
 rwa [C5 hb,C5 (by omega)] at this
theorem Blk.head {α:Type} {le:α→α→Bool} {bs:Nat} {r l:List α} (h:Blk le bs r l):Stab le (r.take bs) (l.take bs):=by simpa using h.st 0
theorem Blk.tail {α:Type} {le:α→α→Bool} {bs:Nat} {r l:List α} (h:Blk le bs r l):Blk le bs (r.drop bs) (l.drop bs):=⟨by simp [h.len],fun k=>by
 rw [C6,C6]
 have:=h.st (k+1)
 rw [Nat.succ_mul,En4] at this
 exact this⟩
theorem Fx1 {α:Type} {le:α→α→Bool} (ht:TP le) {R1 R2 l:List α} {x:α} (h:Stab le (R1++R2) l) (h1:∀y∈R1,le y x=true) (h2:∀y∈R2,le y x=false):Stab le (R1++x::R2) (l++[x]):=by
 obtain ⟨hs,hc⟩:=h
 refine ⟨?_,fun z=> ?_⟩
 ·rw [E5] at hs ⊢
  refine ⟨hs.1,As.2 ⟨fun y hy=>(ht.tot x y).resolve_right (by rw [h2 y hy];simp),hs.2.1⟩,fun a ha b hb=> ?_⟩
  rcases Al.1 hb with rfl|hb
  ·exact h1 a ha
  ·exact hs.2.2 a ha b hb
 ·have:=hc z
  rw [E8] at this
  rw [E8,E8,←this,H5]
  by_cases hz:eqv le z x=true
  ·have hno:R2.filter (eqv le z)=[]:=by
    rw [Ez]
    intro w hw hzw
    unfold eqv at hz hzw
    simp only [Av] at hz hzw
    have:=ht.tr _ _ _ hzw.2 hz.1
    rw [h2 w hw] at this
    cases this
   rw [hno,if_pos hz];simp [hz]
  ·rw [if_neg hz];simp [hz]
theorem lv {α:Type} {le:α→α→Bool} (ht:TP le) {R:List α} {w x:α} (h:(R++[w]).Pairwise fun a b=>le a b=true) (hx:le w x=true):∀y∈R++[w],le y x=true:=by
 intro y hy
 rcases Br.1 hy with hy|hy
 ·exact ht.tr _ _ _ ((E5.1 h).2.2 y hy w (by simp)) hx
 ·have:y=w:=by simpa using hy
  rw [this];exact hx
theorem S6 {α:Type} (le:α→α→Bool):∀(a b:List α),(mrg le a b).length=a.length+b.length
 |[],b=>by simp [mrg]
 |x::a,[]=>by simp [mrg]
 |x::a,y::b=>by
  unfold mrg
  split
  ·simp only [A0,S6 le a (y::b)];omega
  ·simp only [A0,S6 le (x::a) b];omega
termination_by a b=>a.length+b.length
end Go.X.G
/- Merging in place: the library's function. -/
namespace Go.X.G
open Go Go.X
theorem Ef (x:Int):bin .shr (.i .u64 x) (.i .u64 1)=some (.i .u64 (x / 2)):=by
 simp only [bin,O2]
 rw [if_neg (by decide)]
 have:(2:Int) ^ min (1:Int).toNat IntKind.u64.bits=2:=by decide
 rw [this,Int.fdiv_eq_ediv_of_nonneg _ (by decide)]
theorem Hm8 {α:Type} (P Q:List α) (x y:α):((P++x::y::Q).set P.length y).set (P.length+1) x=P++y::x::Q:=by
 rw [jr _ _ (Ac _),En3,List.set_cons_zero,jr _ _ (by omega),show P.length+1 - P.length=1 by omega]
 rfl
theorem gz {α:Type} (P Q:List α) (x:α):(P++x::Q)[P.length]? =some x:=by simp
theorem nj {α:Type} (P Q:List α) (x y:α):(P++x::y::Q)[P.length+1]? =some y:=by simp
structure Cmp (g:Nat) (caps:List PV) (c:Rec→Rec→Int) (P:Rec→Prop):Prop where
 ok:∀x y,P x→P y→S g 2 (x.pv::y.pv::caps)=some [.i .i64 (c x y)]
def leC (c:Rec→Rec→Int) (x y:Rec):Bool:= !decide (c y x<0)
theorem Ff0 {c:Rec→Rec→Int} {x y:Rec}:leC c x y=true↔¬c y x<0:=by simp [leC]
theorem Ff1 {c:Rec→Rec→Int} {x y:Rec}:leC c x y=false↔c y x<0:=by simp [leC]
section
variable {g:Nat} {caps:List PV} {c:Rec→Rec→Int} {P:Rec→Prop}
theorem Kg5 (h:Cmp g caps c P) (X B Y:List Rec) (x:Rec) (s:List Rec) (hsd:s=X++x::(B++Y)) (a m b:Int) (ha:a=X.length) (hm:m=a+1) (hb:b=m+B.length) (hs:s.length≤1000000) (hP:∀y∈s,P y) (N:Nat) (hN:B.length<N):
  ∃p:Nat,Cd0.ev S N [Af s,.i .i64 a,.i .i64 m,.i .i64 b,.f g caps]=some (.yld 0 [.i .i64 (m+p)])∧p≤B.length∧(∀y,p≠0→B[p - 1]? =some y→c y x<0)∧∀y,B[p]? =some y→¬c y x<0:=by
 have hl:s.length=X.length+1+B.length+Y.length:=by rw [hsd];simp;omega
 have hx:s[X.length]? =some x:=by rw [hsd];exact gz _ _ _
 have hB:∀k y,B[k]? =some y→s[X.length+1+k]? =some y:=fun k y hk=>by
  have:=(Aq.1 hk).1
  rw [hsd,A6 (by omega),show X.length+1+k - X.length=k+1 by omega,C2,A9 this,hk]
 have hPx:P x:=hP x (by rw [hsd];simp)
 have key:=G6 (fn:=S) (N:=N) (η:=[Af s,.i .i64 a,.i .i64 m,.i .i64 b,.f g caps]) (id:=1) (init:=[.v 2,.v 3]) (body:=ql) (α:=Nat×Nat)
  (fun w=>[.i .i64 (m+w.1),.i .i64 (m+w.2)])
  (fun o=>∃p:Nat,o= .yld 0 [.i .i64 (m+p)]∧p≤B.length∧(∀y,p≠0→B[p - 1]? =some y→c y x<0)∧∀y,B[p]? =some y→¬c y x<0)
  (fun w=>w.1≤w.2∧w.2≤B.length∧(∀y,w.1≠0→B[w.1 - 1]? =some y→c y x<0)∧∀y,B[w.2]? =some y→¬c y x<0)
  (fun w=>w.2 - w.1) (0,B.length) ?_ ?_ (by simp only;omega) ?_
 ·obtain ⟨o,h1,p,rfl,h2⟩:=key
  exact ⟨p,h1,h2⟩
 ·subst hb
  simp (disch:=omega) only [EVT,EVM,EVC,xe,EVP,↓reduceIte,EV,Nat.reduceAdd,Nat.reduceEqDiff,Int.reduceToNat,reduceCtorEq]
  simp
 ·refine ⟨by simp,by simp,fun y h0=>absurd rfl h0,fun y hy=> ?_⟩
  simp at hy
 ·rintro ⟨p,q⟩ ⟨h1,h2,h3,h4⟩
  simp only at h1 h2 h3 h4
  by_cases hpq:p<q
  ·left
   have hk:(p+q) / 2<B.length:=by omega
   have hy:=Ax hk
   generalize B[(p+q) / 2]=y at hy
   have hsy:=hB _ y hy
   have hPy:P y:=hP y (Ar hsy)
   have hc:=h.ok y x hPy hPx
   have hlt:m+(p:Int)<m+(q:Int):=by omega
   have e1:(m+(p:Int)+(m+(q:Int))) / 2=m+(((p+q) / 2:Nat):Int):=by omega
   have e2:(m+(((p+q) / 2:Nat):Int)).toNat=X.length+1+(p+q) / 2:=by omega
   have e3:a.toNat=X.length:=by omega
   by_cases hcy:c y x<0
   ·refine ⟨((p+q) / 2+1,q),?_,⟨by simp only;omega,h2,fun z _ hz=> ?_,h4⟩,by simp only;omega⟩
    ·have e4:m+(((p+q) / 2+1:Nat):Int)=m+(((p+q) / 2:Nat):Int)+1:=by omega
     simp only [e4]
     generalize (p+q) / 2=k at*
     simp (disch:=omega) only [E9,hlt,Ef,e1,e2,e3,hsy,hx,hc,hcy,EVT,EVM,EVC,xe,EVP,↓reduceIte,EV,Nat.reduceAdd,Nat.reduceEqDiff,Int.reduceToNat,reduceCtorEq]
    ·simp only [W2] at hz
     rw [hy] at hz;injection hz with hz;subst hz;exact hcy
   ·refine ⟨(p,(p+q) / 2),?_,⟨by simp only;omega,by simp only;omega,h3,fun z hz=> ?_⟩,by simp only;omega⟩
    ·simp only
     generalize (p+q) / 2=k at*
     simp (disch:=omega) only [E9,hlt,Ef,e1,e2,e3,hsy,hx,hc,hcy,EVT,EVM,EVC,xe,EVP,↓reduceIte,EV,Nat.reduceAdd,Nat.reduceEqDiff,Int.reduceToNat,reduceCtorEq]
    ·simp only at hz
     rw [hy] at hz;injection hz with hz;subst hz;exact hcy
  ·right
   have e:p=q:=by omega
   subst e
   have hlt:¬m+(p:Int)<m+(p:Int):=by omega
   refine ⟨.yld 0 [.i .i64 (m+p)],?_,rfl,p,rfl,h2,h3,h4⟩
   simp (disch:=omega) only [E9,hlt,EVT,EVM,EVC,xe,EVP,↓reduceIte,EV,Nat.reduceAdd,Nat.reduceEqDiff,Int.reduceToNat,reduceCtorEq]
theorem Kg7 (L L':List Rec) (i:Nat) (x y:Rec) (g0:L[i]? =some x) (g1:L[i+1]? =some y) (sw:(L.set i y).set (i+1) x=L') (k e:Int) (hk:k=i) (he:k<e - 1) (he2:e≤1000000) (hL:L.length≤1000000) (w0 w1 w2 w3 w4:PV) (N:Nat):
  Zb.ev S N [w0,w1,w2,w3,w4,.i .i64 e,.i .i64 k,Af L]=some (.yld 1 [.i .i64 (k+1),Af L']):=by
 have hi:=(Aq.1 g1).1
 have ti0:k.toNat=i:=by omega
 have ti1:(k+1).toNat=i+1:=by omega
 have g2:(L.set i y)[i+1]? =some y:=by rw [Bb5 (by omega)];exact g1
 simp (disch:=first|omega|(rw [Jl];omega)) only [E9,he,ti0,ti1,g0,g1,g2,sw,EVT,EVM,EVC,xe,EVP,↓reduceIte,EV,Nat.reduceAdd,Nat.reduceEqDiff,Int.reduceToNat,reduceCtorEq]
theorem Kg6 (L L':List Rec) (i:Nat) (x y:Rec) (g0:L[i]? =some x) (g1:L[i+1]? =some y) (sw:(L.set (i+1) x).set i y=L') (k e:Int) (hk:k=i+1) (he:e<k) (he2:0≤e) (hL:L.length≤1000000) (w0 w1 w2 w3 w4:PV) (N:Nat):
  Zz.ev S N [w0,w1,w2,w3,w4,.i .i64 e,.i .i64 k,Af L]=some (.yld 1 [.i .i64 (k - 1),Af L']):=by
 have hi:=(Aq.1 g1).1
 have ti0:(k - 1).toNat=i:=by omega
 have ti1:k.toNat=i+1:=by omega
 have g2:(L.set (i+1) x)[i]? =some x:=by rw [Bb5 (by omega)];exact g0
 simp (disch:=first|omega|(rw [Jl];omega)) only [E9,he,ti0,ti1,g0,g1,g2,sw,EVT,EVM,EVC,xe,EVP,↓reduceIte,EV,Nat.reduceAdd,Nat.reduceEqDiff,Int.reduceToNat,reduceCtorEq]
theorem Kg4 (X B Y:List Rec) (x:Rec) (s:List Rec) (hsd:s=X++x::(B++Y)) (a m b:Int) (w:PV) (p:Nat) (ha:a=X.length) (hm:m=a+1) (hp:p≤B.length) (hs:s.length≤1000000) (N:Nat) (hN:B.length<N) (w1 w2 w3:PV):
  Cb6.ev S N [Af s,.i .i64 a,w1,w2,w3,.i .i64 (m+p)]=some (.yld 0 [Af (X++(B.take p++x::B.drop p)++Y)]):=by
 have hl:s.length=X.length+1+B.length+Y.length:=by rw [hsd];simp;omega
 refine Er p (fun t=>[.i .i64 (a+t),Af ((X++B.take t)++x::(B.drop t++Y))]) (fun _=> .yld 0 [Af (X++(B.take p++x::B.drop p)++Y)]) ?_ (by omega) (fun t ht=> ?_) ?_
 ·simp (disch:=omega) only [EVT,EVM,EVC,xe,EVP,↓reduceIte,EV,Nat.reduceAdd,Nat.reduceEqDiff,Int.reduceToNat,reduceCtorEq]
  rw [hsd];simp
 ·left
  refine ⟨?_,rfl⟩
  have hlt:t<B.length:=by omega
  have hy:=Ax hlt
  have hd:B.drop t=B[t]::B.drop (t+1):=B0 hlt
  have htk:B.take (t+1)=B.take t++[B[t]]:=by rw [B7,hy];rfl
  have e0:X++B.take (t+1)++x::(B.drop (t+1)++Y)=X++B.take t++B[t]::x::(B.drop (t+1)++Y):=by rw [htk];simp only [Ap,B3,Cd]
  show Zb.ev S N ([Af s,.i .i64 a,w1,w2,w3,.i .i64 (m+p)]++[.i .i64 (a+t),Af ((X++B.take t)++x::(B.drop t++Y))])=some (.yld 1 [.i .i64 (a+((t+1:Nat):Int)),Af ((X++B.take (t+1))++x::(B.drop (t+1)++Y))])
  rw [e0,hd,B3]
  generalize B[t]=y at*
  have lP:(X++B.take t).length=X.length+t:=by rw [Az,Ah];omega
  have sw:=Hm8 (X++B.take t) (B.drop (t+1)++Y) x y
  have g0:=gz (X++B.take t) (y::(B.drop (t+1)++Y)) x
  have g1:=nj (X++B.take t) (B.drop (t+1)++Y) x y
  have lL:(X++B.take t++x::y::(B.drop (t+1)++Y)).length=s.length:=by
   rw [hl];simp only [Az,A0,Ah,Bt];omega
  rw [lP] at sw g0 g1
  have e5:a+((t+1:Nat):Int)=a+(t:Int)+1:=by omega
  rw [e5]
  exact Kg7 _ _ (X.length+t) x y g0 g1 sw (a+t) (m+p) (by omega) (by omega) (by omega) (by omega) _ _ _ _ _ N
 ·refine ⟨?_,rfl⟩
  have hlt2:¬a+(p:Int)<m+(p:Int) - 1:=by omega
  have e0:X++B.take p++x::(B.drop p++Y)=X++(B.take p++x::B.drop p)++Y:=by simp
  rw [e0]
  simp (disch:=omega) only [E9,hlt2,EVT,EVM,EVC,xe,EVP,↓reduceIte,EV,Nat.reduceAdd,Nat.reduceEqDiff,Int.reduceToNat,reduceCtorEq]
theorem Kg3 (h:Cmp g caps c P) (X A Y:List Rec) (x:Rec) (s:List Rec) (hsd:s=X++(A++x::Y)) (a m:Int) (w:PV) (ha:a=X.length) (hm:m=a+A.length) (hs:s.length≤1000000) (hP:∀y∈s,P y) (N:Nat) (hN:A.length<N):
  ∃p:Nat,Cz9.ev S N [Af s,.i .i64 a,.i .i64 m,w,.f g caps]=some (.yld 0 [.i .i64 (a+p)])∧p≤A.length∧(∀y,p≠0→A[p - 1]? =some y→¬c x y<0)∧∀y,A[p]? =some y→c x y<0:=by
 have hl:s.length=X.length+A.length+1+Y.length:=by rw [hsd];simp;omega
 have hx:s[X.length+A.length]? =some x:=by rw [hsd,←Ap,←Az];exact gz _ _ _
 have hA:∀k y,A[k]? =some y→s[X.length+k]? =some y:=fun k y hk=>by
  have:=(Aq.1 hk).1
  rw [hsd,A6 (by omega),show X.length+k - X.length=k by omega,A9 this,hk]
 have hPx:P x:=hP x (by rw [hsd];simp)
 have key:=G6 (fn:=S) (N:=N) (η:=[Af s,.i .i64 a,.i .i64 m,w,.f g caps]) (id:=1) (init:=[.v 1,.v 2]) (body:=qz) (α:=Nat×Nat)
  (fun w=>[.i .i64 (a+w.1),.i .i64 (a+w.2)])
  (fun o=>∃p:Nat,o= .yld 0 [.i .i64 (a+p)]∧p≤A.length∧(∀y,p≠0→A[p - 1]? =some y→¬c x y<0)∧∀y,A[p]? =some y→c x y<0)
  (fun w=>w.1≤w.2∧w.2≤A.length∧(∀y,w.1≠0→A[w.1 - 1]? =some y→¬c x y<0)∧∀y,A[w.2]? =some y→c x y<0)
  (fun w=>w.2 - w.1) (0,A.length) ?_ ?_ (by simp only;omega) ?_
 ·obtain ⟨o,h1,p,rfl,h2⟩:=key
  exact ⟨p,h1,h2⟩
 ·subst hm
  simp (disch:=omega) only [EVT,EVM,EVC,xe,EVP,↓reduceIte,EV,Nat.reduceAdd,Nat.reduceEqDiff,Int.reduceToNat,reduceCtorEq]
  simp
 ·refine ⟨by simp,by simp,fun y h0=>absurd rfl h0,fun y hy=> ?_⟩
  simp at hy
 ·rintro ⟨p,q⟩ ⟨h1,h2,h3,h4⟩
  simp only at h1 h2 h3 h4
  by_cases hpq:p<q
  ·left
   have hk:(p+q) / 2<A.length:=by omega
   have hy:=Ax hk
   generalize A[(p+q) / 2]=y at hy
   have hsy:=hA _ y hy
   have hPy:P y:=hP y (Ar hsy)
   have hc:=h.ok x y hPx hPy
   have hlt:a+(p:Int)<a+(q:Int):=by omega
   have e1:(a+(p:Int)+(a+(q:Int))) / 2=a+(((p+q) / 2:Nat):Int):=by omega
   have e2:(a+(((p+q) / 2:Nat):Int)).toNat=X.length+(p+q) / 2:=by omega
   have e3:m.toNat=X.length+A.length:=by omega
   by_cases hcy:c x y<0
   ·refine ⟨(p,(p+q) / 2),?_,⟨by simp only;omega,by simp only;omega,h3,fun z hz=> ?_⟩,by simp only;omega⟩
    ·simp only
     generalize (p+q) / 2=k at*
     simp (disch:=omega) only [E9,hlt,Ef,e1,e2,e3,hsy,hx,hc,hcy,EVT,EVM,EVC,xe,EVP,↓reduceIte,EV,Nat.reduceAdd,Nat.reduceEqDiff,Int.reduceToNat,reduceCtorEq]
    ·simp only at hz
     rw [hy] at hz;injection hz with hz;subst hz;exact hcy
   ·refine ⟨((p+q) / 2+1,q),?_,⟨by simp only;omega,h2,fun z _ hz=> ?_,h4⟩,by simp only;omega⟩
    ·have e4:a+(((p+q) / 2+1:Nat):Int)=a+(((p+q) / 2:Nat):Int)+1:=by omega
     simp only [e4]
     generalize (p+q) / 2=k at*
     simp (disch:=omega) only [E9,hlt,Ef,e1,e2,e3,hsy,hx,hc,hcy,EVT,EVM,EVC,xe,EVP,↓reduceIte,EV,Nat.reduceAdd,Nat.reduceEqDiff,Int.reduceToNat,reduceCtorEq]
    ·simp only [W2] at hz
     rw [hy] at hz;injection hz with hz;subst hz;exact hcy
  ·right
   have e:p=q:=by omega
   subst e
   have hlt:¬a+(p:Int)<a+(p:Int):=by omega
   refine ⟨.yld 0 [.i .i64 (a+p)],?_,rfl,p,rfl,h2,h3,h4⟩
   simp (disch:=omega) only [E9,hlt,EVT,EVM,EVC,xe,EVP,↓reduceIte,EV,Nat.reduceAdd,Nat.reduceEqDiff,Int.reduceToNat,reduceCtorEq]
theorem Kg2 (X A Y:List Rec) (x:Rec) (s:List Rec) (hsd:s=X++(A++x::Y)) (a m:Int) (p:Nat) (ha:a=X.length) (hm:m=a+A.length) (hp:p≤A.length) (hs:s.length≤1000000) (N:Nat) (hN:A.length<N) (w1 w2 w3:PV):
  Cz8.ev S N [Af s,w1,.i .i64 m,w2,w3,.i .i64 (a+p)]=some (.yld 0 [Af (X++(A.take p++x::A.drop p)++Y)]):=by
 have hl:s.length=X.length+A.length+1+Y.length:=by rw [hsd];simp;omega
 refine Er (A.length - p) (fun t=>[.i .i64 (m - t),Af ((X++A.take (A.length - t))++x::(A.drop (A.length - t)++Y))]) (fun _=> .yld 0 [Af (X++(A.take p++x::A.drop p)++Y)]) ?_ (by omega) (fun t ht=> ?_) ?_
 ·simp (disch:=omega) only [EVT,EVM,EVC,xe,EVP,↓reduceIte,EV,Nat.reduceAdd,Nat.reduceEqDiff,Int.reduceToNat,reduceCtorEq]
  rw [hsd];simp
 ·left
  refine ⟨?_,rfl⟩
  obtain ⟨u,hu⟩:∃u,A.length - t=u+1:=⟨A.length - t - 1,by omega⟩
  have hlt:u<A.length:=by omega
  have hy:=Ax hlt
  have hd:A.drop u=A[u]::A.drop (u+1):=B0 hlt
  have htk:A.take (u+1)=A.take u++[A[u]]:=by rw [B7,hy];rfl
  have e1:A.length - (t+1)=u:=by omega
  have e0:X++A.take (u+1)++x::(A.drop (u+1)++Y)=X++A.take u++A[u]::x::(A.drop (u+1)++Y):=by rw [htk];simp only [Ap,B3,Cd]
  show Zz.ev S N ([Af s,w1,.i .i64 m,w2,w3,.i .i64 (a+p)]++[.i .i64 (m - t),Af ((X++A.take (A.length - t))++x::(A.drop (A.length - t)++Y))])=some (.yld 1 [.i .i64 (m - ((t+1:Nat):Int)),Af ((X++A.take (A.length - (t+1)))++x::(A.drop (A.length - (t+1))++Y))])
  rw [hu,e1,e0,hd,B3]
  generalize A[u]=y at*
  have lP:(X++A.take u).length=X.length+u:=by rw [Az,Ah];omega
  have sw0:((X++A.take u++y::x::(A.drop (u+1)++Y)).set (X.length+u+1) y).set (X.length+u) x=X++A.take u++x::y::(A.drop (u+1)++Y):=by
   rw [←lP,List.set_comm _ _ (by omega)]
   exact Hm8 (X++A.take u) (A.drop (u+1)++Y) y x
  have g0:=gz (X++A.take u) (x::(A.drop (u+1)++Y)) y
  have g1:=nj (X++A.take u) (A.drop (u+1)++Y) y x
  have lL:(X++A.take u++y::x::(A.drop (u+1)++Y)).length=s.length:=by
   rw [hl];simp only [Az,A0,Ah,Bt];omega
  rw [lP] at g0 g1
  have e5:m - ((t+1:Nat):Int)=m - (t:Int) - 1:=by omega
  rw [e5]
  exact Kg6 _ _ (X.length+u) y x g0 g1 sw0 (m - t) (a+p) (by omega) (by omega) (by omega) (by omega) _ _ _ _ _ N
 ·refine ⟨?_,rfl⟩
  have hlt2:¬a+(p:Int)<m - ((A.length - p:Nat):Int):=by omega
  have e1:A.length - (A.length - p)=p:=by omega
  have e0:X++A.take p++x::(A.drop p++Y)=X++(A.take p++x::A.drop p)++Y:=by simp
  rw [e1,e0]
  simp (disch:=omega) only [E9,hlt2,EVT,EVM,EVC,xe,EVP,↓reduceIte,EV,Nat.reduceAdd,Nat.reduceEqDiff,Int.reduceToNat,reduceCtorEq]
end
end Go.X.G
/- Merging in place: the library's function, the M6. -/
namespace Go.X.G
open Go Go.X
section
variable {g:Nat} {caps:List PV} {c:Rec→Rec→Int} {P:Rec→Prop}
theorem Kg1 (hC:Cmp g caps c P) (X A B Y:List Rec) (s:List Rec) (hsd:s=X++(A++(B++Y))) (a m b mid:Int) (h i0 j0:Nat) (ha:a=X.length) (hm:m=a+A.length) (hb:b=m+B.length) (hM:(a+b) / 2=mid) (hmid:mid=a+h)
  (h1:i0≤j0) (h2:j0≤A.length) (h3:j0≤h) (h4:h≤i0+B.length) (hs:s.length≤1000000) (hP:∀y∈s,P y) (N:Nat) (hN:A.length<N):
  ∃i:Nat,Cz7.ev S N [Af s,.i .i64 a,.i .i64 m,.i .i64 b,.f g caps,.i .i64 (a+i0),.i .i64 (a+j0)]=some (.yld 0 [.i .i64 (a+i)])∧i0≤i∧i≤j0∧
   (∀x y,i≠i0→A[i - 1]? =some x→B[h - i]? =some y→¬c y x<0)∧∀x y,i≠j0→A[i]? =some x→B[h - 1 - i]? =some y→c y x<0:=by
 have hl:s.length=X.length+A.length+B.length+Y.length:=by rw [hsd];simp;omega
 have hA:∀k y,A[k]? =some y→s[X.length+k]? =some y:=fun k y hk=>by
  have:=(Aq.1 hk).1
  rw [hsd,A6 (by omega),show X.length+k - X.length=k by omega,A9 this,hk]
 have hB:∀k y,B[k]? =some y→s[X.length+A.length+k]? =some y:=fun k y hk=>by
  have:=(Aq.1 hk).1
  rw [hsd,A6 (by omega),A6 (by omega),show X.length+A.length+k - X.length - A.length=k by omega,A9 this,hk]
 have key:=G6 (fn:=S) (N:=N) (η:=[Af s,.i .i64 a,.i .i64 m,.i .i64 b,.f g caps,.i .i64 (a+i0),.i .i64 (a+j0)]) (id:=1) (init:=[.v 5,.v 6]) (body:=qv) (α:=Nat×Nat)
  (fun w=>[.i .i64 (a+w.1),.i .i64 (a+w.2)])
  (fun o=>∃i:Nat,o= .yld 0 [.i .i64 (a+i)]∧i0≤i∧i≤j0∧(∀x y,i≠i0→A[i - 1]? =some x→B[h - i]? =some y→¬c y x<0)∧∀x y,i≠j0→A[i]? =some x→B[h - 1 - i]? =some y→c y x<0)
  (fun w=>w.1≤w.2∧i0≤w.1∧w.2≤j0∧(∀x y,w.1≠i0→A[w.1 - 1]? =some x→B[h - w.1]? =some y→¬c y x<0)∧∀x y,w.2≠j0→A[w.2]? =some x→B[h - 1 - w.2]? =some y→c y x<0)
  (fun w=>w.2 - w.1) (i0,j0) ?_ ?_ (by simp only;omega) ?_
 ·obtain ⟨o,h1,p,rfl,h2⟩:=key
  exact ⟨p,h1,h2⟩
 ·simp (disch:=omega) only [EVT,EVM,EVC,xe,EVP,↓reduceIte,EV,Nat.reduceAdd,Nat.reduceEqDiff,Int.reduceToNat,reduceCtorEq]
 ·exact ⟨h1,Ac _,Ac _,fun x y h0=>absurd rfl h0,fun x y h0=>absurd rfl h0⟩
 ·rintro ⟨p,q⟩ ⟨g1,g2,g3,g4,g5⟩
  simp only at g1 g2 g3 g4 g5
  by_cases hpq:p<q
  ·left
   have hk:(p+q) / 2<A.length:=by omega
   have hx:=Ax hk
   have hk2:h - 1 - (p+q) / 2<B.length:=by omega
   have hy:=Ax hk2
   generalize A[(p+q) / 2]=x at hx
   generalize B[h - 1 - (p+q) / 2]=y at hy
   have hsx:=hA _ x hx
   have hsy:=hB _ y hy
   have hPx:P x:=hP x (Ar hsx)
   have hPy:P y:=hP y (Ar hsy)
   have hc:=hC.ok y x hPy hPx
   have hlt:a+(p:Int)<a+(q:Int):=by omega
   have e1:(a+(p:Int)+(a+(q:Int))) / 2=a+(((p+q) / 2:Nat):Int):=by omega
   have e2:(a+(((p+q) / 2:Nat):Int)).toNat=X.length+(p+q) / 2:=by omega
   have e3:(mid+m - 1 - (a+(((p+q) / 2:Nat):Int))).toNat=X.length+A.length+(h - 1 - (p+q) / 2):=by omega
   have hkh:(p+q) / 2<h:=by omega
   by_cases hcy:c y x<0
   ·refine ⟨(p,(p+q) / 2),?_,⟨by simp only;omega,g2,by simp only;omega,g4,fun u v _ hu hv=> ?_⟩,by simp only;omega⟩
    ·simp only
     generalize (p+q) / 2=k at*
     simp (disch:=omega) only [E9,hlt,Ef,hM,e1,e2,e3,hsy,hsx,hc,hcy,EVT,EVM,EVC,xe,EVP,↓reduceIte,EV,Nat.reduceAdd,Nat.reduceEqDiff,Int.reduceToNat,reduceCtorEq]
    ·simp only at hu hv
     rw [hx] at hu;injection hu with hu;subst hu
     rw [hy] at hv;injection hv with hv;subst hv
     exact hcy
   ·refine ⟨((p+q) / 2+1,q),?_,⟨by simp only;omega,by simp only;omega,g3,fun u v _ hu hv=> ?_,g5⟩,by simp only;omega⟩
    ·have e4:a+(((p+q) / 2+1:Nat):Int)=a+(((p+q) / 2:Nat):Int)+1:=by omega
     simp only [e4]
     generalize (p+q) / 2=k at*
     simp (disch:=omega) only [E9,hlt,Ef,hM,e1,e2,e3,hsy,hsx,hc,hcy,EVT,EVM,EVC,xe,EVP,↓reduceIte,EV,Nat.reduceAdd,Nat.reduceEqDiff,Int.reduceToNat,reduceCtorEq]
    ·simp only [W2] at hu hv
     rw [show h - ((p+q) / 2+1)=h - 1 - (p+q) / 2 by omega] at hv
     rw [hx] at hu;injection hu with hu;subst hu
     rw [hy] at hv;injection hv with hv;subst hv
     exact hcy
  ·right
   have e:p=q:=by omega
   subst e
   have hlt:¬a+(p:Int)<a+(p:Int):=by omega
   refine ⟨.yld 0 [.i .i64 (a+p)],?_,rfl,p,rfl,g2,g3,g4,g5⟩
   simp (disch:=omega) only [E9,hlt,EVT,EVM,EVC,xe,EVP,↓reduceIte,EV,Nat.reduceAdd,Nat.reduceEqDiff,Int.reduceToNat,reduceCtorEq]
theorem Ht1 {le:Rec→Rec→Bool} (ht:TP le) {B:List Rec} (hB:B.Pairwise fun x y=>le x y=true) (x:Rec) (p:Nat) (hp:p≤B.length) (h1:∀y,p≠0→B[p - 1]? =some y→le x y=false) (h2:∀y,B[p]? =some y→le x y=true):mrg le [x] B=B.take p++x::B.drop p:=by
 have e1:=S7 ht (A:=[x]) (B:=B) (by simp) hB 0 p (fun u v h=>absurd rfl h) (fun u v h0 hu hv=>by
  simp at hu;subst hu;exact h1 v h0 hv) (by simp) hp
 have e2:=S7 ht (A:=[x]) (B:=B.drop p) (by simp) (hB.sublist (List.drop_sublist p B)) 1 0 (fun u v _ hu hv=>by
  simp at hu;subst hu
  rw [A5] at hv
  exact h2 v hv) (fun u v h=>absurd rfl h) (by simp) (by simp)
 rw [e1]
 simp only [List.take_zero,Ds,List.take_succ_cons,List.drop_succ_cons,Lx] at e2 ⊢
 rw [e2]
 simp [mrg]
theorem Ht0 {le:Rec→Rec→Bool} (ht:TP le) {A:List Rec} (hA:A.Pairwise fun x y=>le x y=true) (x:Rec) (p:Nat) (hp:p≤A.length) (h1:∀y,p≠0→A[p - 1]? =some y→le y x=true) (h2:∀y,A[p]? =some y→le y x=false):mrg le A [x]=A.take p++x::A.drop p:=by
 have e1:=S7 ht (A:=A) (B:=[x]) hA (by simp) p 0 (fun u v h0 hu hv=>by
  simp at hv;subst hv;exact h1 u h0 hu) (fun u v h=>absurd rfl h) hp (by simp)
 have e2:=S7 ht (A:=A.drop p) (B:=[x]) (hA.sublist (List.drop_sublist p A)) (by simp) 0 1 (fun u v h=>absurd rfl h) (fun u v _ hu hv=>by
  simp at hv;subst hv
  rw [A5] at hu
  exact h2 u hu) (by simp) (by simp)
 rw [e1]
 simp only [List.take_zero,Ds,List.take_succ_cons,List.drop_succ_cons,Lx] at e2 ⊢
 rw [e2]
 simp [mrg]
set_option maxHeartbeats 2000000 in
theorem Kk (hC:Cmp g caps c P) (ht:TP (leC c)):∀(n:Nat) (X A B Y:List Rec) (a m b:Int),A.length+B.length≤n→A≠[]→B≠[]→(A.Pairwise fun x y=>leC c x y=true)→(B.Pairwise fun x y=>leC c x y=true)→
  a=X.length→m=a+A.length→b=m+B.length→(X++A++B++Y).length≤1000000→(∀y∈X++A++B++Y,P y)→
  S Qc 1048581 [Af (X++A++B++Y),.i .i64 a,.i .i64 m,.i .i64 b,.f g caps]=some [Af (X++mrg (leC c) A B++Y)]
 |0,X,A,B,Y,a,m,b,hn,hA,_,_,_,_,_,_,_,_=>absurd (Bq (by omega)) hA
 |n+1,X,A,B,Y,a,m,b,hn,hA,hB,sA,sB,ha,hm,hb,hs,hP=>by
  have hA':0<A.length:=By.2 hA
  have hB':0<B.length:=By.2 hB
  have hs2:=hs
  simp only [Az] at hs2
  obtain ⟨N,hN⟩:∃N,N=A.length+B.length+1:=⟨_,rfl⟩
  refine Jv6 (N:=N) rfl ?_
  by_cases c1:A.length=1
  ·-- one ahead
   obtain ⟨x,rfl⟩:=List.length_eq_one_iff.1 c1
   have hsd:X++[x]++B++Y=X++x::(B++Y):=by simp
   obtain ⟨p,k1,k2,k3,k4⟩:=Kg5 hC X B Y x (X++[x]++B++Y) hsd a m b ha (by simpa using hm) hb hs hP N (by omega)
   have k5:=Kg4 X B Y x (X++[x]++B++Y) hsd a m b .u p ha (by simpa using hm) k2 hs N (by omega) (.i .i64 m) (.i .i64 b) (.f g caps)
   have e:=Ht1 ht sB x p k2 (fun y h0 hy=>Ff1.2 (k3 y h0 hy)) (fun y hy=>Ff0.2 (k4 y hy))
   rw [e]
   have q1:m - a=1:=by simp at hm;omega
   generalize X++[x]++B++Y=s at*
   generalize X++(List.take p B++x::List.drop p B)++Y=u at*
   simp (disch:=omega) only [E9,q1,k1,k5,EVT,EVM,EVC,xe,EVP,↓reduceIte,EV,Nat.reduceAdd,Nat.reduceEqDiff,Int.reduceToNat,reduceCtorEq]
  ·by_cases c2:B.length=1
   ·obtain ⟨x,rfl⟩:=List.length_eq_one_iff.1 c2
    have hsd:X++A++[x]++Y=X++(A++x::Y):=by simp
    obtain ⟨p,k1,k2,k3,k4⟩:=Kg3 hC X A Y x (X++A++[x]++Y) hsd a m (.i .i64 b) ha hm hs hP N (by omega)
    have k5:=Kg2 X A Y x (X++A++[x]++Y) hsd a m p ha hm k2 hs N (by omega) (.i .i64 a) (.i .i64 b) (.f g caps)
    have e:=Ht0 ht sA x p k2 (fun y h0 hy=>Ff0.2 (k3 y h0 hy)) (fun y hy=>Ff1.2 (k4 y hy))
    rw [e]
    have q1:¬m - a=1:=by omega
    have q2:b - m=1:=by simp at hb;omega
    generalize X++A++[x]++Y=s at*
    generalize X++(List.take p A++x::List.drop p A)++Y=u at*
    simp (disch:=omega) only [E9,q1,q2,k1,k5,EVT,EVM,EVC,xe,EVP,↓reduceIte,EV,Nat.reduceAdd,Nat.reduceEqDiff,Int.reduceToNat,reduceCtorEq]
   ·-- two parts of more
    have q1:¬m - a=1:=by omega
    have q2:¬b - m=1:=by omega
    obtain ⟨h,hh⟩:∃h,h=(A.length+B.length) / 2:=⟨_,rfl⟩
    obtain ⟨mid,hM⟩:∃mid,(a+b) / 2=mid:=⟨_,rfl⟩
    have hmid:mid=a+h:=by omega
    obtain ⟨i0,j0,hc15,h1,h2,h3,h4,hi0,hj0⟩:∃i0 j0:Nat,Zv.ev S N [Af (X++A++B++Y),.i .i64 a,.i .i64 m,.i .i64 b,.f g caps]=some (.yld 0 [.i .i64 (a+i0),.i .i64 (a+j0)])∧i0≤j0∧j0≤A.length∧j0≤h∧h≤i0+B.length∧(i0=0∨h - i0=B.length)∧(j0=h∨j0=A.length):=by
     by_cases hgt:h<A.length
     ·refine ⟨h - B.length,h,?_,by omega,by omega,by omega,by omega,by omega,.inl rfl⟩
      have t1:mid<m:=by omega
      have t2:mid+m - b=a+((h - B.length:Nat):Int):=by omega
      rw [←t2,←hmid]
      generalize X++A++B++Y=s at*
      simp (disch:=omega) only [E9,Ef,hM,t1,EVT,EVM,EVC,xe,EVP,↓reduceIte,EV,Nat.reduceAdd,Nat.reduceEqDiff,Int.reduceToNat,reduceCtorEq]
     ·refine ⟨0,A.length,?_,by omega,by omega,by omega,by omega,.inl rfl,.inr rfl⟩
      have t1:¬mid<m:=by omega
      generalize X++A++B++Y=s at*
      simp (disch:=omega) only [E9,Ef,hM,t1,hm,EVT,EVM,EVC,xe,EVP,↓reduceIte,EV,Nat.reduceAdd,Nat.reduceEqDiff,Int.reduceToNat,reduceCtorEq]
      simp
    have hsd:X++A++B++Y=X++(A++(B++Y)):=by simp
    obtain ⟨i,k1,k2,k3,k4,k5⟩:=Kg1 hC X A B Y (X++A++B++Y) hsd a m b mid h i0 j0 ha hm hb hM hmid h1 h2 h3 h4 hs hP N (by omega)
    have cut:=S7 ht sA sB i (h - i) (fun x y h0 hx hy=>Ff0.2 (k4 x y (fun e=>by
      rcases hi0 with q|q
      ·omega
      ·have:=(Aq.1 hy).1;omega) hx hy)) (fun x y h0 hx hy=>Ff1.2 (k5 x y (fun e=>by
      rcases hj0 with q|q
      ·omega
      ·have:=(Aq.1 hx).1;omega) hx (by rw [show h - 1 - i=h - i - 1 by omega];exact hy))) (by omega) (by omega)
    have eA:A.take i++A.drop i=A:=Bl _ _
    have eB:B.take (h - i)++B.drop (h - i)=B:=Bl _ _
    have lA1:(A.take i).length=i:=by rw [Ah];omega
    have lA2:(A.drop i).length=A.length - i:=Bt
    have lB1:(B.take (h - i)).length=h - i:=by rw [Ah];omega
    have lB2:(B.drop (h - i)).length=B.length - (h - i):=Bt
    have sA1:=sA.sublist (List.take_sublist i A)
    have sA2:=sA.sublist (List.drop_sublist i A)
    have sB1:=sB.sublist (List.take_sublist (h - i) B)
    have sB2:=sB.sublist (List.drop_sublist (h - i) B)
    generalize A.take i=A1 at*
    generalize A.drop i=A2 at*
    generalize B.take (h - i)=B1 at*
    generalize B.drop (h - i)=B2 at*
    have e0:X++A++B++Y=X++A1++A2++B1++(B2++Y):=by rw [←eA,←eB];simp
    have mem1:∀y,y∈X++A1++B1++(A2++B2++Y)→P y:=fun y hy=>hP y (by
     rw [e0];simp only [Br] at hy ⊢;grind)
    have len1:(X++A1++B1++(A2++B2++Y)).length≤1000000:=by simp only [Az] at hs2 ⊢;omega
    have lm1:=S6 (leC c) A1 B1
    have mem2:∀y,y∈(X++mrg (leC c) A1 B1)++A2++B2++Y→P y:=fun y hy=>mem1 y (by
     simp only [Br,mrg_mem] at hy ⊢;grind)
    have len2:((X++mrg (leC c) A1 B1)++A2++B2++Y).length≤1000000:=by simp only [Az,lm1] at hs2 ⊢;omega
    have s1:(T.blk 0 Zq Ot).ev S N [Af (X++A++B++Y),.i .i64 a,.i .i64 m,.i .i64 b,.f g caps,.i .i64 (a+i0),.i .i64 (a+j0),.i .i64 (a+i)]=
      Ot.ev S N [Af (X++A++B++Y),.i .i64 a,.i .i64 m,.i .i64 b,.f g caps,.i .i64 (a+i0),.i .i64 (a+j0),.i .i64 (a+i),Af (X++A1++B1++(A2++B2++Y))]:=by
     by_cases t:A2=[]∨B1=[]
     ·have t1:¬(a+(i:Int)<m∧m<mid+m - (a+i)):=by
       rcases t with t|t
       ·rw [t] at lA2;simp at lA2;omega
       ·rw [t] at lB1;simp at lB1;omega
      have e1:X++A++B++Y=X++A1++B1++(A2++B2++Y):=by
       rw [e0];rcases t with t|t<;>subst t<;>simp
      rw [←e1]
      generalize X++A++B++Y=s at*
      by_cases t2:a+(i:Int)<m
      ·have t3:¬m<mid+m - (a+i):=fun q=>t1 ⟨t2,q⟩
       simp (disch:=omega) only [E9,Ef,hM,t2,t3,EVT,EVM,EVC,xe,EVP,↓reduceIte,EV,Nat.reduceAdd,Nat.reduceEqDiff,Int.reduceToNat,reduceCtorEq]
      ·simp (disch:=omega) only [E9,Ef,hM,t2,EVT,EVM,EVC,xe,EVP,↓reduceIte,EV,Nat.reduceAdd,Nat.reduceEqDiff,Int.reduceToNat,reduceCtorEq]
     ·have t':A2≠[]∧B1≠[]:=by grind
      have p1:=By.2 t'.1
      have p2:=By.2 t'.2
      have hr:=Bl5 (X++A1) A2 B1 (B2++Y) (a+i) m (mid+m - (a+i)) g caps (by simp only [Az];omega) (by simp only [Az];omega) (by simp only [Az];omega) t'.1 t'.2 (by rw [←e0];exact hs)
      have t2:a+(i:Int)<m:=by omega
      have t3:m<mid+m - (a+i):=by omega
      rw [←e0] at hr
      have e1:X++A1++B1++A2++(B2++Y)=X++A1++B1++(A2++B2++Y):=by simp
      rw [e1] at hr
      generalize X++A1++B1++(A2++B2++Y)=s1 at*
      generalize X++A++B++Y=s at*
      simp (disch:=omega) only [E9,Ef,hM,t2,t3,hr,D9,K8,EVT,EVM,EVC,xe,EVP,↓reduceIte,EV,Nat.reduceAdd,Nat.reduceEqDiff,Int.reduceToNat,reduceCtorEq]
    have s2:(T.blk 0 Zk O0).ev S N [Af (X++A++B++Y),.i .i64 a,.i .i64 m,.i .i64 b,.f g caps,.i .i64 (a+i0),.i .i64 (a+j0),.i .i64 (a+i),Af (X++A1++B1++(A2++B2++Y))]=
      O0.ev S N [Af (X++A++B++Y),.i .i64 a,.i .i64 m,.i .i64 b,.f g caps,.i .i64 (a+i0),.i .i64 (a+j0),.i .i64 (a+i),Af (X++A1++B1++(A2++B2++Y)),Af ((X++mrg (leC c) A1 B1)++A2++B2++Y)]:=by
     by_cases t:A1=[]∨B1=[]
     ·have t1:¬(a<a+(i:Int)∧a+(i:Int)<mid):=by
       rcases t with t|t
       ·rw [t] at lA1;simp at lA1;omega
       ·rw [t] at lB1;simp at lB1;omega
      have e1:X++A1++B1++(A2++B2++Y)=(X++mrg (leC c) A1 B1)++A2++B2++Y:=by
       rcases t with t|t<;>subst t<;>simp [mrg,Lx]
      rw [←e1]
      generalize X++A1++B1++(A2++B2++Y)=s1 at*
      generalize X++A++B++Y=s at*
      by_cases t2:a<a+(i:Int)
      ·have t3:¬a+(i:Int)<mid:=fun q=>t1 ⟨t2,q⟩
       simp (disch:=omega) only [E9,Ef,hM,t2,t3,EVT,EVM,EVC,xe,EVP,↓reduceIte,EV,Nat.reduceAdd,Nat.reduceEqDiff,Int.reduceToNat,reduceCtorEq]
      ·simp (disch:=omega) only [E9,Ef,hM,t2,EVT,EVM,EVC,xe,EVP,↓reduceIte,EV,Nat.reduceAdd,Nat.reduceEqDiff,Int.reduceToNat,reduceCtorEq]
     ·have t':A1≠[]∧B1≠[]:=by grind
      have p1:=By.2 t'.1
      have p2:=By.2 t'.2
      have hr:=Kk hC ht n X A1 B1 (A2++B2++Y) a (a+i) mid (by omega) t'.1 t'.2 sA1 sB1 ha (by omega) (by omega) len1 mem1
      have t2:a<a+(i:Int):=by omega
      have t3:a+(i:Int)<mid:=by omega
      have e1:X++mrg (leC c) A1 B1++(A2++B2++Y)=(X++mrg (leC c) A1 B1)++A2++B2++Y:=by simp
      rw [e1] at hr
      generalize (X++mrg (leC c) A1 B1)++A2++B2++Y=s2 at*
      generalize X++A1++B1++(A2++B2++Y)=s1 at*
      generalize X++A++B++Y=s at*
      simp (disch:=omega) only [E9,Ef,hM,t2,t3,hr,D9,K8,EVT,EVM,EVC,xe,EVP,↓reduceIte,EV,Nat.reduceAdd,Nat.reduceEqDiff,Int.reduceToNat,reduceCtorEq]
    have s3:O0.ev S N [Af (X++A++B++Y),.i .i64 a,.i .i64 m,.i .i64 b,.f g caps,.i .i64 (a+i0),.i .i64 (a+j0),.i .i64 (a+i),Af (X++A1++B1++(A2++B2++Y)),Af ((X++mrg (leC c) A1 B1)++A2++B2++Y)]=
      some (.ret [Af (X++mrg (leC c) A B++Y)]):=by
     have e9:X++mrg (leC c) A B++Y=(X++mrg (leC c) A1 B1)++mrg (leC c) A2 B2++Y:=by rw [cut];simp
     rw [e9]
     by_cases t:A2=[]∨B2=[]
     ·have t1:¬(mid<mid+m - (a+i)∧mid+m - (a+(i:Int))<b):=by
       rcases t with t|t
       ·rw [t] at lA2;simp at lA2;omega
       ·rw [t] at lB2;simp at lB2;omega
      have e1:(X++mrg (leC c) A1 B1)++A2++B2++Y=(X++mrg (leC c) A1 B1)++mrg (leC c) A2 B2++Y:=by
       rcases t with t|t<;>subst t<;>simp [mrg,Lx]
      rw [←e1]
      generalize (X++mrg (leC c) A1 B1)++A2++B2++Y=s2 at*
      generalize X++A1++B1++(A2++B2++Y)=s1 at*
      generalize X++A++B++Y=s at*
      by_cases t2:mid<mid+m - (a+(i:Int))
      ·have t3:¬mid+m - (a+(i:Int))<b:=fun q=>t1 ⟨t2,q⟩
       simp (disch:=omega) only [E9,Ef,hM,t2,t3,EVT,EVM,EVC,xe,EVP,↓reduceIte,EV,Nat.reduceAdd,Nat.reduceEqDiff,Int.reduceToNat,reduceCtorEq]
      ·simp (disch:=omega) only [E9,Ef,hM,t2,EVT,EVM,EVC,xe,EVP,↓reduceIte,EV,Nat.reduceAdd,Nat.reduceEqDiff,Int.reduceToNat,reduceCtorEq]
     ·have t':A2≠[]∧B2≠[]:=by grind
      have p1:=By.2 t'.1
      have p2:=By.2 t'.2
      have hr:=Kk hC ht n (X++mrg (leC c) A1 B1) A2 B2 Y mid (mid+m - (a+i)) b (by omega) t'.1 t'.2 sA2 sB2 (by simp only [Az,lm1];omega) (by omega) (by omega) len2 mem2
      have t2:mid<mid+m - (a+(i:Int)):=by omega
      have t3:mid+m - (a+(i:Int))<b:=by omega
      generalize (X++mrg (leC c) A1 B1)++mrg (leC c) A2 B2++Y=s3 at*
      generalize (X++mrg (leC c) A1 B1)++A2++B2++Y=s2 at*
      generalize X++A1++B1++(A2++B2++Y)=s1 at*
      generalize X++A++B++Y=s at*
      simp (disch:=omega) only [E9,Ef,hM,t2,t3,hr,D9,K8,EVT,EVM,EVC,xe,EVP,↓reduceIte,EV,Nat.reduceAdd,Nat.reduceEqDiff,Int.reduceToNat,reduceCtorEq]
    have f2:Ot.ev S N [Af (X++A++B++Y),.i .i64 a,.i .i64 m,.i .i64 b,.f g caps,.i .i64 (a+i0),.i .i64 (a+j0),.i .i64 (a+i),Af (X++A1++B1++(A2++B2++Y))]=some (.ret [Af (X++mrg (leC c) A B++Y)]):=s2.trans s3
    have f1:=s1.trans f2
    clear s1 s2 s3 f2 mem1 mem2 cut k4 k5
    generalize X++mrg (leC c) A B++Y=s3 at*
    generalize X++A++B++Y=s at*
    simp (disch:=omega) only [E9,q1,q2,Ef,hM,hc15,k1,f1,EVT,EVM,EVC,xe,EVP,↓reduceIte,EV,Nat.reduceAdd,Nat.reduceEqDiff,Int.reduceToNat,reduceCtorEq]
end
end Go.X.G
/- Stable sorting: the library's functions. -/
namespace Go.X.G
open Go Go.X
section
variable {g:Nat} {caps:List PV} {c:Rec→Rec→Int} {P:Rec→Prop}
theorem Lb5 (hC:Cmp g caps c P) (L L':List Rec) (i:Nat) (x y:Rec) (g0:L[i]? =some y) (g1:L[i+1]? =some x) (sw:(L.set (i+1) y).set i x=L') (k e:Int) (hk:k=i+1) (he:e<k) (he2:0≤e) (hx:P x) (hy:P y) (hlt:c x y<0) (hL:L.length≤1000000) (w0 w2 w4 w5:PV) (N:Nat):
  Lr.ev S N [w0,.i .i64 e,w2,.f g caps,w4,w5,.i .i64 k,Af L]=some (.yld 3 [.i .i64 (k - 1),Af L']):=by
 have hi:=(Aq.1 g1).1
 have ti0:(k - 1).toNat=i:=by omega
 have ti1:k.toNat=i+1:=by omega
 have g2:(L.set (i+1) y)[i]? =some y:=by rw [Bb5 (by omega)];exact g0
 have hc:=hC.ok x y hx hy
 simp (disch:=first|omega|(rw [Jl];omega)) only [Qq,Jq,Ll,he,ti0,ti1,g0,g1,g2,sw,hc,hlt,EVT,EVM,EVC,xe,EVP,↓reduceIte,EV,Nat.reduceAdd,Nat.reduceEqDiff,Int.reduceToNat,reduceCtorEq]
theorem Cf5 (hC:Cmp g caps c P) (L:List Rec) (i:Nat) (x y:Rec) (g0:L[i]? =some y) (g1:L[i+1]? =some x) (k e:Int) (hk:k=i+1) (he:e<k) (hx:P x) (hy:P y) (hlt:¬c x y<0) (hL:L.length≤1000000) (w0 w2 w4 w5:PV) (N:Nat):
  Lr.ev S N [w0,.i .i64 e,w2,.f g caps,w4,w5,.i .i64 k,Af L]=some (.yld 2 [Af L]):=by
 have hi:=(Aq.1 g1).1
 have ti0:(k - 1).toNat=i:=by omega
 have ti1:k.toNat=i+1:=by omega
 have hc:=hC.ok x y hx hy
 simp (disch:=omega) only [Qq,Jq,Ll,he,ti0,ti1,g0,g1,hc,hlt,EVT,EVM,EVC,xe,EVP,↓reduceIte,EV,Nat.reduceAdd,Nat.reduceEqDiff,Int.reduceToNat,reduceCtorEq]
theorem Ff7 (L:List Rec) (k e:Int) (he:¬e<k) (w0 w2 w3 w4 w5:PV) (N:Nat):
  Lr.ev S N [w0,.i .i64 e,w2,w3,w4,w5,.i .i64 k,Af L]=some (.yld 2 [Af L]):=by
 simp (disch:=omega) only [Qq,Jq,Ll,he,EVT,EVM,EVC,xe,EVP,↓reduceIte,EV,Nat.reduceAdd,Nat.reduceEqDiff,Int.reduceToNat,reduceCtorEq]
theorem Lb4 (hC:Cmp g caps c P) (ht:TP (leC c)) (X R Y:List Rec) (x:Rec) (hR:R.Pairwise fun a b=>leC c a b=true) (hP:∀y∈X++R++x::Y,P y) (hs:(X++R++x::Y).length≤1000000) (a k:Int) (ha:a=X.length) (hk:k=a+R.length) (w0 w2:PV) (N:Nat) (hN:R.length<N):
  ∃R1 R2,R=R1++R2∧(∀y∈R1,leC c y x=true)∧(∀y∈R2,leC c y x=false)∧
   Cb7.ev S N [w0,.i .i64 a,w2,.f g caps,.i .i64 k,Af (X++R++x::Y)]=some (.yld 2 [Af (X++(R1++x::R2)++Y)]):=by
 have hx:P x:=hP x (by simp)
 have hs2:=hs
 simp only [Az,A0] at hs2
 have key:=G6 (fn:=S) (N:=N) (η:=[w0,.i .i64 a,w2,.f g caps,.i .i64 k,Af (X++R++x::Y)]) (id:=3) (init:=[.v 4,.v 5]) (body:=Lr) (α:=List Rec×List Rec)
  (fun w=>[.i .i64 (a+w.1.length),Af (X++w.1++x::(w.2++Y))])
  (fun o=>∃R1 R2,R=R1++R2∧(∀y∈R1,leC c y x=true)∧(∀y∈R2,leC c y x=false)∧o= .yld 2 [Af (X++(R1++x::R2)++Y)])
  (fun w=>R=w.1++w.2∧∀y∈w.2,leC c y x=false) (fun w=>w.1.length) (R,[]) ?_ ⟨by simp,by simp⟩ hN ?_
 ·obtain ⟨o,h1,R1,R2,h2,h3,h4,rfl⟩:=key
  exact ⟨R1,R2,h2,h3,h4,h1⟩
 ·subst hk
  simp only [Cd]
  generalize X++R++x::Y=s at*
  simp (disch:=omega) only [EVT,EVM,EVC,xe,EVP,↓reduceIte,EV,Nat.reduceAdd,Nat.reduceEqDiff,Int.reduceToNat,reduceCtorEq]
 ·rintro ⟨R1,R2⟩ ⟨h1,h2⟩
  simp only at h1 h2
  have hlen:=congrArg List.length h1
  simp only [Az] at hlen
  rcases List.eq_nil_or_concat R1 with rfl|⟨R0,y,rfl⟩
  ·right
   refine ⟨_,Ff7 _ _ a (by simp) _ _ _ _ _ N,rfl,[],R2,h1,by simp,h2,?_⟩
   simp
  ·rw [List.concat_eq_append] at*
   simp only [Az,A0,Bc] at hlen
   have hy:P y:=hP y (by rw [h1];simp)
   have lP:(X++R0).length=X.length+R0.length:=Az
   have g0:=gz (X++R0) (x::(R2++Y)) y
   have g1:=nj (X++R0) (R2++Y) y x
   rw [lP] at g0 g1
   have e0:X++(R0++[y])++x::(R2++Y)=X++R0++y::x::(R2++Y):=by simp
   have lL:(X++R0++y::x::(R2++Y)).length≤1000000:=by simp only [Az,A0];omega
   by_cases hlt:c x y<0
   ·left
    have sw0:((X++R0++y::x::(R2++Y)).set (X.length+R0.length+1) y).set (X.length+R0.length) x=X++R0++x::(y::R2++Y):=by
     rw [←lP,List.set_comm _ _ (by omega)]
     exact Hm8 (X++R0) (R2++Y) y x
    refine ⟨(R0,y::R2),?_,⟨by simp only;rw [h1];simp,fun w hw=> ?_⟩,by simp⟩
    ·have:=Lb5 hC _ _ (X.length+R0.length) x y g0 g1 sw0 (a+((R0++[y]).length:Nat)) a (by simp;omega) (by simp;omega) (by omega) hx hy hlt lL w0 w2 (.i .i64 k) (Af (X++R++x::Y)) N
     have e1:a+((R0++[y]).length:Nat) - 1=a+(R0.length:Int):=by simp;omega
     rw [e1] at this
     show Lr.ev S N [w0,.i .i64 a,w2,.f g caps,.i .i64 k,Af (X++R++x::Y),.i .i64 (a+((R0++[y]).length:Nat)),Af (X++(R0++[y])++x::(R2++Y))]=_
     rw [e0]
     exact this
    ·rcases Al.1 hw with rfl|hw
     ·exact Ff1.2 hlt
     ·exact h2 w hw
   ·right
    have hle:leC c y x=true:=Ff0.2 hlt
    refine ⟨_,?_,rfl,R0++[y],R2,h1,lv ht (by rw [h1] at hR;exact (E5.1 hR).1) hle,h2,rfl⟩
    have:=Cf5 hC _ (X.length+R0.length) x y g0 g1 (a+((R0++[y]).length:Nat)) a (by simp;omega) (by simp;omega) hx hy hlt lL w0 w2 (.i .i64 k) (Af (X++R++x::Y)) N
    show Lr.ev S N [w0,.i .i64 a,w2,.f g caps,.i .i64 k,Af (X++R++x::Y),.i .i64 (a+((R0++[y]).length:Nat)),Af (X++(R0++[y])++x::(R2++Y))]=_
    rw [e0,this,←e0]
    simp
theorem Ww (hC:Cmp g caps c P) (ht:TP (leC c)) (X A Y:List Rec) (a b:Int) (ha:a=X.length) (hb:b=a+A.length) (hP:∀y∈X++A++Y,P y) (hs:(X++A++Y).length≤1000000):
  ∃R,Stab (leC c) R A∧R.length=A.length∧S V2 1048580 [Af (X++A++Y),.i .i64 a,.i .i64 b,.f g caps]=some [Af (X++R++Y)]:=by
 have hs2:=hs
 simp only [Az] at hs2
 cases A with
 |nil=>
  refine ⟨[],Rk _,rfl,?_⟩
  refine Ft4 (N:=2) rfl ?_
  simp only [Bc] at hb
  have h1:¬a+1<b:=by omega
  have key:m3.ev S 2 [Af (X++[]++Y),.i .i64 a,.i .i64 b,.f g caps]=some (.yld 0 [Af (X++[]++Y)]):=by
   generalize X++[]++Y=s at*
   refine Er 0 (fun _=>[.i .i64 (a+1),Af s]) (fun _=> .yld 0 [Af s]) ?_ (by omega) (fun i hi=>absurd hi (by omega)) ⟨?_,rfl⟩
   ·simp (disch:=omega) only [EVT,EVM,EVC,xe,EVP,↓reduceIte,EV,Nat.reduceAdd,Nat.reduceEqDiff,Int.reduceToNat,reduceCtorEq]
   ·simp (disch:=omega) only [Qq,Jq,Ll,h1,EVT,EVM,EVC,xe,EVP,↓reduceIte,EV,Nat.reduceAdd,Nat.reduceEqDiff,Int.reduceToNat,reduceCtorEq]
  generalize X++[]++Y=s at*
  simp (disch:=omega) only [Qq,Jq,Ll,key,EVT,EVM,EVC,xe,EVP,↓reduceIte,EV,Nat.reduceAdd,Nat.reduceEqDiff,Int.reduceToNat,reduceCtorEq]
 |cons x0 A=>
  obtain ⟨N,hN⟩:∃N,N=A.length+3:=⟨_,rfl⟩
  simp only [A0] at hb hs2
  have key:=G6 (fn:=S) (N:=N) (η:=[Af (X++x0::A++Y),.i .i64 a,.i .i64 b,.f g caps]) (id:=1) (init:=[.bin .add (.v 1) (.c (.i .i64 1)),.v 0]) (body:=Zd) (α:=List Rec×List Rec×List Rec)
   (fun w=>[.i .i64 (a+w.1.length),Af (X++w.1++(w.2.2++Y))])
   (fun o=>∃R,Stab (leC c) R (x0::A)∧R.length=(x0::A).length∧o= .yld 0 [Af (X++R++Y)])
   (fun w=>x0::A=w.2.1++w.2.2∧Stab (leC c) w.1 w.2.1∧w.1.length=w.2.1.length) (fun w=>w.2.2.length) ([x0],[x0],A) ?_ ⟨rfl,lk _ _,rfl⟩ (by simp only;omega) ?_
  ·obtain ⟨o,h1,R,h2,h3,rfl⟩:=key
   refine ⟨R,h2,h3,?_⟩
   refine Ft4 (N:=N) rfl ?_
   have h4:m3.ev S N [Af (X++x0::A++Y),.i .i64 a,.i .i64 b,.f g caps]=_:=h1
   clear h1
   generalize X++x0::A++Y=s at*
   generalize X++R++Y=u at*
   simp (disch:=omega) only [Qq,Jq,Ll,h4,EVT,EVM,EVC,xe,EVP,↓reduceIte,EV,Nat.reduceAdd,Nat.reduceEqDiff,Int.reduceToNat,reduceCtorEq]
  ·simp only [A0,Bc]
   have e:X++[x0]++(A++Y)=X++x0::A++Y:=by simp
   rw [e]
   have e1:a+((0+1:Nat):Int)=a+1:=by omega
   rw [e1]
   generalize X++x0::A++Y=s at*
   simp (disch:=omega) only [EVT,EVM,EVC,xe,EVP,↓reduceIte,EV,Nat.reduceAdd,Nat.reduceEqDiff,Int.reduceToNat,reduceCtorEq]
  ·rintro ⟨R,D,Z⟩ ⟨h1,h2,h3⟩
   simp only at h1 h2 h3
   have hlen:=congrArg List.length h1
   simp only [Az,A0] at hlen
   cases Z with
   |nil=>
    right
    rw [D7] at h1
    subst h1
    refine ⟨_,?_,rfl,R,h2,h3,rfl⟩
    have hlt:¬a+(R.length:Int)<b:=by simp only [A0] at h3;omega
    simp only [Cd]
    generalize X++x0::A++Y=s at*
    have hu:(X++R++Y).length≤1000000:=by simp only [Az];omega
    generalize X++R++Y=u at*
    simp (disch:=omega) only [Qq,Jq,Ll,hlt,EVT,EVM,EVC,xe,EVP,↓reduceIte,EV,Nat.reduceAdd,Nat.reduceEqDiff,Int.reduceToNat,reduceCtorEq]
   |cons x Z=>
    left
    simp only [A0] at hlen
    have hmem:∀y∈X++R++x::(Z++Y),P y:=fun y hy=>hP y (by
     rw [h1]
     have:=h2.mem ht y
     simp only [Br,Al] at hy ⊢
     grind)
    have hlen2:(X++R++x::(Z++Y)).length≤1000000:=by simp only [Az,A0];omega
    obtain ⟨R1,R2,rfl,k1,k2,k3⟩:=Lb4 hC ht X R (Z++Y) x h2.sorted hmem hlen2 a (a+R.length) ha rfl (Af (X++x0::A++Y)) (.i .i64 b) N (by omega)
    refine ⟨(R1++x::R2,D++[x],Z),?_,⟨by simp only;rw [h1];simp,Fx1 ht h2 k1 k2,by simp at h3 ⊢;omega⟩,by simp⟩
    have e1:a+((R1++x::R2).length:Nat)=a+((R1++R2).length:Nat)+1:=by simp;omega
    have hlt:a+((R1++R2).length:Nat)<b:=by omega
    show Zd.ev S N [Af (X++x0::A++Y),.i .i64 a,.i .i64 b,.f g caps,.i .i64 (a+((R1++R2).length:Nat)),Af (X++(R1++R2)++x::(Z++Y))]=some (.yld 1 [.i .i64 (a+((R1++x::R2).length:Nat)),Af (X++(R1++x::R2)++(Z++Y))])
    rw [e1]
    have hb2:(R1++R2).length≤1000000:=by simp only [Az] at hlen2 ⊢;omega
    generalize (R1++R2).length=n at*
    generalize X++(R1++R2)++x::(Z++Y)=s1 at*
    generalize X++(R1++x::R2)++(Z++Y)=s2 at*
    generalize X++x0::A++Y=s at*
    simp (disch:=omega) only [Qq,Jq,Ll,hlt,k3,EVT,EVM,EVC,xe,EVP,↓reduceIte,EV,Nat.reduceAdd,Nat.reduceEqDiff,Int.reduceToNat,reduceCtorEq]
end
end Go.X.G
/- Stable sorting: the M6. -/
namespace Go.X.G
open Go Go.X
theorem i4 {α:Type} {le:α→α→Bool} (ht:TP le) {bs:Nat} {Y LY:List α} (h:Blk le bs Y LY) (hl:Y.length≤2*bs) (hb:bs<Y.length):Stab le (mrg le (Y.take bs) (Y.drop bs)) LY:=by
 have h1:=h.head
 have h2:=(h.tail).all (by rw [Bt];omega)
 have:=Stab.mrg ht h1 h2
 rwa [Bl] at this
theorem Blk.pre {α:Type} {le:α→α→Bool} {bs k:Nat} {Y LY:List α} (h:Blk le bs Y LY):Blk le bs (Y.take (k*bs)) (LY.take (k*bs)):=by
 refine ⟨by simp [h.len],fun j=> ?_⟩
 rw [List.drop_take,List.drop_take,Bb4,Bb4]
 by_cases hj:j<k
 ·have e:(j+1)*bs≤k*bs:=Bz _ hj
  rw [Nat.succ_mul] at e
  rw [Nb (by omega)]
  exact h.st j
 ·have e:k*bs≤j*bs:=Bz _ (by omega)
  rw [show k*bs - j*bs=0 by omega,Nat.min_eq_right (by omega),List.take_zero,List.take_zero]
  exact Rk le
section
variable {g:Nat} {caps:List PV} {c:Rec→Rec→Int} {P:Rec→Prop}
theorem Kf8 (hC:Cmp g caps c P) (ht:TP (leC c)) (l:List Rec) (hP:∀y∈l,P y) (hs:l.length≤1000000) (N:Nat) (hN:l.length+2<N):
  ∃(X LX Y:List Rec) (q:Nat),Cd5.ev S N [Af l,.i .i64 l.length,.f g caps]=some (.yld 0 [.i .i64 X.length,Af (X++Y)])∧l=LX++Y∧X.length=q*20∧Y.length<20∧Blk (leC c) 20 X LX∧∀y∈X++Y,P y:=by
 have key:=G6 (fn:=S) (N:=N) (η:=[Af l,.i .i64 l.length,.f g caps]) (id:=1) (init:=[.c (.i .i64 0),.c (.i .i64 20),.v 0]) (body:=qn) (α:=List Rec×List Rec×List Rec×Nat)
  (fun w=>[.i .i64 (w.1.length:Int),.i .i64 ((w.1.length:Int)+20),Af (w.1++w.2.2.1)])
  (fun o=>∃(X LX Y:List Rec) (q:Nat),o= .yld 0 [.i .i64 X.length,Af (X++Y)]∧l=LX++Y∧X.length=q*20∧Y.length<20∧Blk (leC c) 20 X LX∧∀y∈X++Y,P y)
  (fun w=>l=w.2.1++w.2.2.1∧w.1.length=w.2.2.2*20∧Blk (leC c) 20 w.1 w.2.1∧∀y∈w.1++w.2.2.1,P y) (fun w=>w.2.2.1.length) ([],[],l,0) ?_ ⟨rfl,by simp,Blk.nil _ _,by simpa using hP⟩ (by simp only;omega) ?_
 ·obtain ⟨o,h1,X,LX,Y,q,rfl,h2⟩:=key
  exact ⟨X,LX,Y,q,h1,h2⟩
 ·simp (disch:=omega) only [EVT,EVM,EVC,xe,EVP,↓reduceIte,EV,Nat.reduceAdd,Nat.reduceEqDiff,Int.reduceToNat,reduceCtorEq]
  simp
 ·rintro ⟨X,LX,Y,q⟩ ⟨h1,h2,h3,h4⟩
  simp only at h1 h2 h3 h4
  have hlen:=congrArg List.length h1
  simp only [Az] at hlen
  have hXL:=h3.len
  by_cases hge:20≤Y.length
  ·left
   have eY:Y.take 20++Y.drop 20=Y:=Bl _ _
   have l1:(Y.take 20).length=20:=by rw [Ah];omega
   have l2:(Y.drop 20).length=Y.length - 20:=Bt
   have eXY:X++Y.take 20++Y.drop 20=X++Y:=by rw [Ap,eY]
   obtain ⟨R,k1,k2,k3⟩:=Ww hC ht X (Y.take 20) (Y.drop 20) (X.length:Int) ((X.length:Int)+20) rfl (by omega) (by rw [eXY];exact h4) (by rw [eXY,Az];omega)
   rw [eXY] at k3
   refine ⟨(X++R,LX++Y.take 20,Y.drop 20,q+1),?_,⟨by simp only;rw [h1,Ap,eY],by simp only [Az];omega,Blk.app h2 h3 (Blk.one k1 k2 (by omega)),fun y hy=>h4 y ?_⟩,by simp only;omega⟩
   ·have e1:((X++R).length:Int)=(X.length:Int)+20:=by simp only [Az];omega
    have hge':(X.length:Int)+20≤(l.length:Int):=by omega
    simp only
    rw [e1]
    generalize X++R++Y.drop 20=s1 at*
    generalize X++Y=s0 at*
    simp (disch:=omega) only [Qv,hge',k3,D9,K8,EVT,EVM,EVC,xe,EVP,↓reduceIte,EV,Nat.reduceAdd,Nat.reduceEqDiff,Int.reduceToNat,reduceCtorEq]
   ·have:=k1.mem ht y
    simp only [Br] at hy
    rcases hy with (hy|hy)|hy
    ·simp [hy]
    ·exact Bh _ (E7 (this.1 hy))
    ·exact Bh _ (Ih hy)
  ·right
   have hge':¬(X.length:Int)+20≤(l.length:Int):=by omega
   refine ⟨.yld 0 [.i .i64 X.length,Af (X++Y)],?_,rfl,X,LX,Y,q,rfl,h1,h2,by omega,h3,h4⟩
   simp only
   generalize X++Y=s0 at*
   simp (disch:=omega) only [Qv,hge',EVT,EVM,EVC,xe,EVP,↓reduceIte,EV,Nat.reduceAdd,Nat.reduceEqDiff,Int.reduceToNat,reduceCtorEq]
theorem Kf7 (hC:Cmp g caps c P) (ht:TP (leC c)) (l r:List Rec) (bs:Nat) (hbs:0<bs) (hbs2:bs<l.length) (hr:Blk (leC c) bs r l) (hP:∀y∈r,P y) (hs:l.length≤1000000) (w0:PV) (w3 w4 w5:PV) (N:Nat) (hN:l.length+2<N):
  ∃(X LX Y LY:List Rec) (q:Nat),Cb0.ev S N [w0,.i .i64 l.length,.f g caps,w3,w4,w5,.i .i64 bs,Af r]=some (.yld 2 [.i .i64 X.length,Af (X++Y)])∧l=LX++LY∧X.length=q*(2*bs)∧Y.length<2*bs∧Blk (leC c) (2*bs) X LX∧Blk (leC c) bs Y LY∧∀y∈X++Y,P y:=by
 have key:=G6 (fn:=S) (N:=N) (η:=[w0,.i .i64 l.length,.f g caps,w3,w4,w5,.i .i64 bs,Af r]) (id:=3) (init:=[.c (.i .i64 0),.bin .mul (.c (.i .i64 2)) (.v 6),.v 7]) (body:=qb) (α:=(List Rec×List Rec)×(List Rec×List Rec)×Nat)
  (fun w=>[.i .i64 (w.1.1.length:Int),.i .i64 ((w.1.1.length:Int)+2*bs),Af (w.1.1++w.2.1.1)])
  (fun o=>∃(X LX Y LY:List Rec) (q:Nat),o= .yld 2 [.i .i64 X.length,Af (X++Y)]∧l=LX++LY∧X.length=q*(2*bs)∧Y.length<2*bs∧Blk (leC c) (2*bs) X LX∧Blk (leC c) bs Y LY∧∀y∈X++Y,P y)
  (fun w=>l=w.1.2++w.2.1.2∧w.1.1.length=w.2.2*(2*bs)∧Blk (leC c) (2*bs) w.1.1 w.1.2∧Blk (leC c) bs w.2.1.1 w.2.1.2∧∀y∈w.1.1++w.2.1.1,P y) (fun w=>w.2.1.1.length) (([],[]),(r,l),0) ?_ ⟨rfl,by simp,Blk.nil _ _,hr,by simpa using hP⟩ (by have:=hr.len;simp only;omega) ?_
 ·obtain ⟨o,h1,X,LX,Y,LY,q,rfl,h2⟩:=key
  exact ⟨X,LX,Y,LY,q,h1,h2⟩
 ·simp (disch:=omega) only [EVT,EVM,EVC,xe,EVP,↓reduceIte,EV,Nat.reduceAdd,Nat.reduceEqDiff,Int.reduceToNat,reduceCtorEq]
  simp
 ·rintro ⟨⟨X,LX⟩,⟨Y,LY⟩,q⟩ ⟨h1,h2,h3,h4,h5⟩
  simp only at h1 h2 h3 h4 h5
  have hlen:=congrArg List.length h1
  simp only [Az] at hlen
  have hXL:=h3.len
  have hYL:=h4.len
  by_cases hge:2*bs≤Y.length
  ·left
   have eY:Y.take (2*bs)++Y.drop (2*bs)=Y:=Bl _ _
   have l1:(Y.take (2*bs)).length=2*bs:=by rw [Ah];omega
   have l2:(Y.drop (2*bs)).length=Y.length - 2*bs:=Bt
   have hp:=h4.pre (k:=2)
   have hz:Blk (leC c) bs (Y.drop (2*bs)) (LY.drop (2*bs)):=by
    have:=h4.tail.tail
    rwa [C6,C6,show bs+bs=2*bs by omega] at this
   have hst:=i4 ht hp (by omega) (by omega)
   have sA:((Y.take (2*bs)).take bs).Pairwise fun x y=>leC c x y=true:=hp.head.sorted
   have sB:((Y.take (2*bs)).drop bs).Pairwise fun x y=>leC c x y=true:=(hp.tail.all (by rw [Bt];omega)).sorted
   have lA:((Y.take (2*bs)).take bs).length=bs:=by rw [Ah];omega
   have lB:((Y.take (2*bs)).drop bs).length=bs:=by rw [Bt];omega
   have eAB:(Y.take (2*bs)).take bs++(Y.take (2*bs)).drop bs=Y.take (2*bs):=Bl _ _
   generalize (Y.take (2*bs)).take bs=A at*
   generalize (Y.take (2*bs)).drop bs=B at*
   have eXY:X++A++B++Y.drop (2*bs)=X++Y:=by rw [Ap X,eAB,Ap,eY]
   have hm:=Kk hC ht (A.length+B.length) X A B (Y.drop (2*bs)) (X.length:Int) ((X.length:Int)+bs) ((X.length:Int)+2*bs) (Ac _) (by intro e;rw [e] at lA;simp at lA;omega) (by intro e;rw [e] at lB;simp at lB;omega) sA sB rfl (by omega) (by omega) (by rw [eXY,Az];omega) (by rw [eXY];exact h5)
   rw [eXY] at hm
   have lM:=S6 (leC c) A B
   have eL:LY.take (2*bs)++LY.drop (2*bs)=LY:=Bl _ _
   refine ⟨((X++mrg (leC c) A B,LX++LY.take (2*bs)),(Y.drop (2*bs),LY.drop (2*bs)),q+1),?_,⟨by simp only;rw [h1,Ap,eL],by simp only [Az];rw [Nat.succ_mul];omega,Blk.app h2 h3 (Blk.one hst (by rw [lM,Ah];omega) (by omega)),hz,fun y hy=>h5 y ?_⟩,by simp only;omega⟩
   ·have e1:((X++mrg (leC c) A B).length:Int)=(X.length:Int)+2*bs:=by simp only [Az];omega
    have hge':(X.length:Int)+2*(bs:Int)≤(l.length:Int):=by omega
    simp only
    rw [e1]
    generalize X++mrg (leC c) A B++Y.drop (2*bs)=s1 at*
    generalize X++Y=s0 at*
    simp (disch:=omega) only [Qv,hge',hm,D9,K8,EVT,EVM,EVC,xe,EVP,↓reduceIte,EV,Nat.reduceAdd,Nat.reduceEqDiff,Int.reduceToNat,reduceCtorEq]
   ·rw [←eXY]
    simp only [Br,mrg_mem] at hy ⊢
    grind
  ·right
   have hge':¬(X.length:Int)+2*(bs:Int)≤(l.length:Int):=by omega
   refine ⟨.yld 2 [.i .i64 X.length,Af (X++Y)],?_,rfl,X,LX,Y,LY,q,rfl,h1,h2,by omega,h3,h4,h5⟩
   simp only
   generalize X++Y=s0 at*
   simp (disch:=omega) only [Qv,hge',EVT,EVM,EVC,xe,EVP,↓reduceIte,EV,Nat.reduceAdd,Nat.reduceEqDiff,Int.reduceToNat,reduceCtorEq]
theorem Kf9 (hC:Cmp g caps c P) (ht:TP (leC c)) (l r:List Rec) (bs:Nat) (hbs:0<bs) (hbs2:bs<l.length) (hr:Blk (leC c) bs r l) (hP:∀y∈r,P y) (hs:l.length≤1000000) (w0 w3 w4 w5:PV) (N:Nat) (hN:l.length+2<N):
  ∃r',Blk (leC c) (2*bs) r' l∧(∀y∈r',P y)∧Zc.ev S N [w0,.i .i64 l.length,.f g caps,w3,w4,w5,.i .i64 bs,Af r]=some (.yld 1 [.i .i64 ((2*bs:Nat):Int),Af r']):=by
 obtain ⟨X,LX,Y,LY,q,k,h1,h2,h3,h4,h5,h6⟩:=Kf7 hC ht l r bs hbs hbs2 hr hP hs w0 w3 w4 w5 N hN
 have hlen:=congrArg List.length h1
 simp only [Az] at hlen
 have hXL:=h4.len
 have hYL:=h5.len
 have hlt:(bs:Int)<(l.length:Int):=by omega
 have e2:((2*bs:Nat):Int)=(bs:Int)*2:=by omega
 rw [e2]
 by_cases hge:bs<Y.length
 ·have eY:Y.take bs++Y.drop bs=Y:=Bl _ _
  have hst:=i4 ht h5 (by omega) hge
  have sA:=h5.head.sorted
  have sB:=(h5.tail.all (by rw [Bt];omega)).sorted
  have lA:(Y.take bs).length=bs:=by rw [Ah];omega
  have lB:(Y.drop bs).length=Y.length - bs:=Bt
  generalize Y.take bs=A at*
  generalize Y.drop bs=B at*
  have eXY:X++A++B++[]=X++Y:=by rw [D7,Ap,eY]
  have hm:=Kk hC ht (A.length+B.length) X A B [] (X.length:Int) ((X.length:Int)+bs) (l.length:Int) (Ac _) (by intro e;rw [e] at lA;simp at lA;omega) (by intro e;rw [e] at lB;simp at lB;omega) sA sB rfl (by omega) (by omega) (by rw [eXY,Az];omega) (by rw [eXY];exact h6)
  rw [eXY,D7] at hm
  have lM:=S6 (leC c) A B
  refine ⟨X++mrg (leC c) A B,by rw [h1];exact Blk.app h2 h4 (Blk.one hst (by omega) (by omega)),fun y hy=>h6 y (by
   rw [←eXY]
   simp only [Br,mrg_mem] at hy ⊢
   grind),?_⟩
  have hge':(X.length:Int)+(bs:Int)<(l.length:Int):=by omega
  generalize X++mrg (leC c) A B=s1 at*
  generalize X++Y=s0 at*
  simp (disch:=omega) only [Qv,hlt,hge',k,hm,D9,K8,EVT,EVM,EVC,xe,EVP,↓reduceIte,EV,Nat.reduceAdd,Nat.reduceEqDiff,Int.reduceToNat,reduceCtorEq]
 ·refine ⟨X++Y,by rw [h1];exact Blk.app h2 h4 (Blk.one (h5.all (by omega)) hYL (by omega)),h6,?_⟩
  have hge':¬(X.length:Int)+(bs:Int)<(l.length:Int):=by omega
  generalize X++Y=s0 at*
  simp (disch:=omega) only [Qv,hlt,hge',k,EVT,EVM,EVC,xe,EVP,↓reduceIte,EV,Nat.reduceAdd,Nat.reduceEqDiff,Int.reduceToNat,reduceCtorEq]
theorem Bh0 (hC:Cmp g caps c P) (ht:TP (leC c)) (l:List Rec) (hP:∀y∈l,P y) (hs:l.length≤1000000):
  ∃r,Stab (leC c) r l∧r.length=l.length∧S fy 1048579 [Af l,.i .i64 l.length,.f g caps]=some [Af r]:=by
 obtain ⟨N,hN⟩:∃N,N=l.length+3:=⟨_,rfl⟩
 obtain ⟨X,LX,Y,q,k0,h1,h2,h3,h4,h5⟩:=Kf8 hC ht l hP hs N (by omega)
 have hlen:=congrArg List.length h1
 simp only [Az] at hlen
 have hXL:=h4.len
 obtain ⟨R,i1,i2,i3⟩:=Ww hC ht X Y [] (X.length:Int) (l.length:Int) rfl (by omega) (by simpa using h5) (by simp;omega)
 simp only [D7] at i3
 have hB:Blk (leC c) 20 (X++R) l:=by rw [h1];exact Blk.app h2 h4 (Blk.one i1 i2 (by omega))
 have hP':∀y∈X++R,P y:=fun y hy=>h5 y (by
  have:=i1.mem ht y
  simp only [Br] at hy ⊢
  grind)
 have key:=G6 (fn:=S) (N:=N) (η:=[Af l,.i .i64 l.length,.f g caps,.i .i64 X.length,Af (X++Y),Af (X++R)]) (id:=1) (init:=[.c (.i .i64 20),.v 5]) (body:=Zc) (α:=Nat×List Rec)
  (fun w=>[.i .i64 (w.1:Int),Af w.2])
  (fun o=>∃r,Stab (leC c) r l∧r.length=l.length∧o= .yld 0 [Af r])
  (fun w=>0<w.1∧Blk (leC c) w.1 w.2 l∧∀y∈w.2,P y) (fun w=>l.length - w.1) (20,X++R) ?_ ⟨by simp,hB,hP'⟩ (by simp only;omega) ?_
 ·obtain ⟨o,k1,r,k2,k3,rfl⟩:=key
  refine ⟨r,k2,k3,?_⟩
  refine Jy3 (N:=N) rfl ?_
  have k4:Cb8.ev S N [Af l,.i .i64 l.length,.f g caps,.i .i64 X.length,Af (X++Y),Af (X++R)]=_:=k1
  clear k1
  generalize X++Y=s0 at*
  generalize X++R=s1 at*
  simp (disch:=omega) only [Qv,k0,i3,k4,D9,K8,EVT,EVM,EVC,xe,EVP,↓reduceIte,EV,Nat.reduceAdd,Nat.reduceEqDiff,Int.reduceToNat,reduceCtorEq]
 ·generalize X++Y=s0 at*
  generalize X++R=s1 at*
  simp (disch:=omega) only [EVT,EVM,EVC,xe,EVP,↓reduceIte,EV,Nat.reduceAdd,Nat.reduceEqDiff,Int.reduceToNat,reduceCtorEq]
 ·rintro ⟨bs,r⟩ ⟨g1,g2,g3⟩
  simp only at g1 g2 g3
  have hr:=g2.len
  by_cases hlt:bs<l.length
  ·left
   obtain ⟨r',k1,k2,k3⟩:=Kf9 hC ht l r bs g1 hlt g2 g3 hs (Af l) (.i .i64 X.length) (Af (X++Y)) (Af (X++R)) N (by omega)
   exact ⟨(2*bs,r'),k3,⟨by simp only;omega,k1,k2⟩,by simp only;omega⟩
  ·right
   have hlt':¬(bs:Int)<(l.length:Int):=by omega
   refine ⟨.yld 0 [Af r],?_,rfl,r,g2.all (by omega),hr,rfl⟩
   generalize X++Y=s0 at*
   generalize X++R=s1 at*
   simp (disch:=omega) only [Qv,hlt',EVT,EVM,EVC,xe,EVP,↓reduceIte,EV,Nat.reduceAdd,Nat.reduceEqDiff,Int.reduceToNat,reduceCtorEq]
theorem Kl (hC:Cmp g caps c P) (ht:TP (leC c)) (l:List Rec) (hP:∀y∈l,P y) (hs:l.length≤1000000):
  ∃r,Stab (leC c) r l∧r.length=l.length∧S Cv0 1048578 [Af l,.f g caps]=some [Af r]:=by
 obtain ⟨r,h1,h2,h3⟩:=Bh0 hC ht l hP hs
 refine ⟨r,h1,h2,?_⟩
 refine Kl6 (N:=1) rfl ?_
 simp (disch:=omega) only [Kz6,h3,D9,K8,EVT,EVM,EVC,xe,EVP,↓reduceIte,EV,Nat.reduceAdd,Nat.reduceEqDiff,Int.reduceToNat,reduceCtorEq]
end
end Go.X.G
/- Records compacted: the library's function. -/
namespace Go.X.G
open Go Go.X
theorem rc (l:List Rec) (g:Nat) (caps:List PV) (eq2:Rec→Rec→Bool) (h:∀x∈l,∀y∈l,S g 2 (x.pv::y.pv::caps)=some [.b (eq2 x y)]) (hl:l.length≤1000000):S Cq9 1048578 [Af l,.f g caps]=some [Af (cpt eq2 l)]:=by
 refine Kl4 (N:=l.length+2) rfl ?_
 by_cases h2:(l.length:Int)<2
 ·have e:cpt eq2 l=l:=by
   match l,h2 with
   |[],_=>rfl
   |[x],_=>rfl
   |_::_::_,h=>simp at h;omega
  rw [e]
  simp (disch:=omega) only [W9,h2,EVT,EVM,EVC,xe,EVP,↓reduceIte,EV,Nat.reduceAdd,Nat.reduceEqDiff,Int.reduceToNat,reduceCtorEq]
 ·-- the inner Gw, from a place where two neighbours are equal
  have inner:∀k:Nat,1≤k→k<l.length→cpt eq2 (l.take (k+1))=l.take k→∃s:List Rec,s.length=l.length∧s.take (cpt eq2 l).length=cpt eq2 l∧Gj7.ev S (l.length+2) [Af l,.f g caps,.i .i64 (k:Int),Af l,.b true]=some (.yld 2 [.i .i64 ((cpt eq2 l).length:Int),Af s]):=by
   intro k hk1 hk hcp
   have key:=G6 (fn:=S) (N:=l.length+2) (η:=[Af l,.f g caps,.i .i64 (k:Int),Af l,.b true]) (id:=3) (init:=[(.v 2),(.c (.i .i64 (1))),(.v 3)]) (body:=Ed7) (α:=Nat×Nat×List Rec)
    (fun a=>[.i .i64 (a.1:Int),.i .i64 (a.2.1:Int),Af a.2.2])
    (fun o=>∃s:List Rec,s.length=l.length∧s.take (cpt eq2 l).length=cpt eq2 l∧o= .yld 2 [.i .i64 ((cpt eq2 l).length:Int),Af s])
    (fun a=>1≤a.2.1∧k+a.2.1≤l.length∧a.1<k+a.2.1∧a.2.2.length=l.length∧a.2.2.take a.1=cpt eq2 (l.take (k+a.2.1))∧(cpt eq2 (l.take (k+a.2.1))).length=a.1∧a.2.2.drop (k+a.2.1 - 1)=l.drop (k+a.2.1 - 1))
    (fun a=>l.length - a.2.1) (k,1,l) (by simp (disch:=omega) only [EVT,EVM,EVC,xe,EVP,↓reduceIte,EV,Nat.reduceAdd,Nat.reduceEqDiff,Int.reduceToNat,reduceCtorEq])
    ⟨by simp,by simp;omega,by simp,rfl,by simp only;rw [hcp],by simp only;rw [hcp,Ah];omega,rfl⟩ (by simp only;omega) ?_
   ·obtain ⟨o,h3,s,h4,h5,rfl⟩:=key
    exact ⟨s,h4,h5,h3⟩
   ·rintro ⟨i,j,s⟩ ⟨a1,a2,a3,a4,a5,a6,a7⟩
    simp only at a1 a2 a3 a4 a5 a6 a7
    by_cases hj:k+j<l.length
    ·left
     have c1:s[k+j]? =l[k+j]? :=by
      have:=congrArg (fun q=>q[1]?) a7
      simp only [A5] at this
      rwa [show k+j - 1+1=k+j by omega] at this
     have c0:s[k+j - 1]? =l[k+j - 1]? :=by
      have:=congrArg (fun q=>q[0]?) a7
      simpa only [A5,Dr] using this
     have g1:l[k+j]? =some (l[k+j]'hj):=Ax hj
     have g0:l[k+j - 1]? =some (l[k+j - 1]'(by omega)):=Ax (by omega)
     have tk:l.take (k+(j+1))=l.take (k+j)++[l[k+j]'hj]:=by rw [show k+(j+1)=(k+j)+1 by omega,B7,g1];rfl
     have ne:l.take (k+j)≠[]:=by intro h;have:=congrArg List.length h;rw [Ah,Bc] at this;omega
     have gl:(l.take (k+j)).getLast ne=l[k+j - 1]'(by omega):=by
      rw [Jj]
      simp only [rl,Ah]
      congr 1;omega
     have cs:=Mb eq2 (l[k+j]'hj) (l.take (k+j)) ne
     rw [←tk,gl] at cs
     have hc:=h (l[k+j]'hj) (Dp _) (l[k+j - 1]'(by omega)) (Dp _)
     generalize l[k+j]'hj=x at*
     generalize l[k+j - 1]'(by omega)=y at*
     have hjj:(j:Int)<(s.length:Int) - (k:Int):=by omega
     have i1:H7 16 (Af s) (.i .i64 ((k:Int)+(j:Int)))=some x.pv:=by rw [Od _ _ _ (by omega),show ((k:Int)+(j:Int)).toNat=k+j by omega,c1,g1];rfl
     have i0:H7 16 (Af s) (.i .i64 ((k:Int)+((j:Int) - 1)))=some y.pv:=by rw [Od _ _ _ (by omega),show ((k:Int)+((j:Int) - 1)).toNat=k+j - 1 by omega,c0,g0];rfl
     have ls:Ix 16 (Af s) (.i .i64 (k:Int)) (.i .i64 (s.length:Int))=some (Af (s.drop k)):=by
      rw [Mk _ _ _ _ _ (by omega) (by omega) (by omega)]
      simp
     have e1:(s.drop k)[j]? =some x:=by rw [A5,c1,g1]
     have e0:(s.drop k)[j - 1]? =some y:=by rw [A5,show k+(j - 1)=k+j - 1 by omega,c0,g0]
     have si:∃w,s[i]? =some w:=⟨_,Ax (by omega)⟩
     obtain ⟨w,si⟩:=si
     have ej:((j:Int) - 1).toNat=j - 1:=by omega
     by_cases hxy:eq2 x y=true
     ·refine ⟨(i,j+1,s),?_,⟨by simp,by simp only;omega,by simp only;omega,a4,?_,?_,?_⟩,by simp only;omega⟩
      ·simp (disch:=omega) only [W9,hjj,i1,i0,ls,e1,e0,ej,hc,hxy,EVT,EVM,EVC,xe,EVP,↓reduceIte,EV,Nat.reduceAdd,Nat.reduceEqDiff,Int.reduceToNat,reduceCtorEq]
      ·simp only;rw [cs,a5];simp [hxy]
      ·simp only;rw [cs,Az,a6];simp [hxy]
      ·simp only
       rw [show k+(j+1) - 1=(k+j - 1)+1 by omega,←C6,←C6,a7]
     ·refine ⟨(i+1,j+1,s.set i x),?_,⟨by simp,by simp only;omega,by simp only;omega,by simpa using a4,?_,?_,?_⟩,by simp only;omega⟩
      ·simp (disch:=omega) only [W9,hjj,i1,i0,ls,e1,e0,ej,si,hc,hxy,EVT,EVM,EVC,xe,EVP,↓reduceIte,EV,Nat.reduceAdd,Nat.reduceEqDiff,Int.reduceToNat,reduceCtorEq]
      ·simp only
       rw [cs,B7,List.getElem?_set_self (by omega),List.take_set_of_le (by omega),a5]
       simp [hxy]
      ·simp only;rw [cs,Az,a6];simp [hxy]
      ·simp only
       rw [show k+(j+1) - 1=(k+j - 1)+1 by omega,Hh4 (by omega),←C6,←C6,a7]
    ·right
     have ek:k+j=l.length:=by omega
     rw [ek,Ct] at a5 a6
     have hjj:¬(j:Int)<(s.length:Int) - (k:Int):=by omega
     refine ⟨.yld 2 [.i .i64 (i:Int),Af s],?_,rfl,s,a4,by rw [a6];exact a5,by rw [a6]⟩
     simp (disch:=omega) only [W9,hjj,EVT,EVM,EVC,xe,EVP,↓reduceIte,EV,Nat.reduceAdd,Nat.reduceEqDiff,Int.reduceToNat,reduceCtorEq]
  have key:Gk5.ev S (l.length+2) [Af l,.f g caps]=some (if cpt eq2 l=l then .yld 0 [Af l] else .ret [Af (cpt eq2 l)]):=by
   have:=G6 (fn:=S) (N:=l.length+2) (η:=[Af l,.f g caps]) (id:=1) (init:=[(.c (.i .i64 (1))),(.v 0)]) (body:=Ef6) (α:=Nat)
    (fun k=>[.i .i64 (k:Int),Af l]) (fun o=>o=if cpt eq2 l=l then .yld 0 [Af l] else .ret [Af (cpt eq2 l)])
    (fun k=>1≤k∧k≤l.length∧cpt eq2 (l.take k)=l.take k) (fun k=>l.length - k) 1 (by simp (disch:=omega) only [EVT,EVM,EVC,xe,EVP,↓reduceIte,EV,Nat.reduceAdd,Nat.reduceEqDiff,Int.reduceToNat,reduceCtorEq])
    ⟨Ac 1,by omega,by cases l with
     |nil=>simp at h2
     |cons x r=>rfl⟩ (by omega) ?_
   ·obtain ⟨o,h3,h4⟩:=this
    rw [←h4];exact h3
   ·rintro k ⟨k1,k2,k3⟩
    by_cases hk:k<l.length
    ·have g1:l[k]? =some l[k]:=Ax hk
     have g0:l[k - 1]? =some (l[k - 1]'(by omega)):=Ax (by omega)
     have tk:l.take (k+1)=l.take k++[l[k]]:=by rw [B7,g1];rfl
     have ne:l.take k≠[]:=by intro h;have:=congrArg List.length h;rw [Ah,Bc] at this;omega
     have gl:(l.take k).getLast ne=l[k - 1]'(by omega):=by
      rw [Jj]
      simp only [rl,Ah]
      congr 1;omega
     have cs:=Mb eq2 l[k] (l.take k) ne
     rw [←tk,gl,k3] at cs
     have hkk:(k:Int)<(l.length:Int):=by omega
     have i1:H7 16 (Af l) (.i .i64 (k:Int))=some (l[k]).pv:=by rw [Od _ _ _ (by omega),show ((k:Int)).toNat=k by omega,g1];rfl
     have i0:H7 16 (Af l) (.i .i64 ((k:Int) - 1))=some (l[k - 1]'(by omega)).pv:=by rw [Od _ _ _ (by omega),show ((k:Int) - 1).toNat=k - 1 by omega,g0];rfl
     have hc:=h l[k] (Dp _) (l[k - 1]'(by omega)) (Dp _)
     by_cases hxy:eq2 l[k] (l[k - 1]'(by omega))=true
     ·right
      have cs':cpt eq2 (l.take (k+1))=l.take k:=by rw [cs];simp [hxy]
      obtain ⟨s,s1,s2,s3⟩:=inner k k1 hk cs'
      have hlt:cpt eq2 l≠l:=by
       intro h
       have q:(cpt eq2 l).length≤(cpt eq2 (l.take (k+1))).length+(l.drop (k+1)).length:=by
        have:∀(b a:List Rec),a≠[]→(cpt eq2 (a++b)).length≤(cpt eq2 a).length+b.length:=by
         intro b
         induction b with
         |nil=>intro a _;simp
         |cons x r ih=>
          intro a ha
          have h1:=ih (a++[x]) (by simp)
          rw [Mb _ _ _ ha] at h1
          rw [show a++x::r=a++[x]++r by simp]
          refine Dc h1 ?_
          rw [Az]
          split<;>simp<;>omega
        have h3:=this (l.drop (k+1)) (l.take (k+1)) (by intro h;have:=congrArg List.length h;rw [Ah,Bc] at this;omega)
        rwa [Bl] at h3
       rw [h,cs',Ah,Bt] at q
       omega
      have hlen:=T4 eq2 l
      refine ⟨.ret [Af (cpt eq2 l)],?_,rfl,by rw [if_neg hlt]⟩
      generalize cpt eq2 l=fl at*
      have ls:Ix 16 (Af l) (.i .i64 (k:Int)) (.i .i64 (l.length:Int))=some (Af (l.drop k)):=by
       rw [Mk _ _ _ _ _ (by omega) (by omega) (by omega)]
       simp
      have hsl1:Ix 16 (Af s) (.i .i64 ((fl.length:Nat):Int)) (.i .i64 (s.length:Int))=some (Af (s.drop fl.length)):=by
       rw [Mk _ _ _ _ _ (by omega) (by omega) (by omega)]
       simp
      have hsl2:Ix 16 (Af s) (.i .i64 0) (.i .i64 ((fl.length:Nat):Int))=some (Af fl):=by
       rw [Mk _ _ _ _ _ (by omega) (by omega) (by omega)]
       simp [s2]
      have hrep:Lk 16 (.i .i64 ((s.length:Int) - (fl.length:Int))) Bb8=some (Af (List.replicate (s.length - fl.length) zr)):=by
       rw [Fy5 _ (by omega) (by omega)]
       congr 3;omega
      have happ:Iz 16 (Af fl) (Af (List.replicate (s.length - fl.length) zr))=some (Af (fl++List.replicate (s.length - fl.length) zr)):=Zf _ _ (by simp;omega)
      have hsl3:Ix 16 (Af (fl++List.replicate (s.length - fl.length) zr)) (.i .i64 0) (.i .i64 ((fl.length:Nat):Int))=some (Af fl):=by
       rw [Mk _ _ _ _ _ (by omega) (by omega) (by simp;omega)]
       simp
      simp (disch:=omega) only [W9,hkk,i1,i0,hc,hxy,ls,s3,hsl1,hsl2,hrep,happ,hsl3,EVT,EVM,EVC,xe,EVP,↓reduceIte,EV,Nat.reduceAdd,Nat.reduceEqDiff,Int.reduceToNat,reduceCtorEq]
     ·left
      refine ⟨k+1,?_,⟨by omega,by omega,?_⟩,by omega⟩
      ·simp (disch:=omega) only [W9,hkk,i1,i0,hc,hxy,EVT,EVM,EVC,xe,EVP,↓reduceIte,EV,Nat.reduceAdd,Nat.reduceEqDiff,Int.reduceToNat,reduceCtorEq]
      ·rw [cs,tk];simp [hxy]
    ·right
     have e:k=l.length:=by omega
     subst e
     rw [Ct] at k3
     refine ⟨_,?_,?_,rfl⟩
     ·rw [if_pos k3]
      simp (disch:=omega) only [W9,EVT,EVM,EVC,xe,EVP,↓reduceIte,EV,Nat.reduceAdd,Nat.reduceEqDiff,Int.reduceToNat,reduceCtorEq]
     ·rw [if_pos k3];rfl
  by_cases hh:cpt eq2 l=l
  ·rw [if_pos hh] at key
   rw [hh]
   simp (disch:=omega) only [W9,h2,key,EVT,EVM,EVC,xe,EVP,↓reduceIte,EV,Nat.reduceAdd,Nat.reduceEqDiff,Int.reduceToNat,reduceCtorEq]
  ·rw [if_neg hh] at key
   simp (disch:=omega) only [W9,h2,key,EVT,EVM,EVC,xe,EVP,↓reduceIte,EV,Nat.reduceAdd,Nat.reduceEqDiff,Int.reduceToNat,reduceCtorEq]
end Go.X.G
/- Lists of records in the program: which are valid, their order, their sorting. -/
namespace Go.X.G
open Go Go.X
theorem El2 (r:Rec) (h:r.wf):S Cw3 1 [r.pv]=some [.b (Mm r)]:=by
 refine Kp3 (N:=1) rfl ?_
 have g:r.name.length≤9223372036854775807:=h.name
 have h1:=B4 r.name g
 have h2:=Cr r.typ
 have h3:=Vb r.typ r.data h.data
 unfold Mm
 by_cases k0:0≤r.ttl<;>by_cases k1:r.ttl≤2147483647
 all_goals rcases ch3 (vld r.name) (knw r.typ) (Dz r.typ r.data) with e0|⟨e0,e1⟩|⟨e0,e1,e2⟩|⟨e0,e1,e2⟩
 all_goals simp only [*] at h1 h2 h3
 all_goals simp (disch:=omega) only [Kc0,Yg,Fq,h1,h2,h3,EVC,xe,EVP,↓reduceIte,EV,Nat.reduceAdd,Nat.reduceEqDiff,Int.reduceToNat,reduceCtorEq, *]
 all_goals simp
theorem Hh2 (x:Int):S V1 1 [.i .i64 x]=some [.b false]:=by
 refine Jv5 (N:=1) rfl ?_
 simp (disch:=omega) only [Im5,EVC,xe,EVP,↓reduceIte,EV,Nat.reduceAdd,Nat.reduceEqDiff,Int.reduceToNat,reduceCtorEq]
theorem Em5 (a b:Int):S V8 2 [.i .i64 a,.i .i64 b]=some [.i .i64 (im a b)]:=by
 refine Jy2 (N:=1) rfl ?_
 have h1:=Hh2 a
 have h2:=Hh2 b
 unfold im
 by_cases k1:a<b
 ·simp (disch:=omega) only [Bf1,h1,h2,k1,EVC,xe,EVP,↓reduceIte,EV,Nat.reduceAdd,Nat.reduceEqDiff,Int.reduceToNat,reduceCtorEq]
 ·by_cases k2:b<a
  ·simp (disch:=omega) only [Bf1,h1,h2,k1,k2,EVC,xe,EVP,↓reduceIte,EV,Nat.reduceAdd,Nat.reduceEqDiff,Int.reduceToNat,reduceCtorEq]
  ·simp (disch:=omega) only [Bf1,h1,h2,k1,k2,EVC,xe,EVP,↓reduceIte,EV,Nat.reduceAdd,Nat.reduceEqDiff,Int.reduceToNat,reduceCtorEq]
theorem xy (a b:Rec) (ha:a.wf) (hb:b.wf):S At6 2 [a.pv,b.pv]=some [.i .i64 (Ny a b)]:=by
 refine Kl2 (N:=1) rfl ?_
 have g1:a.name.length≤9223372036854775807:=ha.name
 have g2:b.name.length≤9223372036854775807:=hb.name
 have h1:=Uy a.name b.name g1 g2
 have h2:=Em5 a.typ b.typ
 have h3:=rx a.typ a.data b.data ha.data hb.data
 unfold Ny
 by_cases k1:I3 a.name b.name=0
 ·by_cases k2:im a.typ b.typ=0
  ·rw [k1] at h1
   rw [k2] at h2
   simp (disch:=omega) only [Hh7,Yg,Fq,h1,h2,h3,EVC,xe,EVP,↓reduceIte,EV,Nat.reduceAdd,Nat.reduceEqDiff,Int.reduceToNat,reduceCtorEq]
   simp [k1,k2]
  ·rw [k1] at h1
   simp (disch:=omega) only [Hh7,h1,h2,k2,EVC,xe,EVP,↓reduceIte,EV,Nat.reduceAdd,Nat.reduceEqDiff,Int.reduceToNat,reduceCtorEq]
   simp [k1,k2]
 ·simp (disch:=omega) only [Hh7,h1,k1,EVC,xe,EVP,↓reduceIte,EV,Nat.reduceAdd,Nat.reduceEqDiff,Int.reduceToNat,reduceCtorEq]
theorem rk (a b:Rec) (ha:a.wf) (hb:b.wf):S At8 2 [a.pv,b.pv]=some [.i .i64 (Ix5 a b)]:=by
 refine Kl5 (N:=1) rfl ?_
 have h1:=xy a b ha hb
 have h2:=Em5 a.ttl b.ttl
 unfold Ix5
 by_cases k1:Ny a b=0
 ·rw [k1] at h1
  simp (disch:=omega) only [Il4,h1,h2,EVC,xe,EVP,↓reduceIte,EV,Nat.reduceAdd,Nat.reduceEqDiff,Int.reduceToNat,reduceCtorEq]
  simp [k1]
 ·simp (disch:=omega) only [Il4,h1,k1,EVC,xe,EVP,↓reduceIte,EV,Nat.reduceAdd,Nat.reduceEqDiff,Int.reduceToNat,reduceCtorEq]
theorem Ix3:Cmp At8 [] Ix5 Rec.wf:=⟨fun x y hx hy=>rk x y hx hy⟩
theorem Bk7:leC Ix5=leR:=rfl
theorem Fn8 (a b:Rec) (ha:a.wf) (hb:b.wf):S At7 2 [a.pv,b.pv]=some [.b (eqF a b)]:=by
 refine Kl3 (N:=1) rfl ?_
 have h1:=xy a b ha hb
 simp (disch:=omega) only [Kz5,h1,EVC,xe,EVP,↓reduceIte,EV,Nat.reduceAdd,Nat.reduceEqDiff,Int.reduceToNat,reduceCtorEq]
theorem Al1 (l:List Rec) (hw:∀r∈l,r.wf) (hl:l.length≤1000000):S Bj7 1 [Af l]=some [Af (sortR l)]:=by
 refine Kp9 (N:=1) rfl ?_
 have h0:=jd l hl
 obtain ⟨r,h1,h2,h3⟩:=Kl Ix3 (by rw [Bk7];exact Is2) l hw hl
 rw [Bk7] at h1
 have hm:=h1.mem Is2
 have h4:=rc r At7 [] eqF (fun x hx y hy=>Fn8 x y (hw x ((hm x).1 hx)) (hw y ((hm y).1 hy))) (by omega)
 rw [Xg h1] at h4
 simp (disch:=omega) only [Kc3,h0,h3,h4,D9,K8,EVT,EVM,EVC,xe,EVP,↓reduceIte,EV,Nat.reduceAdd,Nat.reduceEqDiff,Int.reduceToNat,reduceCtorEq]
end Go.X.G
/- Delegations and names of a zone, as the program finds them. -/
namespace Go.X.G
open Go Go.X
theorem Iw9 {z:Zone} {n b:List UInt8} {c:Rec} (hI:b=[]∨under n b=true):(if (D4 z c && under n c.name && (decide (b=[])||decide ((lbl c.name).length<(lbl b).length)))=true then c.name else b)=[]∨under n (if (D4 z c && under n c.name && (decide (b=[])||decide ((lbl c.name).length<(lbl b).length)))=true then c.name else b)=true:=by
 split
 ·rename_i h
  simp only [Av] at h
  exact .inr h.1.2
 ·exact hI
theorem j8 (z:Zone) (n:List UInt8) (hz:z.wf) (hl:z.recs.length≤1000000) (hn:n.length≤9223372036854775807):S mw 2 [z.pv,.s n]=some [.s (Fl8 z n),.b (decide (Fl8 z n≠[]))]:=by
 refine Kr8 (N:=z.recs.length+1) rfl ?_
 have g1:=hz.origin
 unfold M8 at g1
 have key:Gv1.ev S (z.recs.length+1) [z.pv,.s n]=some (.yld 0 [.s (Ih9 z n [] z.recs)]):=by
  refine Gk z.recs (fun i (b:List UInt8)=>[.s b,.i .i64 (i:Int)]) (fun i b r=> .yld 0 [.s (Ih9 z n b r)]) (fun i b=>b=[]∨under n b=true) [] rfl (.inl rfl) (by omega) (fun i b c r hd hi hc hI=> ?_) (fun b hI=> ?_)
  ·left
   have g2:=(hz.recs.2 c (Ar hc)).name
   unfold M8 at g2
   refine ⟨if D4 z c && under n c.name && (decide (b=[])||decide ((lbl c.name).length<(lbl b).length)) then c.name else b,?_,Iw9 hI,rfl⟩
   by_cases h1:c.typ=2
   ·by_cases h2:c.name=z.origin
    ·simp (disch:=omega) only [Xx,hc,h1,h2,EVM,EVC,xe,EVP,↓reduceIte,EV,Nat.reduceAdd,Nat.reduceEqDiff,Int.reduceToNat,reduceCtorEq]
     simp [D4,Dt,h2]
    ·have k1:=Hq c.name z.origin g2 g1
     have k2:=Hq n c.name hn g2
     rcases Ak (under c.name z.origin) with h3|h3
     ·rcases Ak (under n c.name) with h4|h4
      ·by_cases h5:b=[]
       ·rw [h3] at k1
        rw [h4] at k2
        simp (disch:=omega) only [Xx,hc,h1,h2,h3,h4,h5,k1,k2,EVM,EVC,xe,EVP,↓reduceIte,EV,Nat.reduceAdd,Nat.reduceEqDiff,Int.reduceToNat,reduceCtorEq]
        simp [D4,Dt,h1,h2,h3,h4,h5]
       ·have hb:=hI.resolve_left h5
        have e:=El1 h4 hb
        rw [h3] at k1
        rw [h4] at k2
        by_cases h6:c.name.length<b.length
        ·have h7:=e.1 h6
         have h8:(c.name.length:Int)<(b.length:Int):=by omega
         simp (disch:=omega) only [Xx,hc,h1,h2,h3,h4,h5,h8,k1,k2,EVM,EVC,xe,EVP,↓reduceIte,EV,Nat.reduceAdd,Nat.reduceEqDiff,Int.reduceToNat,reduceCtorEq]
         simp [D4,Dt,h1,h2,h3,h4,h5,h7]
        ·have h7:¬(lbl c.name).length<(lbl b).length:=fun q=>h6 (e.2 q)
         have h8:¬(c.name.length:Int)<(b.length:Int):=by omega
         simp (disch:=omega) only [Xx,hc,h1,h2,h3,h4,h5,h8,k1,k2,EVM,EVC,xe,EVP,↓reduceIte,EV,Nat.reduceAdd,Nat.reduceEqDiff,Int.reduceToNat,reduceCtorEq]
         simp [D4,Dt,h1,h2,h3,h4,h5,h7]
      ·rw [h3] at k1
       rw [h4] at k2
       simp (disch:=omega) only [Xx,hc,h1,h2,h3,h4,k1,k2,EVM,EVC,xe,EVP,↓reduceIte,EV,Nat.reduceAdd,Nat.reduceEqDiff,Int.reduceToNat,reduceCtorEq]
       simp [D4,Dt,h1,h2,h3,h4]
     ·rw [h3] at k1
      simp (disch:=omega) only [Xx,hc,h1,h2,h3,k1,EVM,EVC,xe,EVP,↓reduceIte,EV,Nat.reduceAdd,Nat.reduceEqDiff,Int.reduceToNat,reduceCtorEq]
      simp [D4,Dt,h1,h2,h3]
   ·simp (disch:=omega) only [Xx,hc,h1,EVM,EVC,xe,EVP,↓reduceIte,EV,Nat.reduceAdd,Nat.reduceEqDiff,Int.reduceToNat,reduceCtorEq]
    simp [D4,h1]
  ·simp (disch:=omega) only [Xx,EVM,EVC,xe,EVP,↓reduceIte,EV,Nat.reduceAdd,Nat.reduceEqDiff,Int.reduceToNat,reduceCtorEq]
   simp [Ih9,Out.goes]
 rw [show Ih9 z n [] z.recs=Fl8 z n from rfl] at key
 simp (disch:=omega) only [Xx,key,EVM,EVC,xe,EVP,↓reduceIte,EV,Nat.reduceAdd,Nat.reduceEqDiff,Int.reduceToNat,reduceCtorEq]
 try simp
def cutsN (z:Zone):List (List UInt8):=setN ((z.recs.filter (D4 z)).map Rec.name)
theorem ig (z:Zone) (x:List UInt8):x∈cutsN z↔∃r∈z.recs,D4 z r=true∧r.name=x:=by
 unfold cutsN
 rw [Kv,D6]
 simp only [Bs,and_assoc]
theorem Fx8 {l:List (List UInt8)} (h:∀x∈l,x.length≤9223372036854775807):∀x∈setN l,x.length≤9223372036854775807:=fun x hx=>h x ((Kv l x).1 hx)
theorem rm (z:Zone) (hz:z.wf) (hl:z.recs.length≤1000000):S Bk0 1 [z.pv]=some [Bw (cutsN z)]:=by
 refine Kr6 (N:=z.recs.length+1) rfl ?_
 have g1:=hz.origin
 unfold M8 at g1
 have key:Gq9.ev S (z.recs.length+1) [z.pv]=some (.yld 0 [Bw ([]++(z.recs.filter (D4 z)).map Rec.name)]):=by
  refine Gk z.recs (fun i (b:List (List UInt8))=>[Bw b,.i .i64 (i:Int)]) (fun i b r=> .yld 0 [Bw (b++(r.filter (D4 z)).map Rec.name)]) (fun i b=>b.length≤i) [] rfl (Cn _) (by omega) (fun i b c r hd hi hc hI=> ?_) (fun b hI=> ?_)
  ·left
   have g2:=(hz.recs.2 c (Ar hc)).name
   unfold M8 at g2
   refine ⟨if D4 z c then b++[c.name] else b,?_,by split<;>(try rw [Az,List.length_singleton])<;>omega,by rcases Ak (D4 z c) with q|q<;>simp [q]⟩
   by_cases h1:c.typ=2
   ·by_cases h2:c.name=z.origin
    ·simp (disch:=omega) only [Al4,hc,h1,h2,EVM,EVC,xe,EVP,↓reduceIte,EV,Nat.reduceAdd,Nat.reduceEqDiff,Int.reduceToNat,reduceCtorEq]
     simp [D4,Dt,h2]
    ·have k1:=Hq c.name z.origin g2 g1
     rcases Ak (under c.name z.origin) with h3|h3
     ·rw [h3] at k1
      simp (disch:=omega) only [Al4,hc,h1,h2,h3,k1,EVM,EVC,xe,EVP,↓reduceIte,EV,Nat.reduceAdd,Nat.reduceEqDiff,Int.reduceToNat,reduceCtorEq]
      simp [D4,Dt,h1,h2,h3]
     ·rw [h3] at k1
      simp (disch:=omega) only [Al4,hc,h1,h2,h3,k1,EVM,EVC,xe,EVP,↓reduceIte,EV,Nat.reduceAdd,Nat.reduceEqDiff,Int.reduceToNat,reduceCtorEq]
      simp [D4,Dt,h1,h2,h3]
   ·simp (disch:=omega) only [Al4,hc,h1,EVM,EVC,xe,EVP,↓reduceIte,EV,Nat.reduceAdd,Nat.reduceEqDiff,Int.reduceToNat,reduceCtorEq]
    simp [D4,h1]
  ·simp (disch:=omega) only [Al4,EVM,EVC,xe,EVP,↓reduceIte,EV,Nat.reduceAdd,Nat.reduceEqDiff,Int.reduceToNat,reduceCtorEq]
   simp [Out.goes]
 rw [Cd] at key
 have hlen:((z.recs.filter (D4 z)).map Rec.name).length≤1000000:=by rw [Fw];exact Dc (D5 _ _) hl
 have hw:∀x∈(z.recs.filter (D4 z)).map Rec.name,x.length≤9223372036854775807:=fun x hx=>by
  obtain ⟨r,hr,rfl⟩:=D6.1 hx
  exact (hz.recs.2 r (Bs.1 hr).1).name
 have k1:=Zl _ hlen hw
 have k2:=Nz (((z.recs.filter (D4 z)).map Rec.name).mergeSort fun x y=> !decide (I3 y x<0)) (by rw [jt];exact hlen)
 rw [show cpt eqs (((z.recs.filter (D4 z)).map Rec.name).mergeSort fun x y=> !decide (I3 y x<0))=cutsN z from rfl] at k2
 generalize ((z.recs.filter (D4 z)).map Rec.name).mergeSort (fun x y=> !decide (I3 y x<0))=so at*
 generalize (z.recs.filter (D4 z)).map Rec.name=un at*
 simp (disch:=omega) only [Al4,key,k1,k2,D9,K8,EVM,EVC,xe,EVP,↓reduceIte,EV,Nat.reduceAdd,Nat.reduceEqDiff,Int.reduceToNat,reduceCtorEq]
theorem Bm5 (l:List Rec) (hl:l.length≤1000000) (hw:∀r∈l,r.wf):S Cv4 1 [Af l]=some [Bw (setN (l.map Rec.name))]:=by
 refine Km1 (N:=l.length+1) rfl ?_
 have key:Gk6.ev S (l.length+1) [Af l]=some (.yld 0 [Bw ([]++l.map Rec.name)]):=by
  refine Gk l (fun i (b:List (List UInt8))=>[Bw b,.i .i64 (i:Int)]) (fun i b r=> .yld 0 [Bw (b++r.map Rec.name)]) (fun i b=>b.length≤i) [] rfl (Cn _) (by omega) (fun i b c r hd hi hc hI=> ?_) (fun b hI=> ?_)
  ·left
   refine ⟨b++[c.name],?_,by simp;omega,by simp⟩
   simp (disch:=omega) only [Hh8,hc,EVM,EVC,xe,EVP,↓reduceIte,EV,Nat.reduceAdd,Nat.reduceEqDiff,Int.reduceToNat,reduceCtorEq]
  ·simp (disch:=omega) only [Hh8,EVM,EVC,xe,EVP,↓reduceIte,EV,Nat.reduceAdd,Nat.reduceEqDiff,Int.reduceToNat,reduceCtorEq]
   simp [Out.goes]
 rw [Cd] at key
 have hlen:(l.map Rec.name).length≤1000000:=by rw [Fw];exact hl
 have hw:∀x∈l.map Rec.name,x.length≤9223372036854775807:=fun x hx=>by
  obtain ⟨r,hr,rfl⟩:=D6.1 hx
  exact (hw r hr).name
 have k1:=Zl _ hlen hw
 have k2:=Nz ((l.map Rec.name).mergeSort fun x y=> !decide (I3 y x<0)) (by rw [jt];exact hlen)
 rw [show cpt eqs ((l.map Rec.name).mergeSort fun x y=> !decide (I3 y x<0))=setN (l.map Rec.name) from rfl] at k2
 generalize setN (l.map Rec.name)=se at*
 generalize (l.map Rec.name).mergeSort (fun x y=> !decide (I3 y x<0))=so at*
 generalize l.map Rec.name=un at*
 simp (disch:=omega) only [Hh8,key,k1,k2,D9,K8,EVM,EVC,xe,EVP,↓reduceIte,EV,Nat.reduceAdd,Nat.reduceEqDiff,Int.reduceToNat,reduceCtorEq]
theorem El8 (c owner:List UInt8) (hc:c.length≤9223372036854775807) (ho:owner.length≤9223372036854775807):S At9 1 [.s c,.s owner]=some [.b (decide (c≠owner) && under owner c)]:=by
 refine Km0 (N:=1) rfl ?_
 have k1:=Hq owner c ho hc
 by_cases h:c=owner
 ·simp (disch:=omega) only [Il5,h,EVM,EVC,xe,EVP,↓reduceIte,EV,Nat.reduceAdd,Nat.reduceEqDiff,Int.reduceToNat,reduceCtorEq]
  simp
 ·simp (disch:=omega) only [Il5,h,k1,EVM,EVC,xe,EVP,↓reduceIte,EV,Nat.reduceAdd,Nat.reduceEqDiff,Int.reduceToNat,reduceCtorEq]
  simp
theorem Bc0 (z:Zone) (acc:List (List UInt8)) (n:List UInt8) (p1 p2 p3 p4 p5 p6:PV) (N:Nat) (hu:under n z.origin=true) (ha:acc.length≤1000000) (hN:1000<N) (hp2:H7 1 p2 p4=some (.s n)):
  Cb2.ev S N [z.pv,p1,p2,Bw acc,p4,p5,p6]=some (.yld 2 [Bw (acc++upN z.origin n)]):=by
 obtain ⟨v1,v2,_⟩:=C9.1 hu
 have hlb:=G7 n
 have h0:jn ((lbl n).drop 0)=n:=Cf1 v1
 have e0:upN z.origin n=(upN z.origin n).take ((lbl n).length - (lbl z.origin).length+1):=by
  rw [C5];simp [upN]
 have:=Er (fn:=S) (N:=N) (η:=[z.pv,p1,p2,Bw acc,p4,p5,p6]) (id:=3) (init:=[(.v 3),(.proj 0 (.idx 1 (.v 2) (.v 4)))]) (body:=Ed9) ((lbl n).length - (lbl z.origin).length) (fun k=>[Bw (acc++(upN z.origin n).take k),.s (jn ((lbl n).drop k))])
  (fun _=> .yld 2 [Bw (acc++upN z.origin n)]) ?_ (by omega) (fun k hk=> ?_) ?_
 ·exact this
 ·rw [h0]
  simp (disch:=omega) only [hp2,EVM,EVC,xe,EVP,↓reduceIte,EV,Nat.reduceAdd,Nat.reduceEqDiff,Int.reduceToNat,reduceCtorEq]
  simp
 ·left
  obtain ⟨q1,q2⟩:=Fr7 hu hk
  have q3:¬jn ((lbl n).drop k)=z.origin:=fun h=>by have:=(s7 hu (Nat.le_of_lt hk)).1 h;omega
  have q4:=Gv7 v1 k
  have k1:=W0 (jn ((lbl n).drop k)) (by omega)
  rw [q1,q2] at k1
  have q5:(upN z.origin n).take (k+1)=(upN z.origin n).take k++[jn ((lbl n).drop k)]:=by rw [B7,Xb (Nat.le_of_lt hk)];rfl
  rw [q5,←Ap]
  have q6:(acc++(upN z.origin n).take k).length≤1000300:=by rw [Az,Ah];omega
  generalize acc++(upN z.origin n).take k=a at*
  refine ⟨?_,rfl⟩
  generalize jn ((lbl n).drop (k+1))=nx at*
  generalize jn ((lbl n).drop k)=cu at*
  simp (disch:=omega) only [kq,q3,k1,EVM,EVC,xe,EVP,↓reduceIte,EV,Nat.reduceAdd,Nat.reduceEqDiff,Int.reduceToNat,reduceCtorEq]
 ·have q3:=(s7 hu (Ac _)).2 rfl
  have q5:(upN z.origin n)=(upN z.origin n).take ((lbl n).length - (lbl z.origin).length)++[jn ((lbl n).drop ((lbl n).length - (lbl z.origin).length))]:=by
   have:=B7 (l:=upN z.origin n) (i:=(lbl n).length - (lbl z.origin).length)
   rw [Xb (Ac _)] at this
   rw [←e0] at this
   exact this
  rw [q3] at q5 ⊢
  have q6:(acc++(upN z.origin n).take ((lbl n).length - (lbl z.origin).length)).length≤1000300:=by rw [Az,Ah];omega
  refine ⟨?_,rfl⟩
  conv=>rhs;rw [q5,←Ap]
  generalize acc++(upN z.origin n).take ((lbl n).length - (lbl z.origin).length)=a at*
  simp (disch:=omega) only [kq,EVM,EVC,xe,EVP,↓reduceIte,EV,Nat.reduceAdd,Nat.reduceEqDiff,Int.reduceToNat,reduceCtorEq]
theorem Fl6 (z:Zone) (owner:List UInt8):((cutsN z).any fun c=>decide (c≠owner) && under owner c)=jh z owner:=by
 rw [Ch]
 unfold jh
 simp only [B8,Av,decide_eq_true_eq,ig]
 constructor
 ·rintro ⟨x,⟨r,hr,h1,rfl⟩,h2,h3⟩
  exact ⟨r,hr,⟨h1,h2⟩,h3⟩
 ·rintro ⟨r,hr,⟨h1,h2⟩,h3⟩
  exact ⟨r.name,⟨r,hr,h1,rfl⟩,h2,h3⟩
def H6 (z:Zone) (n:List UInt8):Bool:=under n z.origin && !jh z n
theorem Rp (z:Zone) (hz:z.wf) (hl:z.recs.length≤1000):S mq 1 [z.pv]=some [Bw (namesN z)]:=by
 refine Kr5 (N:=z.recs.length+1001) rfl ?_
 have g1:=hz.origin
 unfold M8 at g1
 have k1:=rm z hz (by omega)
 have k2:=Bm5 z.recs (by omega) (fun r hr=>hz.recs.2 r hr)
 have hol:(setN (z.recs.map Rec.name)).length≤z.recs.length:=by
  have:=Xm (z.recs.map Rec.name)
  rwa [Fw] at this
 have how:∀x∈setN (z.recs.map Rec.name),x.length≤9223372036854775807:=Fx8 fun x hx=>by
  obtain ⟨r,hr,rfl⟩:=D6.1 hx
  exact (hz.recs.2 r hr).name
 have hcl:(cutsN z).length≤1000000:=by
  have:=Xm ((z.recs.filter (D4 z)).map Rec.name)
  rw [Fw] at this
  have h2:=D5 (D4 z) z.recs
  show (setN ((z.recs.filter (D4 z)).map Rec.name)).length≤1000000
  omega
 have hcw:∀x∈cutsN z,x.length≤9223372036854775807:=fun x hx=>by
  obtain ⟨r,hr,_,rfl⟩:=(ig z x).1 hx
  exact (hz.recs.2 r hr).name
 have hmem:∀x,x∈((setN (z.recs.map Rec.name)).filter (H6 z)).flatMap (upN z.origin)↔Gv8 z x:=by
  intro x
  unfold Gv8 H6
  simp only [List.mem_flatMap,Bs,Kv,D6,Av,A7]
  constructor
  ·rintro ⟨o,⟨⟨r,hr,rfl⟩,h1,h2⟩,h3⟩
   obtain ⟨h4,h5⟩:=(R5 h1).1 h3
   exact ⟨r,hr,h1,h2,h4,h5⟩
  ·rintro ⟨r,hr,h1,h2,h4,h5⟩
   exact ⟨r.name,⟨⟨r,hr,rfl⟩,h1,h2⟩,(R5 h1).2 ⟨h4,h5⟩⟩
 generalize hO:setN (z.recs.map Rec.name)=O at*
 have key:Gq8.ev S (z.recs.length+1001) [z.pv,Bw (cutsN z),Bw O]=some (.yld 0 [Bw ([]++(O.filter (H6 z)).flatMap (upN z.origin))]):=by
  refine Gk O (fun i (b:List (List UInt8))=>[Bw b,.i .i64 (i:Int)]) (fun i b r=> .yld 0 [Bw (b++(r.filter (H6 z)).flatMap (upN z.origin))]) (fun i b=>b.length≤256*i) [] rfl (Cn _) (by omega) (fun i b c r hd hi hc hI=> ?_) (fun b hI=> ?_)
  ·left
   have g2:=how c (Ar hc)
   have k3:=Hq c z.origin g2 g1
   have hid:=Fl6 z c
   rcases Ak (under c z.origin) with h1|h1
   ·have k4:=Q6 (cutsN z) At9 [.s c] _ hcl (fun x hx=>El8 x c (hcw x hx) g2)
    rw [hid] at k4
    rw [h1] at k3
    rcases Ak (jh z c) with h2|h2
    ·refine ⟨b,?_,by omega,by simp [H6,h1,h2]⟩
     rw [h2] at k4
     generalize cutsN z=cz at*
     simp (disch:=omega) only [kq,hc,k3,k4,EVM,EVC,xe,EVP,↓reduceIte,EV,Nat.reduceAdd,Nat.reduceEqDiff,Int.reduceToNat,reduceCtorEq]
    ·have hu:=ky z.origin c
     refine ⟨b++upN z.origin c,?_,by rw [Az];omega,by simp [H6,h1,h2]⟩
     rw [h2] at k4
     have k5:∀p5 p6,Cb2.ev S (z.recs.length+1001) [z.pv,Bw (cutsN z),Bw O,Bw b,.i .i64 (i:Int),p5,p6]=some (.yld 2 [Bw (b++upN z.origin c)]):=fun p5 p6=>Bc0 z b c _ _ (Bw b) _ p5 p6 _ h1 (by omega) (by omega) (by rw [Mx _ _ _ (by omega)];simp [hc])
     generalize b++upN z.origin c=b' at*
     generalize cutsN z=cz at*
     simp (disch:=omega) only [kq,hc,k3,k4,k5,EVM,EVC,xe,EVP,↓reduceIte,EV,Nat.reduceAdd,Nat.reduceEqDiff,Int.reduceToNat,reduceCtorEq]
   ·refine ⟨b,?_,by omega,by simp [H6,h1]⟩
    rw [h1] at k3
    generalize cutsN z=cz at*
    simp (disch:=omega) only [kq,hc,k3,EVM,EVC,xe,EVP,↓reduceIte,EV,Nat.reduceAdd,Nat.reduceEqDiff,Int.reduceToNat,reduceCtorEq]
  ·generalize cutsN z=cz at*
   simp (disch:=omega) only [kq,EVM,EVC,xe,EVP,↓reduceIte,EV,Nat.reduceAdd,Nat.reduceEqDiff,Int.reduceToNat,reduceCtorEq]
   simp [Out.goes]
 rw [Cd] at key
 have hxl:((O.filter (H6 z)).flatMap (upN z.origin)).length≤256*O.length:=by
  have:∀l:List (List UInt8),(l.flatMap (upN z.origin)).length≤256*l.length:=by
   intro l
   induction l with
   |nil=>simp
   |cons x r ih=>
    have:=ky z.origin x
    rw [G2,Az,A0];omega
  refine Dc (this _) ?_
  have:=D5 (H6 z) O
  omega
 have hxw:∀x∈(O.filter (H6 z)).flatMap (upN z.origin),x.length≤9223372036854775807:=fun x hx=>by
  obtain ⟨r,hr,_,_,h4,_⟩:=(hmem x).1 hx
  have:=R3 (C9.1 h4).2.1
  omega
 have he:setN ((O.filter (H6 z)).flatMap (upN z.origin))=namesN z:=Fc9 z _ hmem
 generalize (O.filter (H6 z)).flatMap (upN z.origin)=un at*
 have k6:=Zl un (by omega) hxw
 have k7:=Nz (un.mergeSort fun x y=> !decide (I3 y x<0)) (by rw [jt];omega)
 rw [show cpt eqs (un.mergeSort fun x y=> !decide (I3 y x<0))=setN un from rfl,he] at k7
 generalize un.mergeSort (fun x y=> !decide (I3 y x<0))=so at*
 generalize namesN z=nz at*
 generalize cutsN z=cz at*
 simp (disch:=omega) only [kq,k1,k2,key,k6,k7,D9,K8,EVM,EVC,xe,EVP,↓reduceIte,EV,Nat.reduceAdd,Nat.reduceEqDiff,Int.reduceToNat,reduceCtorEq]
end Go.X.G
/- Zones in the program: what is asked of the records of one name. -/
namespace Go.X.G
open Go Go.X
abbrev ltC:List UInt8×Int→List UInt8×Int→Prop:=fun p q=>ltB p.1 q.1∨(p.1=q.1∧p.2<q.2)
theorem to_C:TO ltC:=Em9.prod Is3
def ltQ (a b:Ques):Prop:=ltC (a.name,a.typ) (b.name,b.typ)
theorem to_Q:TO ltQ where
 irr:=fun a=>to_C.irr _
 tr:=fun a b c=>to_C.tr _ _ _
 tri:=fun a b=>by
  rcases to_C.tri (a.name,a.typ) (b.name,b.typ) with h|h|h
  ·exact .inl h
  ·injection h with h1 h2
   refine .inr (.inl ?_)
   cases a;cases b;simp only at h1 h2;rw [h1,h2]
  ·exact .inr (.inr h)
def oc (a b:Ques):Int:=if (Op.bytesLess a.name b.name||(decide (a.name=b.name) && decide (a.typ<b.typ)))=true then -1 else if a=b then 0 else 1
theorem Gp (a b:Ques):oc a b<0↔ltQ a b:=by
 unfold oc ltQ ltC
 simp only
 have e:(Op.bytesLess a.name b.name||(decide (a.name=b.name) && decide (a.typ<b.typ)))=true↔(ltB a.name b.name∨a.name=b.name∧a.typ<b.typ):=by
  simp only [Am,Av,decide_eq_true_eq,T9]
 by_cases h:ltB a.name b.name∨a.name=b.name∧a.typ<b.typ
 ·rw [if_pos (e.2 h)];simp [h]
 ·rw [if_neg (fun q=>h (e.1 q))]
  simp only [h,iff_false]
  split<;>omega
theorem ob (a b:Ques):S Up 2 [a.pv,b.pv]=some [.i .i64 (oc a b)]:=by
 refine Kh7 (N:=1) rfl ?_
 unfold oc
 rcases Ak (Op.bytesLess a.name b.name) with h1|h1
 ·simp (disch:=omega) only [Bc3,h1,EVM,EVC,xe,EVP,↓reduceIte,EV,Nat.reduceAdd,Nat.reduceEqDiff,Int.reduceToNat,reduceCtorEq]
  simp
 ·by_cases h2:a.name=b.name
  ·by_cases h3:a.typ<b.typ
   ·rw [h2] at h1
    simp (disch:=omega) only [Bc3,h1,h2,h3,EVM,EVC,xe,EVP,↓reduceIte,EV,Nat.reduceAdd,Nat.reduceEqDiff,Int.reduceToNat,reduceCtorEq]
    simp
   ·rw [h2] at h1
    by_cases h4:a=b
    ·simp (disch:=omega) only [Bc3,h1,h2,h3,EVM,EVC,xe,EVP,↓reduceIte,EV,Nat.reduceAdd,Nat.reduceEqDiff,Int.reduceToNat,reduceCtorEq]
     simp [h4]
    ·simp (disch:=omega) only [Bc3,h1,h2,h3,h4,EVM,EVC,xe,EVP,↓reduceIte,EV,Nat.reduceAdd,Nat.reduceEqDiff,Int.reduceToNat,reduceCtorEq]
     simp [h4]
  ·have h4:¬a=b:=fun e=>h2 (by rw [e])
   simp (disch:=omega) only [Bc3,h1,h2,h4,EVM,EVC,xe,EVP,↓reduceIte,EV,Nat.reduceAdd,Nat.reduceEqDiff,Int.reduceToNat,reduceCtorEq]
   simp [h4]
def Iq (l:List Ques):PV:= .l 2 (l.map Ques.pv)
theorem Iy (l:List Ques):Gm (Iq l)=some (.i .i64 (l.length:Int)):=by simp [Iq,Gm]
theorem Kf (l:List Ques) (k:IntKind) (z:Int) (h:0≤z):H7 2 (Iq l) (.i k z)=(l[z.toNat]?).map Ques.pv:=by simp [Iq,gq _ _ _ _ h]
theorem Fd5 (x:Ques):J2 2 [x.pv]=some (Iq [x]):=rfl
theorem Eh8 (l:List Ques) (x:Ques) (h:l.length+1≤1073741824):Iz 2 (Iq l) (Iq [x])=some (Iq (l++[x])):=by
 have:=U2 2 (l.map Ques.pv) [x.pv] (by simpa using h)
 simpa [Iq] using this
def xw:PV→PV→Int
 | .a [.s a,.i _ t],.a [.s b,.i _ u]=>oc ⟨a,t⟩ ⟨b,u⟩
 |_,_=>0
theorem Fn7 (l:List Ques) (hl:l.length≤1000000):S l7 1048578 [Iq l,.f Up []]=some [Iq (l.mergeSort fun x y=> !decide (oc y x<0))]:=by
 have hm:∀x∈l.map Ques.pv,∃a∈l,x=a.pv:=fun x hx=>by
  obtain ⟨a,h1,h2⟩:=D6.1 hx
  exact ⟨a,h1,h2.symm⟩
 have hc:∀a b:Ques,xw a.pv b.pv=oc a b:=fun a b=>rfl
 have h:=w9 (tab:=tab) (xs:=Ik9) (ss:=Uf) (f:=l7) (s:=Ft2) It1 It8 (g:=Up) (caps:=[]) (l:=l.map Ques.pv) (by decide) (by simp;omega)
  (fun x hx=>by obtain ⟨a,_,rfl⟩:=hm x hx;rfl) xw
  (fun x hx y hy=>by
   obtain ⟨a,ha,rfl⟩:=hm x hx
   obtain ⟨b,hb,rfl⟩:=hm y hy
   exact ob a b)
  (fun x hx=>by obtain ⟨a,_,rfl⟩:=hm x hx;rw [hc,Gp];exact to_Q.irr a)
  (fun x hx y hy z hz h1 h2=>by
   obtain ⟨a,_,rfl⟩:=hm x hx
   obtain ⟨b,_,rfl⟩:=hm y hy
   obtain ⟨c,_,rfl⟩:=hm z hz
   rw [hc] at*
   exact (Gp a c).2 (to_Q.tr _ _ _ ((Gp a b).1 h1) ((Gp b c).1 h2)))
  (fun x hx y hy z hz h1 h2=>by
   obtain ⟨a,_,rfl⟩:=hm x hx
   obtain ⟨b,_,rfl⟩:=hm y hy
   obtain ⟨c,_,rfl⟩:=hm z hz
   rw [hc] at*
   exact fun h3=>to_Q.ntr (fun q=>h1 ((Gp a b).2 q)) (fun q=>h2 ((Gp b c).2 q)) ((Gp a c).1 h3))
  (fun x hx y hy h1 h2=>by
   obtain ⟨a,_,rfl⟩:=hm x hx
   obtain ⟨b,_,rfl⟩:=hm y hy
   rw [hc] at*
   rcases to_Q.tri a b with q|q|q
   ·exact absurd ((Gp a b).2 q) h1
   ·rw [q]
   ·exact absurd ((Gp b a).2 q) h2)
 have e:(l.map Ques.pv).mergeSort (fun x y=> !decide (xw y x<0))=(l.mergeSort fun x y=> !decide (oc y x<0)).map Ques.pv:=(Ky6 (r:=fun x y=> !decide (oc y x<0)) (s:=fun x y=> !decide (xw y x<0)) (f:=Ques.pv) fun a _ b _=>rfl).symm
 rw [e] at h
 exact h
def Xr (p:Option Ques) (n:Nat):List Ques→Bool
 |[]=>false
 |k::r=>if 64<(if p=some k then n+1 else 1) then true else Xr (some k) (if p=some k then n+1 else 1) r
theorem Xp:∀(l:List Ques) (p:Ques) (n:Nat),(p::l).Pairwise (fun a b=>¬ltQ b a)→n≤64→(Xr (some p) n l=true↔(∃k,k≠p∧64<l.count k)∨64<n+l.count p)
 |[],p,n,_,hn=>by simp [Xr];omega
 |k::r,p,n,hs,hn=>by
  obtain ⟨h1,h2⟩:=As.1 hs
  by_cases e:p=k
  ·subst e
   by_cases hg:64<n+1
   ·simp only [Xr,if_true,hg]
    refine ⟨fun _=> .inr ?_,fun _=>trivial⟩
    rw [Gd];omega
   ·simp only [Xr,if_true,hg,if_false]
    rw [Xp r p (n+1) h2 (by omega),Gd]
    constructor
    ·rintro (⟨q,q1,q2⟩|q)
     ·exact .inl ⟨q,q1,by rw [F3 (fun e=>q1 e.symm)];exact q2⟩
     ·exact .inr (by omega)
    ·rintro (⟨q,q1,q2⟩|q)
     ·exact .inl ⟨q,q1,by rw [F3 (fun e=>q1 e.symm)] at q2;exact q2⟩
     ·exact .inr (by omega)
  ·have e':¬(some p=some k):=fun q=>e (by injection q)
   simp only [Xr,if_neg e',show¬64<1 by omega,if_false]
   rw [Xp r k 1 h2 (by omega)]
   have hlt:ltQ p k:=by
    rcases to_Q.tri p k with q|q|q
    ·exact q
    ·exact absurd q e
    ·exact absurd q (h1 k (.head _))
   have hno:∀y∈k::r,y≠p:=fun y hy q=>by
    subst q
    rcases Al.1 hy with q|hy
    ·exact e q
    ·exact (As.1 h2).1 y hy hlt
   have h0:(k::r).count p=0:=Ky8.2 fun hm=>hno p hm rfl
   have h0r:r.count p=0:=Ky8.2 fun hm=>hno p (.tail _ hm) rfl
   rw [h0]
   constructor
   ·rintro (⟨q,q1,q2⟩|q)
    ·refine .inl ⟨q,fun w=>by rw [w,h0r] at q2;omega,?_⟩
     rw [F3 (fun w=>q1 w.symm)];exact q2
    ·refine .inl ⟨k,fun w=>e w.symm,?_⟩
     rw [Gd];omega
   ·rintro (⟨q,q1,q2⟩|q)
    ·by_cases w:q=k
     ·subst w
      rw [Gd] at q2
      exact .inr (by omega)
     ·rw [F3 (fun v=>w v.symm)] at q2
      exact .inl ⟨q,w,q2⟩
    ·omega
theorem Fy3 (l:List Ques) (hs:l.Pairwise (fun a b=>¬ltQ b a)):Xr none 0 l=true↔∃k,64<l.count k:=by
 cases l with
 |nil=>simp [Xr]
 |cons k r=>
  have e:¬((none:Option Ques)=some k):=by simp
  simp only [Xr,if_neg e,show¬64<1 by omega,if_false]
  rw [Xp r k 1 hs (by omega)]
  constructor
  ·rintro (⟨q,q1,q2⟩|q)
   ·exact ⟨q,by rw [F3 (fun w=>q1 w.symm)];exact q2⟩
   ·exact ⟨k,by rw [Gd];omega⟩
  ·rintro ⟨q,q2⟩
   by_cases w:q=k
   ·subst w
    rw [Gd] at q2
    exact .inr (by omega)
   ·rw [F3 (fun v=>w v.symm)] at q2
    exact .inl ⟨q,w,q2⟩
def kyQ (r:Rec):Ques:=⟨r.name,r.typ⟩
def Qn (l:List Rec):Bool:=Xr none 0 ((l.map kyQ).mergeSort fun x y=> !decide (oc y x<0))
theorem Y6 (n:List UInt8) (t:Int):∀l:List Rec,(l.map kyQ).count ⟨n,t⟩=(findR l n t).length
 |[]=>rfl
 |r::l=>by
  have ih:=Y6 n t l
  unfold findR at ih ⊢
  rw [F6,H5]
  by_cases h:isK n t r=true
  ·rw [if_pos h]
   unfold isK at h
   simp only [Av,decide_eq_true_eq] at h
   have:kyQ r=⟨n,t⟩:=by unfold kyQ;rw [h.1,h.2]
   rw [this,Gd,ih,A0]
  ·rw [if_neg h]
   have:kyQ r≠⟨n,t⟩:=fun e=>h (by
    unfold kyQ at e
    injection e with e1 e2
    unfold isK;simp [e1,e2])
   rw [F3 this,ih]
theorem Hs8 (l:List Ques):(l.mergeSort fun x y=> !decide (oc y x<0)).Pairwise (fun a b=>¬ltQ b a):=by
 have:=List.pairwise_mergeSort (le:=fun x y:Ques=> !decide (oc y x<0)) (fun a b c h1 h2=>by
  simp only [A7,decide_eq_false_iff_not,Gp] at h1 h2 ⊢
  exact to_Q.ntr h2 h1) (fun a b=>by
  simp only [Am,A7,decide_eq_false_iff_not,Gp]
  rcases to_Q.tri a b with h|h|h
  ·exact .inl (to_Q.asym h)
  ·subst h;exact .inl (to_Q.irr a)
  ·exact .inr (to_Q.asym h)) l
 refine this.imp fun {a b} h=> ?_
 simpa only [A7,decide_eq_false_iff_not,Gp] using h
theorem Bx4 (l:List Rec):Qn l= !(l.all fun r=>decide ((findR l r.name r.typ).length≤64)):=by
 rw [Ch]
 unfold Qn
 rw [Fy3 _ (Hs8 _)]
 have hc:∀k,((l.map kyQ).mergeSort fun x y=> !decide (oc y x<0)).count k=(l.map kyQ).count k:=fun k=>(List.mergeSort_perm _ _).count_eq k
 simp only [hc,A7,List.all_eq_false,decide_eq_true_eq]
 constructor
 ·rintro ⟨⟨n,t⟩,h⟩
  rw [Y6] at h
  have hp:0<(findR l n t).length:=by omega
  obtain ⟨x,hx⟩:=List.length_pos_iff_exists_mem.1 hp
  obtain ⟨h3,h4⟩:=Bs.1 hx
  unfold isK at h4
  simp only [Av,decide_eq_true_eq] at h4
  exact ⟨x,h3,by rw [h4.1,h4.2];omega⟩
 ·rintro ⟨r,h1,h2⟩
  exact ⟨kyQ r,by show 64<(l.map kyQ).count ⟨r.name,r.typ⟩;rw [Y6];omega⟩
theorem Bx3 (l:List Rec) (hl:l.length≤1000000):S Cw5 1 [Af l]=some [.b (Qn l)]:=by
 obtain ⟨N,hN⟩:∃N,N=l.length+1:=⟨_,rfl⟩
 refine Kp6 (N:=N) rfl ?_
 have k0:Gq4.ev S N [Af l]=some (.yld 0 [Iq (l.map kyQ)]):=by
  refine Dx l (fun i=>[Iq ((l.take i).map kyQ),.i .i64 (i:Int)]) (fun i r=> .yld 0 [Iq (l.map kyQ)]) rfl (by omega) (fun i c r hd hi hc=> ?_) ?_
  ·left
   refine ⟨?_,rfl⟩
   have e:(l.take (i+1)).map kyQ=(l.take i).map kyQ++[kyQ c]:=by rw [B7,hc];simp
   have hsub:J0 0 2 c.pv=some (kyQ c).pv:=rfl
   have hlen:((l.take i).map kyQ).length≤1000000:=by rw [Fw,Ah];omega
   rw [e]
   generalize (l.take i).map kyQ=a at*
   simp (disch:=omega) only [Xq,hc,hsub,Fd5,Eh8,Iy,Kf,EVM,EVC,xe,EVP,↓reduceIte,EV,Nat.reduceAdd,Nat.reduceEqDiff,Int.reduceToNat,reduceCtorEq]
  ·refine ⟨?_,rfl⟩
   have e:l.take l.length=l:=Ct
   simp (disch:=omega) only [Xq,e,Iy,Kf,EVM,EVC,xe,EVP,↓reduceIte,EV,Nat.reduceAdd,Nat.reduceEqDiff,Int.reduceToNat,reduceCtorEq]
 have hs:=Fn7 (l.map kyQ) (by simpa using hl)
 have hlen:((l.map kyQ).mergeSort fun x y=> !decide (oc y x<0)).length=l.length:=by simp
 unfold Qn
 generalize ((l.map kyQ).mergeSort fun x y=> !decide (oc y x<0))=ks at*
 have k1:Gj9.ev S N [Af l,Iq (l.map kyQ),Iq ks]=some (if Xr none 0 ks=true then .ret [.b true] else .yld 0 []):=by
  refine Gk ks (fun i (g:Nat)=>[.i .i64 (g:Int),.i .i64 (i:Int)]) (fun i g r=>if Xr (if i=0 then none else ks[i - 1]?) g r=true then .ret [.b true] else .yld 0 []) (fun i g=>g≤64) 0 ?_ (by omega) (by omega) (fun i g c r hd hi hc hg=> ?_) (fun g hg=> ?_)
  ·simp (disch:=omega) only [EVC,xe,EVP,↓reduceIte,EV,Nat.reduceAdd,Nat.reduceEqDiff,Int.reduceToNat,reduceCtorEq]
  ·have hp:(if i=0 then none else ks[i - 1]?)=some c↔(0<i∧ks[i - 1]? =some c):=by
    by_cases h:i=0
    ·simp [h]
    ·simp [h];omega
   have hci:(if i+1=0 then none else ks[i+1 - 1]?)=some c:=by rw [if_neg (by omega),W2,hc]
   have hsub:J0 0 2 c.pv=some c.pv:=rfl
   have eqq:∀x:Ques,K3 false true [.s,(.i .i64)] x.pv c.pv=some (.b (decide (x=c))):=fun x=>Lf2 false x c
   by_cases hsame:0<i∧ks[i - 1]? =some c
   ·have hp':=hp.2 hsame
    have hi0:(0:Int)<(i:Int):=by omega
    have ei:((i:Int) - 1).toNat=i - 1:=by omega
    have ei2:(i:Int).toNat=i:=by omega
    by_cases hgt:64<g+1
    ·right
     have hgt':(64:Int)<(g:Int)+1:=by omega
     have er:Xr (if i=0 then none else ks[i - 1]?) g (c::r)=true:=by rw [hp'];simp [Xr,hgt]
     rw [er]
     refine ⟨?_,rfl⟩
     simp (disch:=omega) only [Xq,hc,hsame.2,hi0,ei,ei2,hgt',Iy,Kf,EVM,EVC,xe,EVP,↓reduceIte,EV,Nat.reduceAdd,Nat.reduceEqDiff,Int.reduceToNat,reduceCtorEq]
    ·left
     have hgt':¬(64:Int)<(g:Int)+1:=by omega
     refine ⟨g+1,?_,by omega,?_⟩
     ·simp (disch:=omega) only [Xq,hc,hsame.2,hi0,ei,ei2,hgt',Iy,Kf,EVM,EVC,xe,EVP,↓reduceIte,EV,Nat.reduceAdd,Nat.reduceEqDiff,Int.reduceToNat,reduceCtorEq]
     ·rw [hp',hci]
      simp [Xr,hgt]
   ·left
    have hp':¬(if i=0 then none else ks[i - 1]?)=some c:=fun q=>hsame (hp.1 q)
    have ei:((i:Int) - 1).toNat=i - 1:=by omega
    have ei2:(i:Int).toNat=i:=by omega
    refine ⟨1,?_,by omega,?_⟩
    ·by_cases hi0:0<i
     ·have hi0':(0:Int)<(i:Int):=by omega
      obtain ⟨y,hy⟩:∃y,ks[i - 1]? =some y:=⟨_,Ax (by omega)⟩
      have hyc:¬y=c:=fun q=>hsame ⟨hi0,by rw [hy,q]⟩
      simp (disch:=omega) only [Xq,hc,hy,hyc,hi0',ei,ei2,Iy,Kf,EVM,EVC,xe,EVP,↓reduceIte,EV,Nat.reduceAdd,Nat.reduceEqDiff,Int.reduceToNat,reduceCtorEq]
     ·have hi0':¬(0:Int)<(i:Int):=by omega
      simp (disch:=omega) only [Xq,hc,hi0',ei2,Iy,Kf,EVM,EVC,xe,EVP,↓reduceIte,EV,Nat.reduceAdd,Nat.reduceEqDiff,Int.reduceToNat,reduceCtorEq]
    ·rw [hci]
     simp [Xr,hp']
  ·refine ⟨?_,by simp [Xr,Out.goes]⟩
   have hlt:¬(ks.length:Int)<(ks.length:Int):=by omega
   simp (disch:=omega) only [Xq,hlt,Iy,Kf,EVM,EVC,xe,EVP,↓reduceIte,EV,Nat.reduceAdd,Nat.reduceEqDiff,Int.reduceToNat,reduceCtorEq]
   simp [Xr]
 have hrep:∃p,Lk 2 (.i .i64 (l.length:Int)) (Ques.pv ⟨[],0⟩)=some p:=by
  have h1:(l.length:Int)≤(LIM:Int):=by simp only [LIM];omega
  have h2:(Ques.pv ⟨[],0⟩).cells.length=2:=rfl
  simp [Lk,h1,h2]
 obtain ⟨p,hrep⟩:=hrep
 rcases Ak (Xr none 0 ks) with h|h
 ·rw [h,if_pos rfl] at k1
  rw [h]
  simp (disch:=omega) only [Xq,hrep,k0,hs,k1,Iy,D9,K8,EVM,EVC,xe,EVP,↓reduceIte,EV,Nat.reduceAdd,Nat.reduceEqDiff,Int.reduceToNat,reduceCtorEq]
 ·rw [h,if_neg (by simp)] at k1
  rw [h]
  simp (disch:=omega) only [Xq,hrep,k0,hs,k1,Iy,D9,K8,EVM,EVC,xe,EVP,↓reduceIte,EV,Nat.reduceAdd,Nat.reduceEqDiff,Int.reduceToNat,reduceCtorEq]
end Go.X.G
/- Zones in the program: Check, the M6. -/
namespace Go.X.G
open Go Go.X
theorem Bz0 (t:Int):S ep 1 [.i .i64 t]=some [.b (decide (t=6)||decide (t=5)||decide (t=39))]:=by
 refine Jx0 (N:=1) rfl ?_
 by_cases h1:t=6
 ·simp (disch:=omega) only [Bd8,h1,EVC,xe,EVP,↓reduceIte,EV,Nat.reduceAdd,Nat.reduceEqDiff,Int.reduceToNat,reduceCtorEq]
  simp
 ·by_cases h2:t=5
  ·simp (disch:=omega) only [Bd8,h2,EVC,xe,EVP,↓reduceIte,EV,Nat.reduceAdd,Nat.reduceEqDiff,Int.reduceToNat,reduceCtorEq]
   simp
  ·simp (disch:=omega) only [Bd8,h1,h2,EVC,xe,EVP,↓reduceIte,EV,Nat.reduceAdd,Nat.reduceEqDiff,Int.reduceToNat,reduceCtorEq]
   simp
theorem En5 (r:Rec) (t:Int):S At1 1 [r.pv,.i .i64 t]=some [.b (decide (r.typ=t))]:=by
 refine Kh2 (N:=1) rfl ?_
 simp (disch:=omega) only [Kz0,EVC,xe,EVP,↓reduceIte,EV,Nat.reduceAdd,Nat.reduceEqDiff,Int.reduceToNat,reduceCtorEq]
theorem J9 (g:List Rec) (t:Int) (hl:g.length≤1000000):S N9 2 [Af g,.i .i64 t]=some [.b (F8 g t)]:=by
 refine Kn9 (N:=1) rfl ?_
 have h:=Ij g At1 [.i .i64 t] (fun r=>decide (r.typ=t)) hl (fun r _=>En5 r t)
 simp (disch:=omega) only [Kb9,h,EVC,xe,EVP,↓reduceIte,EV,Nat.reduceAdd,Nat.reduceEqDiff,Int.reduceToNat,reduceCtorEq]
 rfl
def Jy (l:List Int):PV:= .l 1 (l.map (PV.i .i64))
theorem Ow (l:List Int):Gm (Jy l)=some (.i .i64 (l.length:Int)):=by simp [Jy,Gm]
theorem Yd (l:List Int) (k:IntKind) (z:Int) (h:0≤z):H7 1 (Jy l) (.i k z)=(l[z.toNat]?).map (PV.i .i64):=by simp [Jy,gq _ _ _ _ h]
theorem ct (l:List Int):Bm 0 (Jy l)=some (Jy l):=rfl
theorem Bl1 (l:List Int):Ir (Jy l)=some (Jy l):=rfl
theorem Em0 (l:List Int) (x:Int) (hl:l.length≤1000000):∃k:Int,(0≤k↔x∈l)∧S d5 2 [Jy l,.i .i64 x]=some [.i .i64 k]:=by
 have go:∀(i:Nat) (l:List Int),∃k:Int,k=(match l.findIdx? (·=x) with|some j=>((i+j:Nat):Int)|none=> -1)∧(0≤k↔x∈l):=by
  intro i l
  refine ⟨_,rfl,?_⟩
  cases h:l.findIdx? (·=x) with
  |none=>
   rw [List.findIdx?_eq_none_iff] at h
   simp only
   constructor
   ·intro h2;omega
   ·intro h2;have:=h x h2;simp at this
  |some j=>
   simp only
   constructor
   ·intro _
    rw [List.findIdx?_eq_some_iff_getElem] at h
    obtain ⟨h1,h2,_⟩:=h
    simp at h2
    rw [←h2];exact Dp _
   ·intro _;omega
 obtain ⟨k,hk,hk2⟩:=go 0 l
 refine ⟨k,hk2,?_⟩
 refine Jq8 (N:=l.length+1) rfl ?_
 have key:Cc8.ev S (l.length+1) [Jy l,.i .i64 x]=some (match l.findIdx? (·=x) with|some j=> .ret [.i .i64 ((0+j:Nat):Int)]|none=> .yld 0 []):=by
  refine Dx l (fun i=>[.i .i64 (i:Int)]) (fun i r=>match r.findIdx? (·=x) with|some j=> .ret [.i .i64 ((i+j:Nat):Int)]|none=> .yld 0 []) rfl (by omega) (fun i c r hd hi hc=> ?_) ?_
  ·by_cases h:x=c
   ·right
    subst h
    simp (disch:=omega) only [Z8,hc,Ow,Yd,EVM,EVC,xe,EVP,↓reduceIte,EV,Nat.reduceAdd,Nat.reduceEqDiff,Int.reduceToNat,reduceCtorEq]
    simp [Ky7,Out.goes]
   ·left
    have h':¬c=x:=fun e=>h e.symm
    simp (disch:=omega) only [Z8,hc,h,h',Ow,Yd,EVM,EVC,xe,EVP,↓reduceIte,EV,Nat.reduceAdd,Nat.reduceEqDiff,Int.reduceToNat,reduceCtorEq]
    refine ⟨trivial,?_⟩
    simp only [Ky7,h',decide_false,Ab,if_false]
    cases r.findIdx? (·=x) with
    |none=>rfl
    |some j=>simp;omega
  ·simp (disch:=omega) only [Z8,Ow,Yd,EVM,EVC,xe,EVP,↓reduceIte,EV,Nat.reduceAdd,Nat.reduceEqDiff,Int.reduceToNat,reduceCtorEq]
   simp [Out.goes]
 rw [hk]
 cases h:l.findIdx? (·=x) with
 |none=>
  rw [h] at key
  simp (disch:=omega) only [Z8,key,Ow,EVM,EVC,xe,EVP,↓reduceIte,EV,Nat.reduceAdd,Nat.reduceEqDiff,Int.reduceToNat,reduceCtorEq]
 |some j=>
  rw [h] at key
  simp (disch:=omega) only [Z8,key,Ow,EVM,EVC,xe,EVP,↓reduceIte,EV,Nat.reduceAdd,Nat.reduceEqDiff,Int.reduceToNat,reduceCtorEq]
theorem jc (l:List Int) (x:Int) (hl:l.length≤1000000):S ed 2 [Jy l,.i .i64 x]=some [.b (decide (x∈l))]:=by
 refine Jw8 (N:=1) rfl ?_
 obtain ⟨k,h1,h2⟩:=Em0 l x hl
 simp (disch:=omega) only [In3,h2,EVM,EVC,xe,EVP,↓reduceIte,EV,Nat.reduceAdd,Nat.reduceEqDiff,Int.reduceToNat,reduceCtorEq]
 simp [h1]
theorem Bb9 (r:Rec) (ts:List Int) (hl:ts.length≤1000000):S V5 1 [r.pv,Jy ts]=some [.b (!decide (r.typ∈ts))]:=by
 refine Jw9 (N:=1) rfl ?_
 have h:=jc ts r.typ hl
 simp (disch:=omega) only [In4,ct,h,EVC,xe,EVP,↓reduceIte,EV,Nat.reduceAdd,Nat.reduceEqDiff,Int.reduceToNat,reduceCtorEq]
theorem W6 (g:List Rec) (ts:List Int) (hl:g.length≤1000000) (ht:ts.length≤1000000):S Un 2 [Af g,Jy ts]=some [.b (I7 g ts)]:=by
 refine Kh3 (N:=1) rfl ?_
 have h:=Ij g V5 [Jy ts] (fun r=> !decide (r.typ∈ts)) hl (fun r _=>Bb9 r ts ht)
 have e:(!(g.any fun r=> !decide (r.typ∈ts)))=I7 g ts:=by
  unfold I7;rw [List.not_any_eq_all_not];simp
 rw [←e]
 generalize (g.any fun r=> !decide (r.typ∈ts))=b at*
 simp (disch:=omega) only [Kz1,ct,Bl1,h,EVC,xe,EVP,↓reduceIte,EV,Nat.reduceAdd,Nat.reduceEqDiff,Int.reduceToNat,reduceCtorEq]
theorem j7 (g:List Rec) (hl:g.length≤1000000):S Cq7 1 [Af g]=some [.b (Em8 g)]:=by
 obtain ⟨N,hN⟩:∃N,N=g.length+2:=⟨_,rfl⟩
 refine Kh4 (N:=N) rfl ?_
 have key:Gk2.ev S N [Af g]=some (if Em8 g=true then .yld 0 [] else .ret [.b false]):=by
  cases g with
  |nil=>
   refine Er 0 (fun _=>[.i .i64 1]) (fun _=> .yld 0 []) ?_ (by omega) (fun i hi=>absurd hi (by omega)) ⟨?_,rfl⟩
   ·simp (disch:=omega) only [EVC,xe,EVP,↓reduceIte,EV,Nat.reduceAdd,Nat.reduceEqDiff,Int.reduceToNat,reduceCtorEq]
   ·have hlt:¬(1:Int)<(([]:List Rec).length:Int):=by simp
    simp (disch:=omega) only [W8,hlt,EVC,xe,EVP,↓reduceIte,EV,Nat.reduceAdd,Nat.reduceEqDiff,Int.reduceToNat,reduceCtorEq]
  |cons p r=>
   have hlr:(p::r).length=r.length+1:=rfl
   have:=Dx (fn:=S) (N:=N) (η:=[Af (p::r)]) (id:=1) (init:=[.c (.i .i64 1)]) (body:=Ef4) r (fun i=>[.i .i64 ((i:Int)+1)]) (fun i l=>if (match (p::r)[i]? with|some q=>U9 q l|none=>true)=true then .yld 0 [] else .ret [.b false]) ?_ (by omega) (fun i c l hd hi hc=> ?_) ?_
   ·exact this
   ·simp (disch:=omega) only [EVC,xe,EVP,↓reduceIte,EV,Nat.reduceAdd,Nat.reduceEqDiff,Int.reduceToNat,reduceCtorEq]
    try rfl
   ·obtain ⟨q,hq⟩:∃q,(p::r)[i]? =some q:=⟨_,Ax (by rw [hlr];omega)⟩
    have hc':(p::r)[i+1]? =some c:=by simpa using hc
    have e1:((i:Int)+1 - 1).toNat=i:=by omega
    have e2:((i:Int)+1).toNat=i+1:=by omega
    have hlt:(i:Int)+1<((p::r).length:Int):=by rw [hlr];omega
    have hsg:=Bz0 c.typ
    rw [hq,hc']
    generalize (p::r)=g' at*
    have step:U9 q (c::l)=((!decide (c.typ=q.typ)||(!(decide (c.typ=6)||decide (c.typ=5)||decide (c.typ=39)) && (decide (c.typ=46)||decide (c.ttl=q.ttl)))) && U9 c l):=rfl
    by_cases h1:c.typ=q.typ
    ·rcases Ak (decide (c.typ=6)||decide (c.typ=5)||decide (c.typ=39)) with h2|h2
     ·right
      have er:U9 q (c::l)=false:=by rw [step,h2];simp [h1]
      rw [h2] at hsg
      simp only [er,Ab,if_false]
      refine ⟨?_,rfl⟩
      rw [h1] at hsg
      simp (disch:=omega) only [W8,hlt,e1,e2,hq,hc',h1,hsg,EVC,xe,EVP,↓reduceIte,EV,Nat.reduceAdd,Nat.reduceEqDiff,Int.reduceToNat,reduceCtorEq]
     ·rw [h2] at hsg
      rw [h2] at step
      rw [h1] at hsg
      by_cases h3:c.typ=46
      ·left
       have er:U9 q (c::l)=U9 c l:=by rw [step];simp [h3]
       have h3':q.typ=46:=by rw [←h1];exact h3
       rw [h3'] at hsg
       refine ⟨?_,by simp only [er]⟩
       simp (disch:=omega) only [W8,hlt,e1,e2,hq,hc',h1,h3',hsg,EVC,xe,EVP,↓reduceIte,EV,Nat.reduceAdd,Nat.reduceEqDiff,Int.reduceToNat,reduceCtorEq]
       try simp
      ·have h3':¬q.typ=46:=by rw [←h1];exact h3
       by_cases h4:c.ttl=q.ttl
       ·left
        have er:U9 q (c::l)=U9 c l:=by rw [step];simp [h4]
        refine ⟨?_,by simp only [er]⟩
        simp (disch:=omega) only [W8,hlt,e1,e2,hq,hc',h1,h3',h4,hsg,EVC,xe,EVP,↓reduceIte,EV,Nat.reduceAdd,Nat.reduceEqDiff,Int.reduceToNat,reduceCtorEq]
        try simp
       ·right
        have er:U9 q (c::l)=false:=by rw [step];simp [h1,h3',h4]
        simp only [er,Ab,if_false]
        refine ⟨?_,rfl⟩
        simp (disch:=omega) only [W8,hlt,e1,e2,hq,hc',h1,h3',h4,hsg,EVC,xe,EVP,↓reduceIte,EV,Nat.reduceAdd,Nat.reduceEqDiff,Int.reduceToNat,reduceCtorEq]
    ·left
     have er:U9 q (c::l)=U9 c l:=by rw [step];simp [h1]
     refine ⟨?_,by simp only [er]⟩
     simp (disch:=omega) only [W8,hlt,e1,e2,hq,hc',h1,EVC,xe,EVP,↓reduceIte,EV,Nat.reduceAdd,Nat.reduceEqDiff,Int.reduceToNat,reduceCtorEq]
     try simp
   ·have hlt:¬(r.length:Int)+1<((p::r).length:Int):=by rw [hlr];omega
    obtain ⟨q,hq⟩:∃q,(p::r)[r.length]? =some q:=⟨_,Ax (by rw [hlr];omega)⟩
    rw [hq]
    refine ⟨?_,by simp [U9,Out.goes]⟩
    generalize (p::r)=g' at*
    simp (disch:=omega) only [W8,hlt,EVC,xe,EVP,↓reduceIte,EV,Nat.reduceAdd,Nat.reduceEqDiff,Int.reduceToNat,reduceCtorEq]
    simp [U9]
 rcases Ak (Em8 g) with h|h
 ·rw [h,if_pos rfl] at key
  rw [h]
  simp (disch:=omega) only [W8,key,EVC,xe,EVP,↓reduceIte,EV,Nat.reduceAdd,Nat.reduceEqDiff,Int.reduceToNat,reduceCtorEq]
 ·rw [h,if_neg (by simp)] at key
  rw [h]
  simp (disch:=omega) only [W8,key,EVC,xe,EVP,↓reduceIte,EV,Nat.reduceAdd,Nat.reduceEqDiff,Int.reduceToNat,reduceCtorEq]
theorem Em3 (a b:List Rec) (ha:a.length≤1000000) (hb:b.length≤1000000):S Cw2 2 [Af a,Af b]=some [.b (decide (a=b))]:=by
 obtain ⟨N,hN⟩:∃N,N=a.length+1:=⟨_,rfl⟩
 refine Kp2 (N:=N) rfl ?_
 by_cases hl:a.length=b.length
 ·have key:Gq3.ev S N [Af a,Af b]=some (if a.drop 0=b.drop 0 then .yld 0 [] else .ret [.b false]):=by
   refine Er a.length (fun i=>[.i .i64 (i:Int)]) (fun i=>if a.drop i=b.drop i then .yld 0 [] else .ret [.b false]) rfl (by omega) (fun i hi=> ?_) ?_
   ·have h1:a[i]? =some a[i]:=Ax hi
    have h2:b[i]? =some b[i]:=Ax (by omega)
    have d1:a.drop i=a[i]::a.drop (i+1):=B0 hi
    have d2:b.drop i=b[i]::b.drop (i+1):=B0 (by omega)
    rw [d1,d2]
    generalize a[i]=x at*
    generalize b[i]'(by omega)=y at*
    have hlt:(i:Int)<(a.length:Int):=by omega
    by_cases h:x=y
    ·left
     subst h
     refine ⟨?_,by simp⟩
     simp (disch:=omega) only [Al3,hlt,h1,h2,EVC,xe,EVP,↓reduceIte,EV,Nat.reduceAdd,Nat.reduceEqDiff,Int.reduceToNat,reduceCtorEq]
     try simp
    ·right
     rw [if_neg (by simp [h])]
     refine ⟨?_,rfl⟩
     simp (disch:=omega) only [Al3,hlt,h1,h2,h,EVC,xe,EVP,↓reduceIte,EV,Nat.reduceAdd,Nat.reduceEqDiff,Int.reduceToNat,reduceCtorEq]
   ·have hlt:¬(a.length:Int)<(a.length:Int):=by omega
    have e:a.drop a.length=b.drop a.length:=by rw [List.drop_length,hl,List.drop_length]
    rw [if_pos e]
    refine ⟨?_,rfl⟩
    simp (disch:=omega) only [Al3,hlt,EVC,xe,EVP,↓reduceIte,EV,Nat.reduceAdd,Nat.reduceEqDiff,Int.reduceToNat,reduceCtorEq]
  have hl':(a.length:Int)=(b.length:Int):=by omega
  rw [Ds,Ds] at key
  by_cases h:a=b
  ·rw [if_pos h] at key
   have e:decide (a=b)=true:=by simp [h]
   rw [e]
   simp (disch:=omega) only [Al3,hl',key,EVC,xe,EVP,↓reduceIte,EV,Nat.reduceAdd,Nat.reduceEqDiff,Int.reduceToNat,reduceCtorEq]
  ·rw [if_neg h] at key
   have e:decide (a=b)=false:=by simp [h]
   rw [e]
   simp (disch:=omega) only [Al3,hl',key,EVC,xe,EVP,↓reduceIte,EV,Nat.reduceAdd,Nat.reduceEqDiff,Int.reduceToNat,reduceCtorEq]
 ·have hl':¬(a.length:Int)=(b.length:Int):=by omega
  have e:decide (a=b)=false:=decide_eq_false fun q=>hl (by rw [q])
  rw [e]
  simp (disch:=omega) only [Al3,hl',EVC,xe,EVP,↓reduceIte,EV,Nat.reduceAdd,Nat.reduceEqDiff,Int.reduceToNat,reduceCtorEq]
end Go.X.G
