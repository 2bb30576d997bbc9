/- The order of any records; what is sorted stably and made compact is what the reference U6. -/
import Derived.Test.YteiaijjlmnacpaaGreatDoorZoneCutsG12
import Derived.Test.YteiaijjlmnacpaaGreatDoorZoneCutsG9
import Derived.Test.YteiaijjlmnacpaaGreatDoorZoneCutsG10
open Bool renaming eq_false_or_eq_true→Ak,and_eq_true→Av,false_eq_true→Ab,or_eq_true→An,not_eq_true'→A9,eq_iff_iff→Cn
open Int renaming le_refl→Mq6
open List renaming getElem?_eq_some_iff→Aq,getElem?_eq_getElem→Ax,length_append→Az,mem_cons→Ag,length_take→Al,mem_of_getElem?→Am,append_assoc→Ap,pairwise_cons→As,length_cons→A0,getElem?_append_right→A3,getElem?_drop→A6,getElem?_append_left→A8,length_pos_iff→Bv,eq_nil_of_length_eq_zero→Bw,length_nil→Bc,mem_append_right→Bg,take_append_drop→Bl,drop_eq_getElem_cons→Bp,mem_append→Br,length_drop→Bt,mem_filter→B0,cons_append→B3,take_add_one→B6,any_eq_true→Cj,nil_append→Cv,take_of_length_le→Cr,take_length→C2,getElem?_of_mem→C7,drop_drop→C8,getElem?_set→Dj,getElem?_cons_succ→Dk,length_filter_le→Dv,drop_zero→Dy,length_map→Dt,getElem_mem→D1,append_nil→D2,mem_map→D4,filter_cons_of_pos→D9,filter_eq_nil_iff→Ec,filter_append→Ed,pairwise_append→E8,mem_of_mem_take→Fj,flatMap_cons→Fp,count_cons_of_ne→F3,map_cons→F5,mem_of_mem_drop→Gd,count_cons_self→Gf,filter_cons→H3,drop_append_of_le_length→Ir,getLast_eq_getElem→Jk,length_set→Jl,pairwise_iff_getElem→Nq,drop_of_length_le→Xf,set_append_right→lq,length_mergeSort→lw,getElem_take→ux,take_take→Bg8,getElem?_set_ne→Bg9,drop_length→Fq0,drop_set_of_lt→Iw8,map_mergeSort→Kr4,findIdx?_cons→Kr5,count_eq_zero→Kr6
open Nat renaming le_refl→Ac,mul_le_mul_right→Bz,add_mul→Ck,zero_le→Cg,le_trans→Df,add_zero→D3,min_eq_left→N1,add_sub_cancel→Xd,sub_self→Fk8,add_comm→Fk9
set_option maxHeartbeats 1000000
set_option linter.unusedVariables false
set_option linter.unusedSimpArgs false
namespace Go.X.G
open Go Go.X
def Ip1 (t:Int) (d:Dat):Int×List UInt8:=if Dc t d=true then (0,Iy t d) else (1,[])
abbrev ltD:Int×List UInt8→Int×List UInt8→Prop:=fun p q=>p.1<q.1∨(p.1=q.1∧ltB p.2 q.2)
theorem Mv2:TO ltD:=Jd2.prod Fk3
theorem Gk1 (t:Int) (a b:Dat):Dj2 t a b<0↔ltD (Ip1 t a) (Ip1 t b):=by
 unfold Dj2 Ip1 ltD
 rcases Ak (Dc t a) with h1|h1<;>rcases Ak (Dc t b) with h2|h2<;>simp [h1,h2,R7,Fk3.irr]
theorem Dj1 (t:Int) (a b:Dat):Dj2 t a b=0↔Ip1 t a=Ip1 t b:=by
 unfold Dj2 Ip1
 rcases Ak (Dc t a) with h1|h1<;>rcases Ak (Dc t b) with h2|h2<;>simp [h1,h2,I5]
abbrev Kn8:=List UInt8×Int×Int×List UInt8
abbrev ltF:Kn8→Kn8→Prop:=fun p q=>ltN p.1 q.1∨(p.1=q.1∧(p.2.1<q.2.1∨(p.2.1=q.2.1∧ltD p.2.2 q.2.2)))
theorem to_F:TO ltF:=to_N.prod (Jd2.prod Mv2)
def F2 (r:Rec):Kn8:=(r.name,r.typ,Ip1 r.typ r.data)
theorem Zp (a b:Rec):Nt a b<0↔ltF (F2 a) (F2 b):=by
 unfold Nt ltF F2
 simp only
 by_cases h1:Iw a.name b.name=0
 ·rw [if_neg (by simp [h1])]
  have e1:=H0.1 h1
  have n1:¬ltN a.name b.name:=by rw [e1];exact to_N.irr _
  by_cases h2:jp a.typ b.typ=0
  ·rw [if_neg (by simp [h2])]
   have e2:=(H1 _ _).1 h2
   rw [e2,Gk1]
   constructor
   ·intro h;exact .inr ⟨e1,.inr ⟨rfl,h⟩⟩
   ·rintro (h|⟨_,h|⟨_,h⟩⟩)
    ·exact absurd h n1
    ·omega
    ·exact h
  ·rw [if_pos h2,Zn]
   have e2:a.typ≠b.typ:=fun e=>h2 ((H1 _ _).2 e)
   constructor
   ·intro h;exact .inr ⟨e1,.inl h⟩
   ·rintro (h|⟨_,h|⟨h,_⟩⟩)
    ·exact absurd h n1
    ·exact h
    ·exact absurd h e2
 ·rw [if_pos h1,E4]
  have e1:a.name≠b.name:=fun e=>h1 (H0.2 e)
  constructor
  ·intro h;exact .inl h
  ·rintro (h|⟨h,_⟩)
   ·exact h
   ·exact absurd h e1
theorem Mn (a b:Rec):Nt a b=0↔F2 a=F2 b:=by
 unfold Nt F2
 by_cases h1:Iw a.name b.name=0
 ·rw [if_neg (by simp [h1])]
  have e1:=H0.1 h1
  by_cases h2:jp a.typ b.typ=0
  ·rw [if_neg (by simp [h2])]
   have e2:=(H1 _ _).1 h2
   rw [e2,Dj1]
   simp [e1]
  ·rw [if_pos h2]
   have e2:a.typ≠b.typ:=fun e=>h2 ((H1 _ _).2 e)
   constructor
   ·intro h;exact absurd h h2
   ·intro h;injection h with _ h;injection h with h _;exact absurd h e2
 ·rw [if_pos h1]
  have e1:a.name≠b.name:=fun e=>h1 (H0.2 e)
  constructor
  ·intro h;exact absurd h h1
  ·intro h;injection h with h _;exact absurd h e1
def Ip7 (a b:Rec):Int:=if Nt a b≠0 then Nt a b else jp a.ttl b.ttl
abbrev ltT:Kn8×Int→Kn8×Int→Prop:=fun p q=>ltF p.1 q.1∨(p.1=q.1∧p.2<q.2)
theorem to_T:TO ltT:=to_F.prod Jd2
theorem Gk0 (a b:Rec):Ip7 a b<0↔ltT (F2 a,a.ttl) (F2 b,b.ttl):=by
 unfold Ip7
 by_cases h:Nt a b=0
 ·have e:=(Mn a b).1 h
  rw [if_neg (by simp [h]),Zn]
  simp only [ltT,e,true_and]
  exact ⟨.inr,fun q=>q.resolve_left (to_F.irr _)⟩
 ·rw [if_pos h,Zp]
  have e:F2 a≠F2 b:=fun e=>h ((Mn a b).2 e)
  simp only [ltT,e,false_and,or_false]
def leR (a b:Rec):Bool:= !decide (Ip7 b a<0)
theorem Nh (a b:Rec):leR a b=true↔¬ltT (F2 b,b.ttl) (F2 a,a.ttl):=by
 unfold leR;simp [←Gk0]
theorem Jd1:TP leR where
 tr:=fun a b c h1 h2=>by
  rw [Nh] at*
  exact to_T.ntr h2 h1
 tot:=fun a b=>by
  simp only [Nh]
  rcases to_T.tri (F2 a,a.ttl) (F2 b,b.ttl) with h|h|h
  ·exact .inl (to_T.asym h)
  ·rw [h];exact .inl (to_T.irr _)
  ·exact .inr (to_T.asym h)
theorem Cs1 (a b:Rec):eqv leR a b=true↔F2 a=F2 b∧a.ttl=b.ttl:=by
 unfold eqv
 rw [Av,Nh,Nh]
 constructor
 ·rintro ⟨h1,h2⟩
  rcases to_T.tri (F2 a,a.ttl) (F2 b,b.ttl) with h|h|h
  ·exact absurd h h2
  ·injection h with h3 h4;exact ⟨h3,h4⟩
  ·exact absurd h h1
 ·rintro ⟨h1,h2⟩
  rw [h1,h2];exact ⟨to_T.irr _,to_T.irr _⟩
theorem Yv {α:Type} {P:List α→Prop} (h0:P []) (h1:∀l x,P l→P (l++[x])):∀(n:Nat) (l:List α),l.length=n→P l
 |0,l,h=>by rw [Bw h];exact h0
 |n+1,l,h=>by
  have hne:l≠[]:=fun e=>by rw [e] at h;simp at h
  rw [←List.dropLast_concat_getLast hne]
  exact h1 _ _ (Yv h0 h1 n _ (by rw [List.length_dropLast];omega))
def Iw7 (l:List Rec) (z:Rec):Prop:=∃l1 l2,l=l1++z::l2∧(∀y∈l1,F2 y=F2 z→z.ttl<y.ttl)∧∀y∈l2,F2 y=F2 z→z.ttl≤y.ttl
theorem Iw7.mem {l:List Rec} {z:Rec} (h:Iw7 l z):z∈l:=by
 obtain ⟨l1,l2,rfl,_⟩:=h;simp
theorem I6 (l:List Rec) (x z:Rec):Iw7 (l++[x]) z↔(z=x∧∀y∈l,F2 y=F2 x→x.ttl<y.ttl)∨(Iw7 l z∧(F2 z=F2 x→z.ttl≤x.ttl)):=by
 constructor
 ·rintro ⟨l1,l2,h,h1,h2⟩
  rcases List.eq_nil_or_concat l2 with rfl|⟨l3,w,rfl⟩
  ·obtain ⟨q1,q2⟩:=List.append_inj' h rfl
   injection q2 with q2 _
   subst q1;subst q2
   exact .inl ⟨rfl,h1⟩
  ·rw [List.concat_eq_append,←B3,←Ap] at h
   obtain ⟨q1,q2⟩:=List.append_inj' h rfl
   injection q2 with q2 _
   subst q1;subst q2
   refine .inr ⟨⟨l1,l3,rfl,h1,fun y hy=>h2 y (by simp [hy])⟩,fun e=>h2 x (by simp) e.symm⟩
 ·rintro (⟨rfl,h⟩|⟨⟨l1,l2,rfl,h1,h2⟩,h⟩)
  ·exact ⟨l,[],rfl,h,fun y hy=>by simp at hy⟩
  ·refine ⟨l1,l2++[x],by simp,h1,fun y hy e=> ?_⟩
   rcases Br.1 hy with hy|hy
   ·exact h2 y hy e
   ·have:y=x:=by simpa using hy
    subst this
    exact h e.symm
theorem Jv0 (l:List Rec):∀y∈l,∃z,Iw7 l z∧F2 z=F2 y∧z.ttl≤y.ttl:=by
 refine Yv (P:=fun l=>∀y∈l,∃z,Iw7 l z∧F2 z=F2 y∧z.ttl≤y.ttl) ?_ ?_ _ l rfl
 ·intro y h;simp at h
 ·intro l x ih y hy
  by_cases hx:∀w∈l,F2 w=F2 x→x.ttl<w.ttl
  ·rcases Br.1 hy with hy|hy
   ·obtain ⟨z,h1,h2,h3⟩:=ih y hy
    by_cases e:F2 z=F2 x∧x.ttl<z.ttl
    ·exact ⟨x,(I6 l x x).2 (.inl ⟨rfl,hx⟩),by rw [←e.1,h2],by have:=e.2;omega⟩
    ·exact ⟨z,(I6 l x z).2 (.inr ⟨h1,fun q=>Int.le_of_not_gt fun r=>e ⟨q,r⟩⟩),h2,h3⟩
   ·have:y=x:=by simpa using hy
    subst this
    exact ⟨y,(I6 l y y).2 (.inl ⟨rfl,hx⟩),rfl,Mq6 _⟩
  ·have:∃w∈l,F2 w=F2 x∧w.ttl≤x.ttl:=by
    apply Classical.byContradiction
    intro h
    exact hx fun w hw e=>Int.lt_of_not_ge fun q=>h ⟨w,hw,e,q⟩
   obtain ⟨w,hw,hw1,hw2⟩:=this
   obtain ⟨z,h1,h2,h3⟩:=ih w hw
   rcases Br.1 hy with hy|hy
   ·obtain ⟨z',g1,g2,g3⟩:=ih y hy
    by_cases e:F2 z'=F2 x∧x.ttl<z'.ttl
    ·exact ⟨z,(I6 l x z).2 (.inr ⟨h1,fun _=>by omega⟩),by rw [h2,hw1,←e.1,g2],by have:=e.2;omega⟩
    ·exact ⟨z',(I6 l x z').2 (.inr ⟨g1,fun q=>Int.le_of_not_gt fun r=>e ⟨q,r⟩⟩),g2,g3⟩
   ·have:y=x:=by simpa using hy
    subst this
    exact ⟨z,(I6 l y z).2 (.inr ⟨h1,fun _=>by omega⟩),by rw [h2,hw1],by omega⟩
abbrev Gy4 (l:List Rec):Prop:=l.Pairwise fun a b=>ltF (F2 a) (F2 b)
theorem Cp7 (x:Rec):∀(l:List Rec),Gy4 l→(Gy4 (Tt x l)∧∀z,z∈Tt x l↔(z=x∧∀y∈l,F2 y=F2 x→x.ttl<y.ttl)∨(z∈l∧(F2 z=F2 x→z.ttl≤x.ttl)))
 |[],_=>by simp [Tt]
 |y::r,h=>by
  obtain ⟨h1,h2⟩:=As.1 h
  obtain ⟨i1,i2⟩:=Cp7 x r h2
  simp only [Tt]
  by_cases c:Nt y x<0
  ·rw [if_pos c]
   have c':=(Zp y x).1 c
   have ne:F2 y≠F2 x:=fun e=>to_F.irr _ (by rw [e] at c';exact c')
   refine ⟨As.2 ⟨fun w hw=> ?_,i1⟩,fun z=> ?_⟩
   ·rcases (i2 w).1 hw with ⟨rfl,_⟩|⟨hw,_⟩
    ·exact c'
    ·exact h1 w hw
   ·rw [Ag,i2]
    simp only [Ag,forall_eq_or_imp,ne,false_implies,true_and]
    constructor
    ·rintro (rfl|h|⟨h,h'⟩)
     ·exact .inr ⟨.inl rfl,fun e=>absurd e ne⟩
     ·exact .inl h
     ·exact .inr ⟨.inr h,h'⟩
    ·rintro (h|⟨rfl|h,h'⟩)
     ·exact .inr (.inl h)
     ·exact .inl rfl
     ·exact .inr (.inr ⟨h,h'⟩)
  ·rw [if_neg c]
   by_cases e:Nt y x=0
   ·have ke:=(Mn y x).1 e
    have hr:∀w∈r,F2 w≠F2 x:=fun w hw q=>to_F.irr (F2 y) (by have:=h1 w hw;rw [q,←ke] at this;exact this)
    rw [if_pos e]
    by_cases t:x.ttl<y.ttl
    ·rw [if_pos t]
     refine ⟨As.2 ⟨fun w hw=>by rw [←ke];exact h1 w hw,h2⟩,fun z=> ?_⟩
     simp only [Ag,forall_eq_or_imp,ke,t,true_implies,true_and]
     constructor
     ·rintro (rfl|h)
      ·exact .inl ⟨rfl,fun w hw q=>absurd q (hr w hw)⟩
      ·exact .inr ⟨.inr h,fun q=>absurd q (hr z h)⟩
     ·rintro (⟨h,_⟩|⟨rfl|h,h'⟩)
      ·exact .inl h
      ·have:=h' ke;omega
      ·exact .inr h
    ·rw [if_neg t]
     refine ⟨h,fun z=> ?_⟩
     simp only [Ag,forall_eq_or_imp,ke,t,false_and,and_false,false_or,forall_const,true_implies]
     constructor
     ·rintro (rfl|h)
      ·exact ⟨.inl rfl,fun _=>by omega⟩
      ·exact ⟨.inr h,fun q=>absurd q (hr z h)⟩
     ·exact fun h=>h.1
   ·rw [if_neg e]
    have hxy:ltF (F2 x) (F2 y):=by
     rcases to_F.tri (F2 x) (F2 y) with q|q|q
     ·exact q
     ·exact absurd ((Mn y x).2 q.symm) e
     ·exact absurd ((Zp y x).2 q) c
    have hall:∀w∈y::r,ltF (F2 x) (F2 w):=fun w hw=>by
     rcases Ag.1 hw with rfl|hw
     ·exact hxy
     ·exact to_F.tr _ _ _ hxy (h1 w hw)
    have hne:∀w∈y::r,F2 w≠F2 x:=fun w hw q=>to_F.irr _ (by have:=hall w hw;rw [q] at this;exact this)
    refine ⟨As.2 ⟨hall,h⟩,fun z=> ?_⟩
    rw [Ag]
    constructor
    ·rintro (rfl|h)
     ·exact .inl ⟨rfl,fun w hw q=>absurd q (hne w hw)⟩
     ·exact .inr ⟨h,fun q=>absurd q (hne z h)⟩
    ·rintro (⟨h,_⟩|⟨h,_⟩)
     ·exact .inl h
     ·exact .inr h
theorem V2 (l:List Rec):Gy4 (sortR l)∧∀z,z∈sortR l↔Iw7 l z:=by
 refine Yv (P:=fun l=>Gy4 (sortR l)∧∀z,z∈sortR l↔Iw7 l z) ?_ ?_ _ l rfl
 ·refine ⟨List.Pairwise.nil,fun z=>⟨fun h=>by simp [sortR] at h,fun h=>by have:=h.mem;simp at this⟩⟩
 ·intro l x ih
  have e:sortR (l++[x])=Tt x (sortR l):=by simp [sortR]
  obtain ⟨i1,i2⟩:=Cp7 x (sortR l) ih.1
  rw [e]
  refine ⟨i1,fun z=> ?_⟩
  rw [i2,I6,ih.2]
  have:(∀y∈sortR l,F2 y=F2 x→x.ttl<y.ttl)↔∀y∈l,F2 y=F2 x→x.ttl<y.ttl:=by
   constructor
   ·intro h y hy q
    obtain ⟨w,w1,w2,w3⟩:=Jv0 l y hy
    have:=h w ((ih.2 w).2 w1) (by rw [w2,q])
    omega
   ·intro h y hy q
    exact h y ((ih.2 y).1 hy).mem q
  rw [this]
theorem Bs2:∀(a b:List Rec),Gy4 a→Gy4 b→(∀x,x∈a↔x∈b)→a=b
 |[],[],_,_,_=>rfl
 |[],y::b,_,_,h=>absurd ((h y).2 (.head _)) (by simp)
 |x::a,[],_,_,h=>absurd ((h x).1 (.head _)) (by simp)
 |x::a,y::b,ha,hb,h=>by
  have ha':=As.1 ha
  have hb':=As.1 hb
  have hxy:x=y:=by
   rcases Ag.1 ((h x).1 (.head _)) with h1|h1
   ·exact h1
   ·rcases Ag.1 ((h y).2 (.head _)) with h2|h2
    ·exact h2.symm
    ·exact absurd (hb'.1 x h1) (to_F.asym (ha'.1 y h2))
  subst hxy
  rw [Bs2 a b ha'.2 hb'.2 fun z=> ?_]
  constructor
  ·intro hz
   rcases Ag.1 ((h z).1 (.tail _ hz)) with rfl|h1
   ·exact absurd (ha'.1 z hz) (to_F.irr _)
   ·exact h1
  ·intro hz
   rcases Ag.1 ((h z).2 (.tail _ hz)) with rfl|h1
   ·exact absurd (hb'.1 z hz) (to_F.irr _)
   ·exact h1
abbrev eqF:Rec→Rec→Bool:=fun a b=>decide (Nt a b=0)
theorem Gg4:∀(r:List Rec) (p:Rec),(p::r).Pairwise (fun a b=>leR a b=true)→(Gy4 (p::Rx eqF p r)∧∀z,z∈Rx eqF p r↔∃s1 s2,r=s1++z::s2∧∀y∈p::s1,F2 y≠F2 z)
 |[],p,_=>by simp [Rx]
 |c::r,p,h=>by
  obtain ⟨h1,h2⟩:=As.1 h
  obtain ⟨i1,i2⟩:=Gg4 r c h2
  have hpc:=(Nh p c).1 (h1 c (.head _))
  simp only [Rx]
  by_cases e:Nt c p=0
  ·rw [if_pos (by simp [e])]
   have ke:=(Mn c p).1 e
   refine ⟨?_,fun z=> ?_⟩
   ·obtain ⟨j1,j2⟩:=As.1 i1
    exact As.2 ⟨fun w hw=>by rw [←ke];exact j1 w hw,j2⟩
   ·rw [i2]
    constructor
    ·rintro ⟨s1,s2,rfl,q⟩
     refine ⟨c::s1,s2,rfl,fun y hy=> ?_⟩
     rcases Ag.1 hy with rfl|hy
     ·rw [←ke];exact q c (.head _)
     ·exact q y hy
    ·rintro ⟨s1,s2,h,q⟩
     cases s1 with
     |nil=>
      injection h with h _
      subst h
      exact absurd ke.symm (q p (.head _))
     |cons w s1=>
      injection h with h h'
      subst h
      exact ⟨s1,s2,h',fun y hy=>q y (.tail _ hy)⟩
  ·rw [if_neg (by simp [e])]
   have ne:F2 c≠F2 p:=fun q=>e ((Mn c p).2 q)
   have hlt:ltF (F2 p) (F2 c):=by
    rcases to_F.tri (F2 p) (F2 c) with q|q|q
    ·exact q
    ·exact absurd q.symm ne
    ·exact absurd (.inl q) hpc
   obtain ⟨j1,j2⟩:=As.1 i1
   refine ⟨As.2 ⟨fun w hw=> ?_,i1⟩,fun z=> ?_⟩
   ·rcases Ag.1 hw with rfl|hw
    ·exact hlt
    ·exact to_F.tr _ _ _ hlt (j1 w hw)
   ·rw [Ag]
    constructor
    ·rintro (rfl|hz)
     ·exact ⟨[],r,rfl,fun y hy=>by have:y=p:=by simpa using hy
                                   subst this;exact ne.symm⟩
     ·obtain ⟨s1,s2,rfl,q⟩:=(i2 z).1 hz
      refine ⟨c::s1,s2,rfl,fun y hy=> ?_⟩
      rcases Ag.1 hy with rfl|hy
      ·intro q2
       exact to_F.irr _ (by have:=to_F.tr _ _ _ hlt (j1 z hz);rw [q2] at this;exact this)
      ·exact q y hy
    ·rintro ⟨s1,s2,h,q⟩
     cases s1 with
     |nil=>injection h with h _;exact .inl h.symm
     |cons w s1=>
      injection h with h h'
      subst h
      exact .inr ((i2 z).2 ⟨s1,s2,h',fun y hy=>q y (.tail _ hy)⟩)
theorem Mq0 (s:List Rec) (h:s.Pairwise fun a b=>leR a b=true):Gy4 (cpt eqF s)∧∀z,z∈cpt eqF s↔∃s1 s2,s=s1++z::s2∧∀y∈s1,F2 y≠F2 z:=by
 cases s with
 |nil=>simp [cpt]
 |cons p r=>
  obtain ⟨i1,i2⟩:=Gg4 r p h
  refine ⟨i1,fun z=> ?_⟩
  show z∈p::Rx eqF p r↔_
  rw [Ag,i2]
  constructor
  ·rintro (rfl|⟨s1,s2,rfl,q⟩)
   ·exact ⟨[],r,rfl,by simp⟩
   ·exact ⟨p::s1,s2,rfl,q⟩
  ·rintro ⟨s1,s2,h,q⟩
   cases s1 with
   |nil=>injection h with h _;exact .inl h.symm
   |cons w s1=>
    injection h with h h'
    subst h
    exact .inr ⟨s1,s2,h',q⟩
theorem Yq {s l:List Rec} (h:Stab leR s l):cpt eqF s=sortR l:=by
 obtain ⟨i1,i2⟩:=Mq0 s h.sorted
 obtain ⟨j1,j2⟩:=V2 l
 refine Bs2 _ _ i1 j1 fun z=> ?_
 rw [i2,j2]
 have hz:eqv leR z z=true:=(Cs1 z z).2 ⟨rfl,rfl⟩
 have hm:=h.mem Jd1
 constructor
 ·rintro ⟨s1,s2,rfl,q⟩
  have hs1:s1.filter (eqv leR z)=[]:=by
   rw [Ec]
   intro y hy hyz
   exact q y hy ((Cs1 z y).1 hyz).1.symm
  have hc:=h.cls z
  rw [Ed,hs1,Cv,D9 hz] at hc
  obtain ⟨l1,l2,rfl,g1,_,_⟩:=List.filter_eq_cons_iff.1 hc.symm
  have key:∀y,y∈l1++z::l2→F2 y=F2 z→z.ttl≤y.ttl:=fun y hy e=>by
   rcases Br.1 ((hm y).2 hy) with w|w
   ·exact absurd e (q y w)
   ·rcases Ag.1 w with rfl|w
    ·exact Mq6 _
    ·have:=(Nh z y).1 ((As.1 (E8.1 h.sorted).2.1).1 y w)
     exact Int.le_of_not_gt fun t=>this (.inr ⟨e,t⟩)
  refine ⟨l1,l2,rfl,fun y hy e=> ?_,fun y hy e=>key y (by simp [hy]) e⟩
  have k1:=key y (by simp [hy]) e
  have k2:=g1 y hy
  rw [Cs1] at k2
  have:z.ttl≠y.ttl:=fun t=>k2 ⟨e.symm,t⟩
  omega
 ·rintro ⟨l1,l2,rfl,q1,q2⟩
  have hl1:l1.filter (eqv leR z)=[]:=by
   rw [Ec]
   intro y hy hyz
   obtain ⟨a,b⟩:=(Cs1 z y).1 hyz
   have:=q1 y hy a.symm
   omega
  have hc:=h.cls z
  rw [Ed,hl1,Cv,D9 hz] at hc
  obtain ⟨s1,s2,rfl,g1,_,_⟩:=List.filter_eq_cons_iff.1 hc
  refine ⟨s1,s2,rfl,fun y hy e=> ?_⟩
  have k1:=(Nh y z).1 ((E8.1 h.sorted).2.2 y hy z (by simp))
  have k2:¬z.ttl<y.ttl:=fun t=>k1 (.inr ⟨e.symm,t⟩)
  have k3:z.ttl≤y.ttl:=by
   rcases Br.1 ((hm y).1 (by simp [hy])) with w|w
   ·have:=q1 y w e;omega
   ·rcases Ag.1 w with rfl|w
    ·exact Mq6 _
    ·exact q2 y w e
  exact g1 y hy ((Cs1 z y).2 ⟨e.symm,by omega⟩)
end Go.X.G
/- Merging in place, in plain words: where two sorted lists may be cut. -/
namespace Go.X.G
open Go Go.X
theorem Mw {α:Type} {le:α→α→Bool} (ht:TP le) {l:List α} (h:l.Pairwise fun x y=>le x y=true) {i j:Nat} {x y:α} (hij:i≤j) (hi:l[i]? =some x) (hj:l[j]? =some y):le x y=true:=by
 rcases Nat.lt_or_eq_of_le hij with h1|h1
 ·obtain ⟨a1,a2⟩:=Aq.1 hi
  obtain ⟨b1,b2⟩:=Aq.1 hj
  have:=Nq.1 h i j a1 b1 h1
  rw [a2,b2] at this
  exact this
 ·subst h1
  rw [hi] at hj
  injection hj with hj
  subst hj
  exact ht.refl x
theorem Tc {α:Type} {le:α→α→Bool} (ht:TP le) {A B:List α} (hA:A.Pairwise fun x y=>le x y=true) (hB:B.Pairwise fun x y=>le x y=true) (i j:Nat)
  (h1:∀x y,i≠0→A[i - 1]? =some x→B[j]? =some y→le x y=true) (h2:∀x y,j≠0→A[i]? =some x→B[j - 1]? =some y→le x y=false) (hi:i≤A.length) (hj:j≤B.length):
  mrg le A B=mrg le (A.take i) (B.take j)++mrg le (A.drop i) (B.drop j):=by
 conv=>lhs;rw [←Bl i A,←Bl j B]
 refine Lf le _ _ _ _ (fun x hx y hy=> ?_) (fun x hx y hy=> ?_)
 ·obtain ⟨p,hp⟩:=C7 hx
  obtain ⟨q,hq⟩:=C7 hy
  have hpl:p<i:=by
   have:=(Aq.1 hp).1
   rw [Al] at this;omega
  rw [List.getElem?_take_of_lt hpl] at hp
  rw [A6] at hq
  have hql:=(Aq.1 hq).1
  have a1:A[i - 1]? =some A[i - 1]:=Ax (by omega)
  have b1:B[j]? =some B[j]:=Ax (by omega)
  have s1:=Mw ht hA (i:=p) (j:=i - 1) (by omega) hp a1
  have s2:=Mw ht hB (i:=j) (j:=j+q) (by omega) b1 hq
  exact ht.tr _ _ _ s1 (ht.tr _ _ _ (h1 _ _ (by omega) a1 b1) s2)
 ·obtain ⟨p,hp⟩:=C7 hx
  obtain ⟨q,hq⟩:=C7 hy
  rw [A6] at hp
  have hpl:=(Aq.1 hp).1
  have hql:q<j:=by
   have:=(Aq.1 hq).1
   rw [Al] at this;omega
  rw [List.getElem?_take_of_lt hql] at hq
  have a1:A[i]? =some A[i]:=Ax (by omega)
  have b1:B[j - 1]? =some B[j - 1]:=Ax (by omega)
  have s1:=Mw ht hA (i:=i) (j:=i+p) (by omega) a1 hp
  have s2:=Mw ht hB (i:=q) (j:=j - 1) (by omega) hq b1
  rcases Ak (le x y) with q1|q1
  ·have:=h2 _ _ (by omega) a1 b1
   rw [ht.tr _ _ _ s1 (ht.tr _ _ _ q1 s2)] at this
   cases this
  ·exact q1
end Go.X.G
/- Rows of records that are turned in place: swaps and rotations. -/
namespace Go.X.G
open Go Go.X
def sl {α:Type} (s:List α) (i j:Nat):List α:=(s.take j).drop i
def swapR {α:Type} (s:List α) (a b:Nat):Nat→List α
 |0=>s
 |k+1=>match s[a+k]?,s[b+k]? with
  |some x,some y=>(swapR s a b k|>.set (a+k) y).set (b+k) x
  |_,_=>swapR s a b k
theorem Oy {α:Type} (s:List α) (a b:Nat):∀k,(swapR s a b k).length=s.length
 |0=>rfl
 |k+1=>by
  unfold swapR
  split
  ·simp [Oy s a b k]
  ·exact Oy s a b k
theorem Oz {α:Type} (s:List α) (a b:Nat):∀(k i:Nat),a+k≤b→b+k≤s.length→
  (swapR s a b k)[i]? =if a≤i∧i<a+k then s[i - a+b]? else if b≤i∧i<b+k then s[i - b+a]? else s[i]?
 |0,i,_,_=>by
  unfold swapR
  rw [if_neg (by omega),if_neg (by omega)]
 |k+1,i,h1,h2=>by
  have ih:=Oz s a b k i (by omega) (by omega)
  have hl:=Oy s a b k
  unfold swapR
  have ha:s[a+k]? =some s[a+k]:=Ax (by omega)
  have hb:s[b+k]? =some s[b+k]:=Ax (by omega)
  rw [ha,hb]
  simp only
  rw [Dj,Dj]
  by_cases e1:b+k=i
  ·subst e1
   rw [if_pos rfl,if_pos (by rw [Jl,hl];omega),if_neg (by omega),if_pos (by omega),show b+k - b+a=a+k by omega,ha]
  ·rw [if_neg e1]
   by_cases e2:a+k=i
   ·subst e2
    rw [if_pos rfl,if_pos (by rw [hl];omega),if_pos (by omega),show a+k - a+b=b+k by omega,hb]
   ·rw [if_neg e2,ih]
    by_cases c1:a≤i∧i<a+k
    ·rw [if_pos c1,if_pos (by omega)]
    ·by_cases c2:b≤i∧i<b+k
     ·rw [if_neg c1,if_pos c2,if_neg (show¬(a≤i∧i<a+(k+1)) by omega),if_pos (show b≤i∧i<b+(k+1) by omega)]
     ·rw [if_neg c1,if_neg c2,if_neg (show¬(a≤i∧i<a+(k+1)) by omega),if_neg (show¬(b≤i∧i<b+(k+1)) by omega)]
end Go.X.G
/- Rotations, in plain words. -/
namespace Go.X.G
open Go Go.X
theorem Bp0 {α:Type} (X A M B Y:List α) (h:A.length=B.length):swapR (X++A++M++B++Y) X.length (X.length+A.length+M.length) A.length=X++B++M++A++Y:=by
 apply List.ext_getElem?
 intro i
 rw [Oz _ _ _ _ _ (by omega) (by simp;omega)]
 simp only [List.getElem?_append,Az]
 repeat' split
 all_goals first
  |(exfalso;omega)
  |rfl
  |(congr 1;omega)
end Go.X.G
/- Rows of records that are turned in place: the library's functions. -/
namespace Go.X.G
open Go Go.X
theorem cg (s:List Rec) (a b n:Nat) (g:Nat) (caps:List PV) (h1:a+n≤b) (h2:b+n≤s.length) (hs:s.length≤1000000):S Qr 1048581 [Ad s,.i .i64 (a:Int),.i .i64 (b:Int),.i .i64 (n:Int),.f g caps]=some [Ad (swapR s a b n)]:=by
 refine Jh1 (N:=n+1) rfl ?_
 have key:Cm0.ev S (n+1) [Ad s,.i .i64 (a:Int),.i .i64 (b:Int),.i .i64 (n:Int),.f g caps]=some (.yld 0 [Ad (swapR s a b n)]):=by
  refine Ev n (fun i=>[.i .i64 (i:Int),Ad (swapR s a b i)]) (fun _=> .yld 0 [Ad (swapR s a b n)]) (by simp (disch:=omega) only [swapR,EVT,EVM,EVC,xe,EVP,↓reduceIte,EV,Nat.reduceAdd,Nat.reduceEqDiff,Int.reduceToNat,reduceCtorEq]) (by omega) (fun i hi=> ?_) ?_
  ·left
   refine ⟨?_,rfl⟩
   have hl:=Oy s a b i
   have ga:=Oz s a b i (a+i) (by omega) (by omega)
   have gb:=Oz s a b i (b+i) (by omega) (by omega)
   rw [if_neg (by omega),if_neg (by omega)] at ga gb
   have ha:s[a+i]? =some s[a+i]:=Ax (by omega)
   have hb:s[b+i]? =some s[b+i]:=Ax (by omega)
   rw [ha] at ga
   rw [hb] at gb
   have e:swapR s a b (i+1)=((swapR s a b i).set (a+i) s[b+i]).set (b+i) s[a+i]:=by
    conv=>lhs;unfold swapR
    rw [ha,hb]
   rw [e]
   generalize s[a+i]=x at*
   generalize s[b+i]=y at*
   generalize swapR s a b i=t at*
   have ti1:((a:Int)+(i:Int)).toNat=a+i:=by omega
   have ti2:((b:Int)+(i:Int)).toNat=b+i:=by omega
   have g3:(t.set (a+i) y)[b+i]? =some y:=by rw [Bg9 (by omega)];exact gb
   have hlt:(t.set (a+i) y).length=s.length:=by rw [Jl,hl]
   simp (disch:=first|omega|(rw [Jl];omega)) only [Bl6,ti1,ti2,ga,gb,g3,EVT,EVM,EVC,xe,EVP,↓reduceIte,EV,Nat.reduceAdd,Nat.reduceEqDiff,Int.reduceToNat,reduceCtorEq]
  ·refine ⟨?_,rfl⟩
   simp (disch:=omega) only [Bl6,EVT,EVM,EVC,xe,EVP,↓reduceIte,EV,Nat.reduceAdd,Nat.reduceEqDiff,Int.reduceToNat,reduceCtorEq]
 simp (disch:=omega) only [Bl6,key,EVT,EVM,EVC,xe,EVP,↓reduceIte,EV,Nat.reduceAdd,Nat.reduceEqDiff,Int.reduceToNat,reduceCtorEq]
end Go.X.G
/- Rotations: the library's function. -/
namespace Go.X.G
open Go Go.X
theorem Kk (X A M B Y:List Rec) (a b n:Int) (g:Nat) (caps:List PV) (ha:a=X.length) (hb:b=X.length+A.length+M.length) (hn:n=A.length) (h:A.length=B.length) (hs:(X++A++M++B++Y).length≤1000000):S Qr 1048581 [Ad (X++A++M++B++Y),.i .i64 a,.i .i64 b,.i .i64 n,.f g caps]=some [Ad (X++B++M++A++Y)]:=by
 subst ha;subst hn
 have h1:=cg (X++A++M++B++Y) X.length (X.length+A.length+M.length) A.length g caps (by omega) (by simp only [Az];omega) hs
 rw [Bp0 X A M B Y h] at h1
 rw [hb]
 simpa using h1
theorem Bs0 (X A B Y:List Rec) (a m b:Int) (g:Nat) (caps:List PV) (ha:a=X.length) (hm:m=X.length+A.length) (hb:b=X.length+A.length+B.length) (hA:A≠[]) (hB:B≠[]) (hs:(X++A++B++Y).length≤1000000):
  S ff 1048581 [Ad (X++A++B++Y),.i .i64 a,.i .i64 m,.i .i64 b,.f g caps]=some [Ad (X++B++A++Y)]:=by
 have hA':0<A.length:=Bv.2 hA
 have hB':0<B.length:=Bv.2 hB
 have hs2:=hs
 simp only [Az] at hs2
 refine Jl3 (N:=(X++A++B++Y).length+1) rfl ?_
 have key:=G4 (fn:=S) (N:=(X++A++B++Y).length+1) (η:=[Ad (X++A++B++Y),.i .i64 a,.i .i64 m,.i .i64 b,.f g caps]) (id:=1) (init:=[.bin .sub (.v 2) (.v 1),.bin .sub (.v 3) (.v 2),.v 0]) (body:=tv) (α:=List Rec×List Rec×List Rec×List Rec)
  (fun x=>[.i .i64 (x.2.1.length:Int),.i .i64 (x.2.2.1.length:Int),Ad (x.1++x.2.1++x.2.2.1++x.2.2.2)])
  (fun o=>∃X' A' B' Y':List Rec,o= .yld 0 [.i .i64 (A'.length:Int),Ad (X'++A'++B'++Y')]∧A'.length=B'.length∧(X'.length:Int)+A'.length=m∧X'++B'++A'++Y'=X++B++A++Y∧(X'++A'++B'++Y').length≤1000000)
  (fun x=>0<x.2.1.length∧0<x.2.2.1.length∧(x.1.length:Int)+x.2.1.length=m∧x.1++x.2.2.1++x.2.1++x.2.2.2=X++B++A++Y)
  (fun x=>x.2.1.length+x.2.2.1.length) (X,A,B,Y) ?_ ⟨hA',hB',by simp only;omega,rfl⟩ (by simp only [Az];omega) ?_
 ·obtain ⟨o,ho,X',A',B',Y',rfl,e1,e2,e3,e4⟩:=key
  have hsw:=Kk X' A' [] B' Y' (m - A'.length) m A'.length g caps (by omega) (by simp;omega) rfl e1 (by simpa using e4)
  simp only [D2] at hsw
  rw [e3] at hsw
  have ht:Cm5.ev S ((X++A++B++Y).length+1) [Ad (X++A++B++Y),.i .i64 a,.i .i64 m,.i .i64 b,.f g caps]=_:=ho
  have hl:(X'++A'++B'++Y').length=(X++B++A++Y).length:=by rw [←e3];simp only [Az];omega
  have hl2:A'.length≤1000000:=by simp only [Az] at e4;omega
  generalize X'++A'++B'++Y'=t at*
  generalize X++A++B++Y=s at*
  generalize X++B++A++Y=u at*
  simp (disch:=omega) only [um,ht,hsw,Ej,Lw,EVT,EVM,EVC,xe,EVP,↓reduceIte,EV,Nat.reduceAdd,Nat.reduceEqDiff,Int.reduceToNat,reduceCtorEq]
 ·generalize X++A++B++Y=s at*
  have e1:b - m=(B.length:Int):=by omega
  have e2:m - a=(A.length:Int):=by omega
  simp (disch:=omega) only [e1,e2,EVT,EVM,EVC,xe,EVP,↓reduceIte,EV,Nat.reduceAdd,Nat.reduceEqDiff,Int.reduceToNat,reduceCtorEq]
 ·rintro ⟨X',A',B',Y'⟩ ⟨h1,h2,h3,h4⟩
  simp only at h1 h2 h3 h4
  have hl:(X'++A'++B'++Y').length≤1000000:=by
   have:=congrArg List.length h4
   simp only [Az] at this ⊢;omega
  have hl':=hl
  simp only [Az] at hl'
  by_cases hij:A'.length=B'.length
  ·right
   refine ⟨.yld 0 [.i .i64 (A'.length:Int),Ad (X'++A'++B'++Y')],?_,rfl,X',A',B',Y',rfl,hij,h3,h4,hl⟩
   generalize X'++A'++B'++Y'=t at*
   generalize X++A++B++Y=s at*
   have hij':(A'.length:Int)=(B'.length:Int):=by omega
   simp (disch:=omega) only [um,hij',EVT,EVM,EVC,xe,EVP,↓reduceIte,EV,Nat.reduceAdd,Nat.reduceEqDiff,Int.reduceToNat,reduceCtorEq]
  ·left
   have hij':¬(A'.length:Int)=(B'.length:Int):=by omega
   by_cases hgt:B'.length<A'.length
   ·have hgt':(B'.length:Int)<(A'.length:Int):=by omega
    have eA:A'.take B'.length++A'.drop B'.length=A':=Bl _ _
    have l1:(A'.take B'.length).length=B'.length:=by rw [Al];omega
    have l2:(A'.drop B'.length).length=A'.length - B'.length:=Bt
    have hsw:=Kk X' (A'.take B'.length) (A'.drop B'.length) B' Y' (m - A'.length) m B'.length g caps (by omega) (by omega) (by omega) (by omega) (by rw [Ap X',eA];exact hl)
    rw [Ap X',eA] at hsw
    refine ⟨(X'++B',A'.drop B'.length,A'.take B'.length,Y'),?_,⟨by simp only;omega,by simp only;omega,by simp only [Az];omega,?_⟩,by simp only;omega⟩
    ·simp only
     rw [l1,l2]
     have e1:((A'.length - B'.length:Nat):Int)=(A'.length:Int) - (B'.length:Int):=by omega
     rw [e1]
     generalize X'++B'++A'.drop B'.length++A'.take B'.length++Y'=u at*
     generalize X'++A'++B'++Y'=t at*
     generalize X++A++B++Y=s at*
     simp (disch:=omega) only [um,hij',hgt',hsw,Ej,Lw,EVT,EVM,EVC,xe,EVP,↓reduceIte,EV,Nat.reduceAdd,Nat.reduceEqDiff,Int.reduceToNat,reduceCtorEq]
    ·simp only
     rw [←h4,Ap (X'++B'),eA]
   ·have hgt':¬(B'.length:Int)<(A'.length:Int):=by omega
    have eB:B'.take (B'.length - A'.length)++B'.drop (B'.length - A'.length)=B':=Bl _ _
    have l1:(B'.take (B'.length - A'.length)).length=B'.length - A'.length:=by rw [Al];omega
    have l2:(B'.drop (B'.length - A'.length)).length=A'.length:=by rw [Bt];omega
    have hsw:=Kk X' A' (B'.take (B'.length - A'.length)) (B'.drop (B'.length - A'.length)) Y' (m - A'.length) (m+B'.length - A'.length) A'.length g caps (by omega) (by omega) (by omega) (by omega) (by rw [Ap (X'++A'),eB];exact hl)
    rw [Ap (X'++A'),eB] at hsw
    have ea:X'++B'.drop (B'.length - A'.length)++B'.take (B'.length - A'.length)++A'++Y'=X'++B'.drop (B'.length - A'.length)++B'.take (B'.length - A'.length)++(A'++Y'):=by simp
    refine ⟨(X',B'.drop (B'.length - A'.length),B'.take (B'.length - A'.length),A'++Y'),?_,⟨by simp only;omega,by simp only;omega,by simp only;omega,?_⟩,by simp only;omega⟩
    ·simp only
     rw [l1,l2,←ea]
     have e1:((B'.length - A'.length:Nat):Int)=(B'.length:Int) - (A'.length:Int):=by omega
     rw [e1]
     generalize X'++B'.drop (B'.length - A'.length)++B'.take (B'.length - A'.length)++A'++Y'=u at*
     generalize X'++A'++B'++Y'=t at*
     generalize X++A++B++Y=s at*
     simp (disch:=omega) only [um,hij',hgt',hsw,Ej,Lw,EVT,EVM,EVC,xe,EVP,↓reduceIte,EV,Nat.reduceAdd,Nat.reduceEqDiff,Int.reduceToNat,reduceCtorEq]
    ·simp only
     rw [←h4,Ap X' (B'.take _),eB]
     simp
end Go.X.G
/- Sorting by blocks, in plain words. -/
namespace Go.X.G
open Go Go.X
structure Blk {α:Type} (le:α→α→Bool) (bs:Nat) (r l:List α):Prop where
 len:r.length=l.length
 st:∀k,Stab le ((r.drop (k*bs)).take bs) ((l.drop (k*bs)).take bs)
theorem Rf {α:Type} (le:α→α→Bool):Stab le ([]:List α) []:=⟨.nil,fun _=>rfl⟩
theorem my {α:Type} (le:α→α→Bool) (x:α):Stab le [x] [x]:=⟨by simp,fun _=>rfl⟩
theorem Blk.nil {α:Type} (le:α→α→Bool) (bs:Nat):Blk le bs ([]:List α) []:=⟨rfl,fun k=>by
 rw [List.drop_nil,List.take_nil];exact Rf le⟩
theorem Blk.one {α:Type} {le:α→α→Bool} {bs:Nat} {r l:List α} (h:Stab le r l) (hl:r.length=l.length) (hb:r.length≤bs):Blk le bs r l:=⟨hl,fun k=>by
 cases k with
 |zero=>
  simp only [Nat.zero_mul,Dy]
  rw [Cr hb,Cr (by omega)];exact h
 |succ k=>
  have:r.length≤(k+1)*bs:=by rw [Nat.succ_mul];omega
  rw [Xf this,Xf (by omega),List.take_nil]
  exact Rf le⟩
theorem jf {α:Type} (X Y:List α) (n m:Nat) (h:n=X.length+m):(X++Y).drop n=Y.drop m:=by
 rw [List.drop_append,Xf (by omega),Cv];congr 1;omega
theorem Blk.app {α:Type} {le:α→α→Bool} {bs q:Nat} {X LX Y LY:List α} (hX:X.length=q*bs) (h1:Blk le bs X LX) (h2:Blk le bs Y LY):Blk le bs (X++Y) (LX++LY):=by
 have hL:=h1.len
 refine ⟨by rw [Az,Az,h1.len,h2.len],fun k=> ?_⟩
 by_cases hk:k<q
 ·have e:(k+1)*bs≤q*bs:=Bz _ hk
  rw [Nat.succ_mul] at e
  rw [Ir (by omega),Ir (by omega),List.take_append_of_le_length (by rw [Bt];omega),List.take_append_of_le_length (by rw [Bt];omega)]
  exact h1.st k
 ·have e:(k - q)*bs+q*bs=k*bs:=by rw [←Ck];congr 1;omega
  rw [jf X Y (k*bs) ((k - q)*bs) (by omega),jf LX LY (k*bs) ((k - q)*bs) (by omega)]
  exact h2.st (k - q)
theorem Blk.all {α:Type} {le:α→α→Bool} {bs:Nat} {r l:List α} (h:Blk le bs r l) (hb:r.length≤bs):Stab le r l:=by
 have:=h.st 0
 have hl:=h.len
 simp only [Nat.zero_mul,Dy] at this
 rwa [Cr hb,Cr (by omega)] at this
theorem Blk.head {α:Type} {le:α→α→Bool} {bs:Nat} {r l:List α} (h:Blk le bs r l):Stab le (r.take bs) (l.take bs):=by simpa using h.st 0
theorem Blk.tail {α:Type} {le:α→α→Bool} {bs:Nat} {r l:List α} (h:Blk le bs r l):Blk le bs (r.drop bs) (l.drop bs):=⟨by simp [h.len],fun k=>by
 rw [C8,C8]
 have:=h.st (k+1)
 rw [Nat.succ_mul,Fk9] at this
 exact this⟩
theorem Fg2 {α:Type} {le:α→α→Bool} (ht:TP le) {R1 R2 l:List α} {x:α} (h:Stab le (R1++R2) l) (h1:∀y∈R1,le y x=true) (h2:∀y∈R2,le y x=false):Stab le (R1++x::R2) (l++[x]):=by
 obtain ⟨hs,hc⟩:=h
 refine ⟨?_,fun z=> ?_⟩
 ·rw [E8] at hs ⊢
  refine ⟨hs.1,As.2 ⟨fun y hy=>(ht.tot x y).resolve_right (by rw [h2 y hy];simp),hs.2.1⟩,fun a ha b hb=> ?_⟩
  rcases Ag.1 hb with rfl|hb
  ·exact h1 a ha
  ·exact hs.2.2 a ha b hb
 ·have:=hc z
  rw [Ed] at this
  rw [Ed,Ed,←this,H3]
  by_cases hz:eqv le z x=true
  ·have hno:R2.filter (eqv le z)=[]:=by
    rw [Ec]
    intro w hw hzw
    unfold eqv at hz hzw
    simp only [Av] at hz hzw
    have:=ht.tr _ _ _ hzw.2 hz.1
    rw [h2 w hw] at this
    cases this
   rw [hno,if_pos hz];simp [hz]
  ·rw [if_neg hz];simp [hz]
theorem mb {α:Type} {le:α→α→Bool} (ht:TP le) {R:List α} {w x:α} (h:(R++[w]).Pairwise fun a b=>le a b=true) (hx:le w x=true):∀y∈R++[w],le y x=true:=by
 intro y hy
 rcases Br.1 hy with hy|hy
 ·exact ht.tr _ _ _ ((E8.1 h).2.2 y hy w (by simp)) hx
 ·have:y=w:=by simpa using hy
  rw [this];exact hx
theorem Tb {α:Type} (le:α→α→Bool):∀(a b:List α),(mrg le a b).length=a.length+b.length
 |[],b=>by simp [mrg]
 |x::a,[]=>by simp [mrg]
 |x::a,y::b=>by
  unfold mrg
  split
  ·simp only [A0,Tb le a (y::b)];omega
  ·simp only [A0,Tb le (x::a) b];omega
termination_by a b=>a.length+b.length
end Go.X.G
/- Merging in place: the library's function. -/
namespace Go.X.G
open Go Go.X
theorem Ep (x:Int):bin .shr (.i .u64 x) (.i .u64 1)=some (.i .u64 (x / 2)):=by
 simp only [bin,Py]
 rw [if_neg (by decide)]
 have:(2:Int) ^ min (1:Int).toNat IntKind.u64.bits=2:=by decide
 rw [this,Int.fdiv_eq_ediv_of_nonneg _ (by decide)]
theorem Iz1 {α:Type} (P Q:List α) (x y:α):((P++x::y::Q).set P.length y).set (P.length+1) x=P++y::x::Q:=by
 rw [lq _ _ (Ac _),Fk8,List.set_cons_zero,lq _ _ (by omega),show P.length+1 - P.length=1 by omega]
 rfl
theorem im {α:Type} (P Q:List α) (x:α):(P++x::Q)[P.length]? =some x:=by simp
theorem o0 {α:Type} (P Q:List α) (x y:α):(P++x::y::Q)[P.length+1]? =some y:=by simp
structure Cmp (g:Nat) (caps:List PV) (c:Rec→Rec→Int) (P:Rec→Prop):Prop where
 ok:∀x y,P x→P y→S g 2 (x.pv::y.pv::caps)=some [.i .i64 (c x y)]
def leC (c:Rec→Rec→Int) (x y:Rec):Bool:= !decide (c y x<0)
theorem Fr1 {c:Rec→Rec→Int} {x y:Rec}:leC c x y=true↔¬c y x<0:=by simp [leC]
theorem Fr2 {c:Rec→Rec→Int} {x y:Rec}:leC c x y=false↔c y x<0:=by simp [leC]
section
variable {g:Nat} {caps:List PV} {c:Rec→Rec→Int} {P:Rec→Prop}
theorem Lv2 (h:Cmp g caps c P) (X B Y:List Rec) (x:Rec) (s:List Rec) (hsd:s=X++x::(B++Y)) (a m b:Int) (ha:a=X.length) (hm:m=a+1) (hb:b=m+B.length) (hs:s.length≤1000000) (hP:∀y∈s,P y) (N:Nat) (hN:B.length<N):
  ∃p:Nat,Cm8.ev S N [Ad s,.i .i64 a,.i .i64 m,.i .i64 b,.f g caps]=some (.yld 0 [.i .i64 (m+p)])∧p≤B.length∧(∀y,p≠0→B[p - 1]? =some y→c y x<0)∧∀y,B[p]? =some y→¬c y x<0:=by
 have hl:s.length=X.length+1+B.length+Y.length:=by rw [hsd];simp;omega
 have hx:s[X.length]? =some x:=by rw [hsd];exact im _ _ _
 have hB:∀k y,B[k]? =some y→s[X.length+1+k]? =some y:=fun k y hk=>by
  have:=(Aq.1 hk).1
  rw [hsd,A3 (by omega),show X.length+1+k - X.length=k+1 by omega,Dk,A8 this,hk]
 have hPx:P x:=hP x (by rw [hsd];simp)
 have key:=G4 (fn:=S) (N:=N) (η:=[Ad s,.i .i64 a,.i .i64 m,.i .i64 b,.f g caps]) (id:=1) (init:=[.v 2,.v 3]) (body:=tw) (α:=Nat×Nat)
  (fun w=>[.i .i64 (m+w.1),.i .i64 (m+w.2)])
  (fun o=>∃p:Nat,o= .yld 0 [.i .i64 (m+p)]∧p≤B.length∧(∀y,p≠0→B[p - 1]? =some y→c y x<0)∧∀y,B[p]? =some y→¬c y x<0)
  (fun w=>w.1≤w.2∧w.2≤B.length∧(∀y,w.1≠0→B[w.1 - 1]? =some y→c y x<0)∧∀y,B[w.2]? =some y→¬c y x<0)
  (fun w=>w.2 - w.1) (0,B.length) ?_ ?_ (by simp only;omega) ?_
 ·obtain ⟨o,h1,p,rfl,h2⟩:=key
  exact ⟨p,h1,h2⟩
 ·subst hb
  simp (disch:=omega) only [EVT,EVM,EVC,xe,EVP,↓reduceIte,EV,Nat.reduceAdd,Nat.reduceEqDiff,Int.reduceToNat,reduceCtorEq]
  simp
 ·refine ⟨by simp,by simp,fun y h0=>absurd rfl h0,fun y hy=> ?_⟩
  simp at hy
 ·rintro ⟨p,q⟩ ⟨h1,h2,h3,h4⟩
  simp only at h1 h2 h3 h4
  by_cases hpq:p<q
  ·left
   have hk:(p+q) / 2<B.length:=by omega
   have hy:=Ax hk
   generalize B[(p+q) / 2]=y at hy
   have hsy:=hB _ y hy
   have hPy:P y:=hP y (Am hsy)
   have hc:=h.ok y x hPy hPx
   have hlt:m+(p:Int)<m+(q:Int):=by omega
   have e1:(m+(p:Int)+(m+(q:Int))) / 2=m+(((p+q) / 2:Nat):Int):=by omega
   have e2:(m+(((p+q) / 2:Nat):Int)).toNat=X.length+1+(p+q) / 2:=by omega
   have e3:a.toNat=X.length:=by omega
   by_cases hcy:c y x<0
   ·refine ⟨((p+q) / 2+1,q),?_,⟨by simp only;omega,h2,fun z _ hz=> ?_,h4⟩,by simp only;omega⟩
    ·have e4:m+(((p+q) / 2+1:Nat):Int)=m+(((p+q) / 2:Nat):Int)+1:=by omega
     simp only [e4]
     generalize (p+q) / 2=k at*
     simp (disch:=omega) only [Fq,hlt,Ep,e1,e2,e3,hsy,hx,hc,hcy,EVT,EVM,EVC,xe,EVP,↓reduceIte,EV,Nat.reduceAdd,Nat.reduceEqDiff,Int.reduceToNat,reduceCtorEq]
    ·simp only [Xd] at hz
     rw [hy] at hz;injection hz with hz;subst hz;exact hcy
   ·refine ⟨(p,(p+q) / 2),?_,⟨by simp only;omega,by simp only;omega,h3,fun z hz=> ?_⟩,by simp only;omega⟩
    ·simp only
     generalize (p+q) / 2=k at*
     simp (disch:=omega) only [Fq,hlt,Ep,e1,e2,e3,hsy,hx,hc,hcy,EVT,EVM,EVC,xe,EVP,↓reduceIte,EV,Nat.reduceAdd,Nat.reduceEqDiff,Int.reduceToNat,reduceCtorEq]
    ·simp only at hz
     rw [hy] at hz;injection hz with hz;subst hz;exact hcy
  ·right
   have e:p=q:=by omega
   subst e
   have hlt:¬m+(p:Int)<m+(p:Int):=by omega
   refine ⟨.yld 0 [.i .i64 (m+p)],?_,rfl,p,rfl,h2,h3,h4⟩
   simp (disch:=omega) only [Fq,hlt,EVT,EVM,EVC,xe,EVP,↓reduceIte,EV,Nat.reduceAdd,Nat.reduceEqDiff,Int.reduceToNat,reduceCtorEq]
theorem Lv4 (L L':List Rec) (i:Nat) (x y:Rec) (g0:L[i]? =some x) (g1:L[i+1]? =some y) (sw:(L.set i y).set (i+1) x=L') (k e:Int) (hk:k=i) (he:k<e - 1) (he2:e≤1000000) (hL:L.length≤1000000) (w0 w1 w2 w3 w4:PV) (N:Nat):
  Z6.ev S N [w0,w1,w2,w3,w4,.i .i64 e,.i .i64 k,Ad L]=some (.yld 1 [.i .i64 (k+1),Ad L']):=by
 have hi:=(Aq.1 g1).1
 have ti0:k.toNat=i:=by omega
 have ti1:(k+1).toNat=i+1:=by omega
 have g2:(L.set i y)[i+1]? =some y:=by rw [Bg9 (by omega)];exact g1
 simp (disch:=first|omega|(rw [Jl];omega)) only [Fq,he,ti0,ti1,g0,g1,g2,sw,EVT,EVM,EVC,xe,EVP,↓reduceIte,EV,Nat.reduceAdd,Nat.reduceEqDiff,Int.reduceToNat,reduceCtorEq]
theorem Lv3 (L L':List Rec) (i:Nat) (x y:Rec) (g0:L[i]? =some x) (g1:L[i+1]? =some y) (sw:(L.set (i+1) x).set i y=L') (k e:Int) (hk:k=i+1) (he:e<k) (he2:0≤e) (hL:L.length≤1000000) (w0 w1 w2 w3 w4:PV) (N:Nat):
  Z5.ev S N [w0,w1,w2,w3,w4,.i .i64 e,.i .i64 k,Ad L]=some (.yld 1 [.i .i64 (k - 1),Ad L']):=by
 have hi:=(Aq.1 g1).1
 have ti0:(k - 1).toNat=i:=by omega
 have ti1:k.toNat=i+1:=by omega
 have g2:(L.set (i+1) x)[i]? =some x:=by rw [Bg9 (by omega)];exact g0
 simp (disch:=first|omega|(rw [Jl];omega)) only [Fq,he,ti0,ti1,g0,g1,g2,sw,EVT,EVM,EVC,xe,EVP,↓reduceIte,EV,Nat.reduceAdd,Nat.reduceEqDiff,Int.reduceToNat,reduceCtorEq]
theorem Lv1 (X B Y:List Rec) (x:Rec) (s:List Rec) (hsd:s=X++x::(B++Y)) (a m b:Int) (w:PV) (p:Nat) (ha:a=X.length) (hm:m=a+1) (hp:p≤B.length) (hs:s.length≤1000000) (N:Nat) (hN:B.length<N) (w1 w2 w3:PV):
  Cl4.ev S N [Ad s,.i .i64 a,w1,w2,w3,.i .i64 (m+p)]=some (.yld 0 [Ad (X++(B.take p++x::B.drop p)++Y)]):=by
 have hl:s.length=X.length+1+B.length+Y.length:=by rw [hsd];simp;omega
 refine Ev p (fun t=>[.i .i64 (a+t),Ad ((X++B.take t)++x::(B.drop t++Y))]) (fun _=> .yld 0 [Ad (X++(B.take p++x::B.drop p)++Y)]) ?_ (by omega) (fun t ht=> ?_) ?_
 ·simp (disch:=omega) only [EVT,EVM,EVC,xe,EVP,↓reduceIte,EV,Nat.reduceAdd,Nat.reduceEqDiff,Int.reduceToNat,reduceCtorEq]
  rw [hsd];simp
 ·left
  refine ⟨?_,rfl⟩
  have hlt:t<B.length:=by omega
  have hy:=Ax hlt
  have hd:B.drop t=B[t]::B.drop (t+1):=Bp hlt
  have htk:B.take (t+1)=B.take t++[B[t]]:=by rw [B6,hy];rfl
  have e0:X++B.take (t+1)++x::(B.drop (t+1)++Y)=X++B.take t++B[t]::x::(B.drop (t+1)++Y):=by rw [htk];simp only [Ap,B3,Cv]
  show Z6.ev S N ([Ad s,.i .i64 a,w1,w2,w3,.i .i64 (m+p)]++[.i .i64 (a+t),Ad ((X++B.take t)++x::(B.drop t++Y))])=some (.yld 1 [.i .i64 (a+((t+1:Nat):Int)),Ad ((X++B.take (t+1))++x::(B.drop (t+1)++Y))])
  rw [e0,hd,B3]
  generalize B[t]=y at*
  have lP:(X++B.take t).length=X.length+t:=by rw [Az,Al];omega
  have sw:=Iz1 (X++B.take t) (B.drop (t+1)++Y) x y
  have g0:=im (X++B.take t) (y::(B.drop (t+1)++Y)) x
  have g1:=o0 (X++B.take t) (B.drop (t+1)++Y) x y
  have lL:(X++B.take t++x::y::(B.drop (t+1)++Y)).length=s.length:=by
   rw [hl];simp only [Az,A0,Al,Bt];omega
  rw [lP] at sw g0 g1
  have e5:a+((t+1:Nat):Int)=a+(t:Int)+1:=by omega
  rw [e5]
  exact Lv4 _ _ (X.length+t) x y g0 g1 sw (a+t) (m+p) (by omega) (by omega) (by omega) (by omega) _ _ _ _ _ N
 ·refine ⟨?_,rfl⟩
  have hlt2:¬a+(p:Int)<m+(p:Int) - 1:=by omega
  have e0:X++B.take p++x::(B.drop p++Y)=X++(B.take p++x::B.drop p)++Y:=by simp
  rw [e0]
  simp (disch:=omega) only [Fq,hlt2,EVT,EVM,EVC,xe,EVP,↓reduceIte,EV,Nat.reduceAdd,Nat.reduceEqDiff,Int.reduceToNat,reduceCtorEq]
theorem Lv0 (h:Cmp g caps c P) (X A Y:List Rec) (x:Rec) (s:List Rec) (hsd:s=X++(A++x::Y)) (a m:Int) (w:PV) (ha:a=X.length) (hm:m=a+A.length) (hs:s.length≤1000000) (hP:∀y∈s,P y) (N:Nat) (hN:A.length<N):
  ∃p:Nat,Ch5.ev S N [Ad s,.i .i64 a,.i .i64 m,w,.f g caps]=some (.yld 0 [.i .i64 (a+p)])∧p≤A.length∧(∀y,p≠0→A[p - 1]? =some y→¬c x y<0)∧∀y,A[p]? =some y→c x y<0:=by
 have hl:s.length=X.length+A.length+1+Y.length:=by rw [hsd];simp;omega
 have hx:s[X.length+A.length]? =some x:=by rw [hsd,←Ap,←Az];exact im _ _ _
 have hA:∀k y,A[k]? =some y→s[X.length+k]? =some y:=fun k y hk=>by
  have:=(Aq.1 hk).1
  rw [hsd,A3 (by omega),show X.length+k - X.length=k by omega,A8 this,hk]
 have hPx:P x:=hP x (by rw [hsd];simp)
 have key:=G4 (fn:=S) (N:=N) (η:=[Ad s,.i .i64 a,.i .i64 m,w,.f g caps]) (id:=1) (init:=[.v 1,.v 2]) (body:=s5) (α:=Nat×Nat)
  (fun w=>[.i .i64 (a+w.1),.i .i64 (a+w.2)])
  (fun o=>∃p:Nat,o= .yld 0 [.i .i64 (a+p)]∧p≤A.length∧(∀y,p≠0→A[p - 1]? =some y→¬c x y<0)∧∀y,A[p]? =some y→c x y<0)
  (fun w=>w.1≤w.2∧w.2≤A.length∧(∀y,w.1≠0→A[w.1 - 1]? =some y→¬c x y<0)∧∀y,A[w.2]? =some y→c x y<0)
  (fun w=>w.2 - w.1) (0,A.length) ?_ ?_ (by simp only;omega) ?_
 ·obtain ⟨o,h1,p,rfl,h2⟩:=key
  exact ⟨p,h1,h2⟩
 ·subst hm
  simp (disch:=omega) only [EVT,EVM,EVC,xe,EVP,↓reduceIte,EV,Nat.reduceAdd,Nat.reduceEqDiff,Int.reduceToNat,reduceCtorEq]
  simp
 ·refine ⟨by simp,by simp,fun y h0=>absurd rfl h0,fun y hy=> ?_⟩
  simp at hy
 ·rintro ⟨p,q⟩ ⟨h1,h2,h3,h4⟩
  simp only at h1 h2 h3 h4
  by_cases hpq:p<q
  ·left
   have hk:(p+q) / 2<A.length:=by omega
   have hy:=Ax hk
   generalize A[(p+q) / 2]=y at hy
   have hsy:=hA _ y hy
   have hPy:P y:=hP y (Am hsy)
   have hc:=h.ok x y hPx hPy
   have hlt:a+(p:Int)<a+(q:Int):=by omega
   have e1:(a+(p:Int)+(a+(q:Int))) / 2=a+(((p+q) / 2:Nat):Int):=by omega
   have e2:(a+(((p+q) / 2:Nat):Int)).toNat=X.length+(p+q) / 2:=by omega
   have e3:m.toNat=X.length+A.length:=by omega
   by_cases hcy:c x y<0
   ·refine ⟨(p,(p+q) / 2),?_,⟨by simp only;omega,by simp only;omega,h3,fun z hz=> ?_⟩,by simp only;omega⟩
    ·simp only
     generalize (p+q) / 2=k at*
     simp (disch:=omega) only [Fq,hlt,Ep,e1,e2,e3,hsy,hx,hc,hcy,EVT,EVM,EVC,xe,EVP,↓reduceIte,EV,Nat.reduceAdd,Nat.reduceEqDiff,Int.reduceToNat,reduceCtorEq]
    ·simp only at hz
     rw [hy] at hz;injection hz with hz;subst hz;exact hcy
   ·refine ⟨((p+q) / 2+1,q),?_,⟨by simp only;omega,h2,fun z _ hz=> ?_,h4⟩,by simp only;omega⟩
    ·have e4:a+(((p+q) / 2+1:Nat):Int)=a+(((p+q) / 2:Nat):Int)+1:=by omega
     simp only [e4]
     generalize (p+q) / 2=k at*
     simp (disch:=omega) only [Fq,hlt,Ep,e1,e2,e3,hsy,hx,hc,hcy,EVT,EVM,EVC,xe,EVP,↓reduceIte,EV,Nat.reduceAdd,Nat.reduceEqDiff,Int.reduceToNat,reduceCtorEq]
    ·simp only [Xd] at hz
     rw [hy] at hz;injection hz with hz;subst hz;exact hcy
  ·right
   have e:p=q:=by omega
   subst e
   have hlt:¬a+(p:Int)<a+(p:Int):=by omega
   refine ⟨.yld 0 [.i .i64 (a+p)],?_,rfl,p,rfl,h2,h3,h4⟩
   simp (disch:=omega) only [Fq,hlt,EVT,EVM,EVC,xe,EVP,↓reduceIte,EV,Nat.reduceAdd,Nat.reduceEqDiff,Int.reduceToNat,reduceCtorEq]
theorem Lq9 (X A Y:List Rec) (x:Rec) (s:List Rec) (hsd:s=X++(A++x::Y)) (a m:Int) (p:Nat) (ha:a=X.length) (hm:m=a+A.length) (hp:p≤A.length) (hs:s.length≤1000000) (N:Nat) (hN:A.length<N) (w1 w2 w3:PV):
  Ch4.ev S N [Ad s,w1,.i .i64 m,w2,w3,.i .i64 (a+p)]=some (.yld 0 [Ad (X++(A.take p++x::A.drop p)++Y)]):=by
 have hl:s.length=X.length+A.length+1+Y.length:=by rw [hsd];simp;omega
 refine Ev (A.length - p) (fun t=>[.i .i64 (m - t),Ad ((X++A.take (A.length - t))++x::(A.drop (A.length - t)++Y))]) (fun _=> .yld 0 [Ad (X++(A.take p++x::A.drop p)++Y)]) ?_ (by omega) (fun t ht=> ?_) ?_
 ·simp (disch:=omega) only [EVT,EVM,EVC,xe,EVP,↓reduceIte,EV,Nat.reduceAdd,Nat.reduceEqDiff,Int.reduceToNat,reduceCtorEq]
  rw [hsd];simp
 ·left
  refine ⟨?_,rfl⟩
  obtain ⟨u,hu⟩:∃u,A.length - t=u+1:=⟨A.length - t - 1,by omega⟩
  have hlt:u<A.length:=by omega
  have hy:=Ax hlt
  have hd:A.drop u=A[u]::A.drop (u+1):=Bp hlt
  have htk:A.take (u+1)=A.take u++[A[u]]:=by rw [B6,hy];rfl
  have e1:A.length - (t+1)=u:=by omega
  have e0:X++A.take (u+1)++x::(A.drop (u+1)++Y)=X++A.take u++A[u]::x::(A.drop (u+1)++Y):=by rw [htk];simp only [Ap,B3,Cv]
  show Z5.ev S N ([Ad s,w1,.i .i64 m,w2,w3,.i .i64 (a+p)]++[.i .i64 (m - t),Ad ((X++A.take (A.length - t))++x::(A.drop (A.length - t)++Y))])=some (.yld 1 [.i .i64 (m - ((t+1:Nat):Int)),Ad ((X++A.take (A.length - (t+1)))++x::(A.drop (A.length - (t+1))++Y))])
  rw [hu,e1,e0,hd,B3]
  generalize A[u]=y at*
  have lP:(X++A.take u).length=X.length+u:=by rw [Az,Al];omega
  have sw0:((X++A.take u++y::x::(A.drop (u+1)++Y)).set (X.length+u+1) y).set (X.length+u) x=X++A.take u++x::y::(A.drop (u+1)++Y):=by
   rw [←lP,List.set_comm _ _ (by omega)]
   exact Iz1 (X++A.take u) (A.drop (u+1)++Y) y x
  have g0:=im (X++A.take u) (x::(A.drop (u+1)++Y)) y
  have g1:=o0 (X++A.take u) (A.drop (u+1)++Y) y x
  have lL:(X++A.take u++y::x::(A.drop (u+1)++Y)).length=s.length:=by
   rw [hl];simp only [Az,A0,Al,Bt];omega
  rw [lP] at g0 g1
  have e5:m - ((t+1:Nat):Int)=m - (t:Int) - 1:=by omega
  rw [e5]
  exact Lv3 _ _ (X.length+u) y x g0 g1 sw0 (m - t) (a+p) (by omega) (by omega) (by omega) (by omega) _ _ _ _ _ N
 ·refine ⟨?_,rfl⟩
  have hlt2:¬a+(p:Int)<m - ((A.length - p:Nat):Int):=by omega
  have e1:A.length - (A.length - p)=p:=by omega
  have e0:X++A.take p++x::(A.drop p++Y)=X++(A.take p++x::A.drop p)++Y:=by simp
  rw [e1,e0]
  simp (disch:=omega) only [Fq,hlt2,EVT,EVM,EVC,xe,EVP,↓reduceIte,EV,Nat.reduceAdd,Nat.reduceEqDiff,Int.reduceToNat,reduceCtorEq]
end
end Go.X.G
/- Merging in place: the library's function, the Nw. -/
namespace Go.X.G
open Go Go.X
section
variable {g:Nat} {caps:List PV} {c:Rec→Rec→Int} {P:Rec→Prop}
theorem Lq8 (hC:Cmp g caps c P) (X A B Y:List Rec) (s:List Rec) (hsd:s=X++(A++(B++Y))) (a m b mid:Int) (h i0 j0:Nat) (ha:a=X.length) (hm:m=a+A.length) (hb:b=m+B.length) (hM:(a+b) / 2=mid) (hmid:mid=a+h)
  (h1:i0≤j0) (h2:j0≤A.length) (h3:j0≤h) (h4:h≤i0+B.length) (hs:s.length≤1000000) (hP:∀y∈s,P y) (N:Nat) (hN:A.length<N):
  ∃i:Nat,Ch3.ev S N [Ad s,.i .i64 a,.i .i64 m,.i .i64 b,.f g caps,.i .i64 (a+i0),.i .i64 (a+j0)]=some (.yld 0 [.i .i64 (a+i)])∧i0≤i∧i≤j0∧
   (∀x y,i≠i0→A[i - 1]? =some x→B[h - i]? =some y→¬c y x<0)∧∀x y,i≠j0→A[i]? =some x→B[h - 1 - i]? =some y→c y x<0:=by
 have hl:s.length=X.length+A.length+B.length+Y.length:=by rw [hsd];simp;omega
 have hA:∀k y,A[k]? =some y→s[X.length+k]? =some y:=fun k y hk=>by
  have:=(Aq.1 hk).1
  rw [hsd,A3 (by omega),show X.length+k - X.length=k by omega,A8 this,hk]
 have hB:∀k y,B[k]? =some y→s[X.length+A.length+k]? =some y:=fun k y hk=>by
  have:=(Aq.1 hk).1
  rw [hsd,A3 (by omega),A3 (by omega),show X.length+A.length+k - X.length - A.length=k by omega,A8 this,hk]
 have key:=G4 (fn:=S) (N:=N) (η:=[Ad s,.i .i64 a,.i .i64 m,.i .i64 b,.f g caps,.i .i64 (a+i0),.i .i64 (a+j0)]) (id:=1) (init:=[.v 5,.v 6]) (body:=sy) (α:=Nat×Nat)
  (fun w=>[.i .i64 (a+w.1),.i .i64 (a+w.2)])
  (fun o=>∃i:Nat,o= .yld 0 [.i .i64 (a+i)]∧i0≤i∧i≤j0∧(∀x y,i≠i0→A[i - 1]? =some x→B[h - i]? =some y→¬c y x<0)∧∀x y,i≠j0→A[i]? =some x→B[h - 1 - i]? =some y→c y x<0)
  (fun w=>w.1≤w.2∧i0≤w.1∧w.2≤j0∧(∀x y,w.1≠i0→A[w.1 - 1]? =some x→B[h - w.1]? =some y→¬c y x<0)∧∀x y,w.2≠j0→A[w.2]? =some x→B[h - 1 - w.2]? =some y→c y x<0)
  (fun w=>w.2 - w.1) (i0,j0) ?_ ?_ (by simp only;omega) ?_
 ·obtain ⟨o,h1,p,rfl,h2⟩:=key
  exact ⟨p,h1,h2⟩
 ·simp (disch:=omega) only [EVT,EVM,EVC,xe,EVP,↓reduceIte,EV,Nat.reduceAdd,Nat.reduceEqDiff,Int.reduceToNat,reduceCtorEq]
 ·exact ⟨h1,Ac _,Ac _,fun x y h0=>absurd rfl h0,fun x y h0=>absurd rfl h0⟩
 ·rintro ⟨p,q⟩ ⟨g1,g2,g3,g4,g5⟩
  simp only at g1 g2 g3 g4 g5
  by_cases hpq:p<q
  ·left
   have hk:(p+q) / 2<A.length:=by omega
   have hx:=Ax hk
   have hk2:h - 1 - (p+q) / 2<B.length:=by omega
   have hy:=Ax hk2
   generalize A[(p+q) / 2]=x at hx
   generalize B[h - 1 - (p+q) / 2]=y at hy
   have hsx:=hA _ x hx
   have hsy:=hB _ y hy
   have hPx:P x:=hP x (Am hsx)
   have hPy:P y:=hP y (Am hsy)
   have hc:=hC.ok y x hPy hPx
   have hlt:a+(p:Int)<a+(q:Int):=by omega
   have e1:(a+(p:Int)+(a+(q:Int))) / 2=a+(((p+q) / 2:Nat):Int):=by omega
   have e2:(a+(((p+q) / 2:Nat):Int)).toNat=X.length+(p+q) / 2:=by omega
   have e3:(mid+m - 1 - (a+(((p+q) / 2:Nat):Int))).toNat=X.length+A.length+(h - 1 - (p+q) / 2):=by omega
   have hkh:(p+q) / 2<h:=by omega
   by_cases hcy:c y x<0
   ·refine ⟨(p,(p+q) / 2),?_,⟨by simp only;omega,g2,by simp only;omega,g4,fun u v _ hu hv=> ?_⟩,by simp only;omega⟩
    ·simp only
     generalize (p+q) / 2=k at*
     simp (disch:=omega) only [Fq,hlt,Ep,hM,e1,e2,e3,hsy,hsx,hc,hcy,EVT,EVM,EVC,xe,EVP,↓reduceIte,EV,Nat.reduceAdd,Nat.reduceEqDiff,Int.reduceToNat,reduceCtorEq]
    ·simp only at hu hv
     rw [hx] at hu;injection hu with hu;subst hu
     rw [hy] at hv;injection hv with hv;subst hv
     exact hcy
   ·refine ⟨((p+q) / 2+1,q),?_,⟨by simp only;omega,by simp only;omega,g3,fun u v _ hu hv=> ?_,g5⟩,by simp only;omega⟩
    ·have e4:a+(((p+q) / 2+1:Nat):Int)=a+(((p+q) / 2:Nat):Int)+1:=by omega
     simp only [e4]
     generalize (p+q) / 2=k at*
     simp (disch:=omega) only [Fq,hlt,Ep,hM,e1,e2,e3,hsy,hsx,hc,hcy,EVT,EVM,EVC,xe,EVP,↓reduceIte,EV,Nat.reduceAdd,Nat.reduceEqDiff,Int.reduceToNat,reduceCtorEq]
    ·simp only [Xd] at hu hv
     rw [show h - ((p+q) / 2+1)=h - 1 - (p+q) / 2 by omega] at hv
     rw [hx] at hu;injection hu with hu;subst hu
     rw [hy] at hv;injection hv with hv;subst hv
     exact hcy
  ·right
   have e:p=q:=by omega
   subst e
   have hlt:¬a+(p:Int)<a+(p:Int):=by omega
   refine ⟨.yld 0 [.i .i64 (a+p)],?_,rfl,p,rfl,g2,g3,g4,g5⟩
   simp (disch:=omega) only [Fq,hlt,EVT,EVM,EVC,xe,EVP,↓reduceIte,EV,Nat.reduceAdd,Nat.reduceEqDiff,Int.reduceToNat,reduceCtorEq]
theorem If6 {le:Rec→Rec→Bool} (ht:TP le) {B:List Rec} (hB:B.Pairwise fun x y=>le x y=true) (x:Rec) (p:Nat) (hp:p≤B.length) (h1:∀y,p≠0→B[p - 1]? =some y→le x y=false) (h2:∀y,B[p]? =some y→le x y=true):mrg le [x] B=B.take p++x::B.drop p:=by
 have e1:=Tc ht (A:=[x]) (B:=B) (by simp) hB 0 p (fun u v h=>absurd rfl h) (fun u v h0 hu hv=>by
  simp at hu;subst hu;exact h1 v h0 hv) (by simp) hp
 have e2:=Tc ht (A:=[x]) (B:=B.drop p) (by simp) (hB.sublist (List.drop_sublist p B)) 1 0 (fun u v _ hu hv=>by
  simp at hu;subst hu
  rw [A6] at hv
  exact h2 v hv) (fun u v h=>absurd rfl h) (by simp) (by simp)
 rw [e1]
 simp only [List.take_zero,Dy,List.take_succ_cons,List.drop_succ_cons,Lg] at e2 ⊢
 rw [e2]
 simp [mrg]
theorem If5 {le:Rec→Rec→Bool} (ht:TP le) {A:List Rec} (hA:A.Pairwise fun x y=>le x y=true) (x:Rec) (p:Nat) (hp:p≤A.length) (h1:∀y,p≠0→A[p - 1]? =some y→le y x=true) (h2:∀y,A[p]? =some y→le y x=false):mrg le A [x]=A.take p++x::A.drop p:=by
 have e1:=Tc ht (A:=A) (B:=[x]) hA (by simp) p 0 (fun u v h0 hu hv=>by
  simp at hv;subst hv;exact h1 u h0 hu) (fun u v h=>absurd rfl h) hp (by simp)
 have e2:=Tc ht (A:=A.drop p) (B:=[x]) (hA.sublist (List.drop_sublist p A)) (by simp) 0 1 (fun u v h=>absurd rfl h) (fun u v _ hu hv=>by
  simp at hv;subst hv
  rw [A6] at hu
  exact h2 u hu) (by simp) (by simp)
 rw [e1]
 simp only [List.take_zero,Dy,List.take_succ_cons,List.drop_succ_cons,Lg] at e2 ⊢
 rw [e2]
 simp [mrg]
set_option maxHeartbeats 2000000 in
theorem Kj (hC:Cmp g caps c P) (ht:TP (leC c)):∀(n:Nat) (X A B Y:List Rec) (a m b:Int),A.length+B.length≤n→A≠[]→B≠[]→(A.Pairwise fun x y=>leC c x y=true)→(B.Pairwise fun x y=>leC c x y=true)→
  a=X.length→m=a+A.length→b=m+B.length→(X++A++B++Y).length≤1000000→(∀y∈X++A++B++Y,P y)→
  S Qs 1048581 [Ad (X++A++B++Y),.i .i64 a,.i .i64 m,.i .i64 b,.f g caps]=some [Ad (X++mrg (leC c) A B++Y)]
 |0,X,A,B,Y,a,m,b,hn,hA,_,_,_,_,_,_,_,_=>absurd (Bw (by omega)) hA
 |n+1,X,A,B,Y,a,m,b,hn,hA,hB,sA,sB,ha,hm,hb,hs,hP=>by
  have hA':0<A.length:=Bv.2 hA
  have hB':0<B.length:=Bv.2 hB
  have hs2:=hs
  simp only [Az] at hs2
  obtain ⟨N,hN⟩:∃N,N=A.length+B.length+1:=⟨_,rfl⟩
  refine Jm3 (N:=N) rfl ?_
  by_cases c1:A.length=1
  ·-- one ahead
   obtain ⟨x,rfl⟩:=List.length_eq_one_iff.1 c1
   have hsd:X++[x]++B++Y=X++x::(B++Y):=by simp
   obtain ⟨p,k1,k2,k3,k4⟩:=Lv2 hC X B Y x (X++[x]++B++Y) hsd a m b ha (by simpa using hm) hb hs hP N (by omega)
   have k5:=Lv1 X B Y x (X++[x]++B++Y) hsd a m b .u p ha (by simpa using hm) k2 hs N (by omega) (.i .i64 m) (.i .i64 b) (.f g caps)
   have e:=If6 ht sB x p k2 (fun y h0 hy=>Fr2.2 (k3 y h0 hy)) (fun y hy=>Fr1.2 (k4 y hy))
   rw [e]
   have q1:m - a=1:=by simp at hm;omega
   generalize X++[x]++B++Y=s at*
   generalize X++(List.take p B++x::List.drop p B)++Y=u at*
   simp (disch:=omega) only [Fq,q1,k1,k5,EVT,EVM,EVC,xe,EVP,↓reduceIte,EV,Nat.reduceAdd,Nat.reduceEqDiff,Int.reduceToNat,reduceCtorEq]
  ·by_cases c2:B.length=1
   ·obtain ⟨x,rfl⟩:=List.length_eq_one_iff.1 c2
    have hsd:X++A++[x]++Y=X++(A++x::Y):=by simp
    obtain ⟨p,k1,k2,k3,k4⟩:=Lv0 hC X A Y x (X++A++[x]++Y) hsd a m (.i .i64 b) ha hm hs hP N (by omega)
    have k5:=Lq9 X A Y x (X++A++[x]++Y) hsd a m p ha hm k2 hs N (by omega) (.i .i64 a) (.i .i64 b) (.f g caps)
    have e:=If5 ht sA x p k2 (fun y h0 hy=>Fr1.2 (k3 y h0 hy)) (fun y hy=>Fr2.2 (k4 y hy))
    rw [e]
    have q1:¬m - a=1:=by omega
    have q2:b - m=1:=by simp at hb;omega
    generalize X++A++[x]++Y=s at*
    generalize X++(List.take p A++x::List.drop p A)++Y=u at*
    simp (disch:=omega) only [Fq,q1,q2,k1,k5,EVT,EVM,EVC,xe,EVP,↓reduceIte,EV,Nat.reduceAdd,Nat.reduceEqDiff,Int.reduceToNat,reduceCtorEq]
   ·-- two parts of more
    have q1:¬m - a=1:=by omega
    have q2:¬b - m=1:=by omega
    obtain ⟨h,hh⟩:∃h,h=(A.length+B.length) / 2:=⟨_,rfl⟩
    obtain ⟨mid,hM⟩:∃mid,(a+b) / 2=mid:=⟨_,rfl⟩
    have hmid:mid=a+h:=by omega
    obtain ⟨i0,j0,hc15,h1,h2,h3,h4,hi0,hj0⟩:∃i0 j0:Nat,Z0.ev S N [Ad (X++A++B++Y),.i .i64 a,.i .i64 m,.i .i64 b,.f g caps]=some (.yld 0 [.i .i64 (a+i0),.i .i64 (a+j0)])∧i0≤j0∧j0≤A.length∧j0≤h∧h≤i0+B.length∧(i0=0∨h - i0=B.length)∧(j0=h∨j0=A.length):=by
     by_cases hgt:h<A.length
     ·refine ⟨h - B.length,h,?_,by omega,by omega,by omega,by omega,by omega,.inl rfl⟩
      have t1:mid<m:=by omega
      have t2:mid+m - b=a+((h - B.length:Nat):Int):=by omega
      rw [←t2,←hmid]
      generalize X++A++B++Y=s at*
      simp (disch:=omega) only [Fq,Ep,hM,t1,EVT,EVM,EVC,xe,EVP,↓reduceIte,EV,Nat.reduceAdd,Nat.reduceEqDiff,Int.reduceToNat,reduceCtorEq]
     ·refine ⟨0,A.length,?_,by omega,by omega,by omega,by omega,.inl rfl,.inr rfl⟩
      have t1:¬mid<m:=by omega
      generalize X++A++B++Y=s at*
      simp (disch:=omega) only [Fq,Ep,hM,t1,hm,EVT,EVM,EVC,xe,EVP,↓reduceIte,EV,Nat.reduceAdd,Nat.reduceEqDiff,Int.reduceToNat,reduceCtorEq]
      simp
    have hsd:X++A++B++Y=X++(A++(B++Y)):=by simp
    obtain ⟨i,k1,k2,k3,k4,k5⟩:=Lq8 hC X A B Y (X++A++B++Y) hsd a m b mid h i0 j0 ha hm hb hM hmid h1 h2 h3 h4 hs hP N (by omega)
    have cut:=Tc ht sA sB i (h - i) (fun x y h0 hx hy=>Fr1.2 (k4 x y (fun e=>by
      rcases hi0 with q|q
      ·omega
      ·have:=(Aq.1 hy).1;omega) hx hy)) (fun x y h0 hx hy=>Fr2.2 (k5 x y (fun e=>by
      rcases hj0 with q|q
      ·omega
      ·have:=(Aq.1 hx).1;omega) hx (by rw [show h - 1 - i=h - i - 1 by omega];exact hy))) (by omega) (by omega)
    have eA:A.take i++A.drop i=A:=Bl _ _
    have eB:B.take (h - i)++B.drop (h - i)=B:=Bl _ _
    have lA1:(A.take i).length=i:=by rw [Al];omega
    have lA2:(A.drop i).length=A.length - i:=Bt
    have lB1:(B.take (h - i)).length=h - i:=by rw [Al];omega
    have lB2:(B.drop (h - i)).length=B.length - (h - i):=Bt
    have sA1:=sA.sublist (List.take_sublist i A)
    have sA2:=sA.sublist (List.drop_sublist i A)
    have sB1:=sB.sublist (List.take_sublist (h - i) B)
    have sB2:=sB.sublist (List.drop_sublist (h - i) B)
    generalize A.take i=A1 at*
    generalize A.drop i=A2 at*
    generalize B.take (h - i)=B1 at*
    generalize B.drop (h - i)=B2 at*
    have e0:X++A++B++Y=X++A1++A2++B1++(B2++Y):=by rw [←eA,←eB];simp
    have mem1:∀y,y∈X++A1++B1++(A2++B2++Y)→P y:=fun y hy=>hP y (by
     rw [e0];simp only [Br] at hy ⊢;grind)
    have len1:(X++A1++B1++(A2++B2++Y)).length≤1000000:=by simp only [Az] at hs2 ⊢;omega
    have lm1:=Tb (leC c) A1 B1
    have mem2:∀y,y∈(X++mrg (leC c) A1 B1)++A2++B2++Y→P y:=fun y hy=>mem1 y (by
     simp only [Br,mrg_mem] at hy ⊢;grind)
    have len2:((X++mrg (leC c) A1 B1)++A2++B2++Y).length≤1000000:=by simp only [Az,lm1] at hs2 ⊢;omega
    have s1:(T.blk 0 Zt Pw).ev S N [Ad (X++A++B++Y),.i .i64 a,.i .i64 m,.i .i64 b,.f g caps,.i .i64 (a+i0),.i .i64 (a+j0),.i .i64 (a+i)]=
      Pw.ev S N [Ad (X++A++B++Y),.i .i64 a,.i .i64 m,.i .i64 b,.f g caps,.i .i64 (a+i0),.i .i64 (a+j0),.i .i64 (a+i),Ad (X++A1++B1++(A2++B2++Y))]:=by
     by_cases t:A2=[]∨B1=[]
     ·have t1:¬(a+(i:Int)<m∧m<mid+m - (a+i)):=by
       rcases t with t|t
       ·rw [t] at lA2;simp at lA2;omega
       ·rw [t] at lB1;simp at lB1;omega
      have e1:X++A++B++Y=X++A1++B1++(A2++B2++Y):=by
       rw [e0];rcases t with t|t<;>subst t<;>simp
      rw [←e1]
      generalize X++A++B++Y=s at*
      by_cases t2:a+(i:Int)<m
      ·have t3:¬m<mid+m - (a+i):=fun q=>t1 ⟨t2,q⟩
       simp (disch:=omega) only [Fq,Ep,hM,t2,t3,EVT,EVM,EVC,xe,EVP,↓reduceIte,EV,Nat.reduceAdd,Nat.reduceEqDiff,Int.reduceToNat,reduceCtorEq]
      ·simp (disch:=omega) only [Fq,Ep,hM,t2,EVT,EVM,EVC,xe,EVP,↓reduceIte,EV,Nat.reduceAdd,Nat.reduceEqDiff,Int.reduceToNat,reduceCtorEq]
     ·have t':A2≠[]∧B1≠[]:=by grind
      have p1:=Bv.2 t'.1
      have p2:=Bv.2 t'.2
      have hr:=Bs0 (X++A1) A2 B1 (B2++Y) (a+i) m (mid+m - (a+i)) g caps (by simp only [Az];omega) (by simp only [Az];omega) (by simp only [Az];omega) t'.1 t'.2 (by rw [←e0];exact hs)
      have t2:a+(i:Int)<m:=by omega
      have t3:m<mid+m - (a+i):=by omega
      rw [←e0] at hr
      have e1:X++A1++B1++A2++(B2++Y)=X++A1++B1++(A2++B2++Y):=by simp
      rw [e1] at hr
      generalize X++A1++B1++(A2++B2++Y)=s1 at*
      generalize X++A++B++Y=s at*
      simp (disch:=omega) only [Fq,Ep,hM,t2,t3,hr,Ej,Lw,EVT,EVM,EVC,xe,EVP,↓reduceIte,EV,Nat.reduceAdd,Nat.reduceEqDiff,Int.reduceToNat,reduceCtorEq]
    have s2:(T.blk 0 Zs Px).ev S N [Ad (X++A++B++Y),.i .i64 a,.i .i64 m,.i .i64 b,.f g caps,.i .i64 (a+i0),.i .i64 (a+j0),.i .i64 (a+i),Ad (X++A1++B1++(A2++B2++Y))]=
      Px.ev S N [Ad (X++A++B++Y),.i .i64 a,.i .i64 m,.i .i64 b,.f g caps,.i .i64 (a+i0),.i .i64 (a+j0),.i .i64 (a+i),Ad (X++A1++B1++(A2++B2++Y)),Ad ((X++mrg (leC c) A1 B1)++A2++B2++Y)]:=by
     by_cases t:A1=[]∨B1=[]
     ·have t1:¬(a<a+(i:Int)∧a+(i:Int)<mid):=by
       rcases t with t|t
       ·rw [t] at lA1;simp at lA1;omega
       ·rw [t] at lB1;simp at lB1;omega
      have e1:X++A1++B1++(A2++B2++Y)=(X++mrg (leC c) A1 B1)++A2++B2++Y:=by
       rcases t with t|t<;>subst t<;>simp [mrg,Lg]
      rw [←e1]
      generalize X++A1++B1++(A2++B2++Y)=s1 at*
      generalize X++A++B++Y=s at*
      by_cases t2:a<a+(i:Int)
      ·have t3:¬a+(i:Int)<mid:=fun q=>t1 ⟨t2,q⟩
       simp (disch:=omega) only [Fq,Ep,hM,t2,t3,EVT,EVM,EVC,xe,EVP,↓reduceIte,EV,Nat.reduceAdd,Nat.reduceEqDiff,Int.reduceToNat,reduceCtorEq]
      ·simp (disch:=omega) only [Fq,Ep,hM,t2,EVT,EVM,EVC,xe,EVP,↓reduceIte,EV,Nat.reduceAdd,Nat.reduceEqDiff,Int.reduceToNat,reduceCtorEq]
     ·have t':A1≠[]∧B1≠[]:=by grind
      have p1:=Bv.2 t'.1
      have p2:=Bv.2 t'.2
      have hr:=Kj hC ht n X A1 B1 (A2++B2++Y) a (a+i) mid (by omega) t'.1 t'.2 sA1 sB1 ha (by omega) (by omega) len1 mem1
      have t2:a<a+(i:Int):=by omega
      have t3:a+(i:Int)<mid:=by omega
      have e1:X++mrg (leC c) A1 B1++(A2++B2++Y)=(X++mrg (leC c) A1 B1)++A2++B2++Y:=by simp
      rw [e1] at hr
      generalize (X++mrg (leC c) A1 B1)++A2++B2++Y=s2 at*
      generalize X++A1++B1++(A2++B2++Y)=s1 at*
      generalize X++A++B++Y=s at*
      simp (disch:=omega) only [Fq,Ep,hM,t2,t3,hr,Ej,Lw,EVT,EVM,EVC,xe,EVP,↓reduceIte,EV,Nat.reduceAdd,Nat.reduceEqDiff,Int.reduceToNat,reduceCtorEq]
    have s3:Px.ev S N [Ad (X++A++B++Y),.i .i64 a,.i .i64 m,.i .i64 b,.f g caps,.i .i64 (a+i0),.i .i64 (a+j0),.i .i64 (a+i),Ad (X++A1++B1++(A2++B2++Y)),Ad ((X++mrg (leC c) A1 B1)++A2++B2++Y)]=
      some (.ret [Ad (X++mrg (leC c) A B++Y)]):=by
     have e9:X++mrg (leC c) A B++Y=(X++mrg (leC c) A1 B1)++mrg (leC c) A2 B2++Y:=by rw [cut];simp
     rw [e9]
     by_cases t:A2=[]∨B2=[]
     ·have t1:¬(mid<mid+m - (a+i)∧mid+m - (a+(i:Int))<b):=by
       rcases t with t|t
       ·rw [t] at lA2;simp at lA2;omega
       ·rw [t] at lB2;simp at lB2;omega
      have e1:(X++mrg (leC c) A1 B1)++A2++B2++Y=(X++mrg (leC c) A1 B1)++mrg (leC c) A2 B2++Y:=by
       rcases t with t|t<;>subst t<;>simp [mrg,Lg]
      rw [←e1]
      generalize (X++mrg (leC c) A1 B1)++A2++B2++Y=s2 at*
      generalize X++A1++B1++(A2++B2++Y)=s1 at*
      generalize X++A++B++Y=s at*
      by_cases t2:mid<mid+m - (a+(i:Int))
      ·have t3:¬mid+m - (a+(i:Int))<b:=fun q=>t1 ⟨t2,q⟩
       simp (disch:=omega) only [Fq,Ep,hM,t2,t3,EVT,EVM,EVC,xe,EVP,↓reduceIte,EV,Nat.reduceAdd,Nat.reduceEqDiff,Int.reduceToNat,reduceCtorEq]
      ·simp (disch:=omega) only [Fq,Ep,hM,t2,EVT,EVM,EVC,xe,EVP,↓reduceIte,EV,Nat.reduceAdd,Nat.reduceEqDiff,Int.reduceToNat,reduceCtorEq]
     ·have t':A2≠[]∧B2≠[]:=by grind
      have p1:=Bv.2 t'.1
      have p2:=Bv.2 t'.2
      have hr:=Kj hC ht n (X++mrg (leC c) A1 B1) A2 B2 Y mid (mid+m - (a+i)) b (by omega) t'.1 t'.2 sA2 sB2 (by simp only [Az,lm1];omega) (by omega) (by omega) len2 mem2
      have t2:mid<mid+m - (a+(i:Int)):=by omega
      have t3:mid+m - (a+(i:Int))<b:=by omega
      generalize (X++mrg (leC c) A1 B1)++mrg (leC c) A2 B2++Y=s3 at*
      generalize (X++mrg (leC c) A1 B1)++A2++B2++Y=s2 at*
      generalize X++A1++B1++(A2++B2++Y)=s1 at*
      generalize X++A++B++Y=s at*
      simp (disch:=omega) only [Fq,Ep,hM,t2,t3,hr,Ej,Lw,EVT,EVM,EVC,xe,EVP,↓reduceIte,EV,Nat.reduceAdd,Nat.reduceEqDiff,Int.reduceToNat,reduceCtorEq]
    have f2:Pw.ev S N [Ad (X++A++B++Y),.i .i64 a,.i .i64 m,.i .i64 b,.f g caps,.i .i64 (a+i0),.i .i64 (a+j0),.i .i64 (a+i),Ad (X++A1++B1++(A2++B2++Y))]=some (.ret [Ad (X++mrg (leC c) A B++Y)]):=s2.trans s3
    have f1:=s1.trans f2
    clear s1 s2 s3 f2 mem1 mem2 cut k4 k5
    generalize X++mrg (leC c) A B++Y=s3 at*
    generalize X++A++B++Y=s at*
    simp (disch:=omega) only [Fq,q1,q2,Ep,hM,hc15,k1,f1,EVT,EVM,EVC,xe,EVP,↓reduceIte,EV,Nat.reduceAdd,Nat.reduceEqDiff,Int.reduceToNat,reduceCtorEq]
end
end Go.X.G
/- Stable sorting: the library's functions. -/
namespace Go.X.G
open Go Go.X
section
variable {g:Nat} {caps:List PV} {c:Rec→Rec→Int} {P:Rec→Prop}
theorem Mj3 (hC:Cmp g caps c P) (L L':List Rec) (i:Nat) (x y:Rec) (g0:L[i]? =some y) (g1:L[i+1]? =some x) (sw:(L.set (i+1) y).set i x=L') (k e:Int) (hk:k=i+1) (he:e<k) (he2:0≤e) (hx:P x) (hy:P y) (hlt:c x y<0) (hL:L.length≤1000000) (w0 w2 w4 w5:PV) (N:Nat):
  L6.ev S N [w0,.i .i64 e,w2,.f g caps,w4,w5,.i .i64 k,Ad L]=some (.yld 3 [.i .i64 (k - 1),Ad L']):=by
 have hi:=(Aq.1 g1).1
 have ti0:(k - 1).toNat=i:=by omega
 have ti1:k.toNat=i+1:=by omega
 have g2:(L.set (i+1) y)[i]? =some y:=by rw [Bg9 (by omega)];exact g0
 have hc:=hC.ok x y hx hy
 simp (disch:=first|omega|(rw [Jl];omega)) only [Qh,Jx,L2,he,ti0,ti1,g0,g1,g2,sw,hc,hlt,EVT,EVM,EVC,xe,EVP,↓reduceIte,EV,Nat.reduceAdd,Nat.reduceEqDiff,Int.reduceToNat,reduceCtorEq]
theorem Cp2 (hC:Cmp g caps c P) (L:List Rec) (i:Nat) (x y:Rec) (g0:L[i]? =some y) (g1:L[i+1]? =some x) (k e:Int) (hk:k=i+1) (he:e<k) (hx:P x) (hy:P y) (hlt:¬c x y<0) (hL:L.length≤1000000) (w0 w2 w4 w5:PV) (N:Nat):
  L6.ev S N [w0,.i .i64 e,w2,.f g caps,w4,w5,.i .i64 k,Ad L]=some (.yld 2 [Ad L]):=by
 have hi:=(Aq.1 g1).1
 have ti0:(k - 1).toNat=i:=by omega
 have ti1:k.toNat=i+1:=by omega
 have hc:=hC.ok x y hx hy
 simp (disch:=omega) only [Qh,Jx,L2,he,ti0,ti1,g0,g1,hc,hlt,EVT,EVM,EVC,xe,EVP,↓reduceIte,EV,Nat.reduceAdd,Nat.reduceEqDiff,Int.reduceToNat,reduceCtorEq]
theorem Fr8 (L:List Rec) (k e:Int) (he:¬e<k) (w0 w2 w3 w4 w5:PV) (N:Nat):
  L6.ev S N [w0,.i .i64 e,w2,w3,w4,w5,.i .i64 k,Ad L]=some (.yld 2 [Ad L]):=by
 simp (disch:=omega) only [Qh,Jx,L2,he,EVT,EVM,EVC,xe,EVP,↓reduceIte,EV,Nat.reduceAdd,Nat.reduceEqDiff,Int.reduceToNat,reduceCtorEq]
theorem Mj2 (hC:Cmp g caps c P) (ht:TP (leC c)) (X R Y:List Rec) (x:Rec) (hR:R.Pairwise fun a b=>leC c a b=true) (hP:∀y∈X++R++x::Y,P y) (hs:(X++R++x::Y).length≤1000000) (a k:Int) (ha:a=X.length) (hk:k=a+R.length) (w0 w2:PV) (N:Nat) (hN:R.length<N):
  ∃R1 R2,R=R1++R2∧(∀y∈R1,leC c y x=true)∧(∀y∈R2,leC c y x=false)∧
   Cl5.ev S N [w0,.i .i64 a,w2,.f g caps,.i .i64 k,Ad (X++R++x::Y)]=some (.yld 2 [Ad (X++(R1++x::R2)++Y)]):=by
 have hx:P x:=hP x (by simp)
 have hs2:=hs
 simp only [Az,A0] at hs2
 have key:=G4 (fn:=S) (N:=N) (η:=[w0,.i .i64 a,w2,.f g caps,.i .i64 k,Ad (X++R++x::Y)]) (id:=3) (init:=[.v 4,.v 5]) (body:=L6) (α:=List Rec×List Rec)
  (fun w=>[.i .i64 (a+w.1.length),Ad (X++w.1++x::(w.2++Y))])
  (fun o=>∃R1 R2,R=R1++R2∧(∀y∈R1,leC c y x=true)∧(∀y∈R2,leC c y x=false)∧o= .yld 2 [Ad (X++(R1++x::R2)++Y)])
  (fun w=>R=w.1++w.2∧∀y∈w.2,leC c y x=false) (fun w=>w.1.length) (R,[]) ?_ ⟨by simp,by simp⟩ hN ?_
 ·obtain ⟨o,h1,R1,R2,h2,h3,h4,rfl⟩:=key
  exact ⟨R1,R2,h2,h3,h4,h1⟩
 ·subst hk
  simp only [Cv]
  generalize X++R++x::Y=s at*
  simp (disch:=omega) only [EVT,EVM,EVC,xe,EVP,↓reduceIte,EV,Nat.reduceAdd,Nat.reduceEqDiff,Int.reduceToNat,reduceCtorEq]
 ·rintro ⟨R1,R2⟩ ⟨h1,h2⟩
  simp only at h1 h2
  have hlen:=congrArg List.length h1
  simp only [Az] at hlen
  rcases List.eq_nil_or_concat R1 with rfl|⟨R0,y,rfl⟩
  ·right
   refine ⟨_,Fr8 _ _ a (by simp) _ _ _ _ _ N,rfl,[],R2,h1,by simp,h2,?_⟩
   simp
  ·rw [List.concat_eq_append] at*
   simp only [Az,A0,Bc] at hlen
   have hy:P y:=hP y (by rw [h1];simp)
   have lP:(X++R0).length=X.length+R0.length:=Az
   have g0:=im (X++R0) (x::(R2++Y)) y
   have g1:=o0 (X++R0) (R2++Y) y x
   rw [lP] at g0 g1
   have e0:X++(R0++[y])++x::(R2++Y)=X++R0++y::x::(R2++Y):=by simp
   have lL:(X++R0++y::x::(R2++Y)).length≤1000000:=by simp only [Az,A0];omega
   by_cases hlt:c x y<0
   ·left
    have sw0:((X++R0++y::x::(R2++Y)).set (X.length+R0.length+1) y).set (X.length+R0.length) x=X++R0++x::(y::R2++Y):=by
     rw [←lP,List.set_comm _ _ (by omega)]
     exact Iz1 (X++R0) (R2++Y) y x
    refine ⟨(R0,y::R2),?_,⟨by simp only;rw [h1];simp,fun w hw=> ?_⟩,by simp⟩
    ·have:=Mj3 hC _ _ (X.length+R0.length) x y g0 g1 sw0 (a+((R0++[y]).length:Nat)) a (by simp;omega) (by simp;omega) (by omega) hx hy hlt lL w0 w2 (.i .i64 k) (Ad (X++R++x::Y)) N
     have e1:a+((R0++[y]).length:Nat) - 1=a+(R0.length:Int):=by simp;omega
     rw [e1] at this
     show L6.ev S N [w0,.i .i64 a,w2,.f g caps,.i .i64 k,Ad (X++R++x::Y),.i .i64 (a+((R0++[y]).length:Nat)),Ad (X++(R0++[y])++x::(R2++Y))]=_
     rw [e0]
     exact this
    ·rcases Ag.1 hw with rfl|hw
     ·exact Fr2.2 hlt
     ·exact h2 w hw
   ·right
    have hle:leC c y x=true:=Fr1.2 hlt
    refine ⟨_,?_,rfl,R0++[y],R2,h1,mb ht (by rw [h1] at hR;exact (E8.1 hR).1) hle,h2,rfl⟩
    have:=Cp2 hC _ (X.length+R0.length) x y g0 g1 (a+((R0++[y]).length:Nat)) a (by simp;omega) (by simp;omega) hx hy hlt lL w0 w2 (.i .i64 k) (Ad (X++R++x::Y)) N
    show L6.ev S N [w0,.i .i64 a,w2,.f g caps,.i .i64 k,Ad (X++R++x::Y),.i .i64 (a+((R0++[y]).length:Nat)),Ad (X++(R0++[y])++x::(R2++Y))]=_
    rw [e0,this,←e0]
    simp
theorem W2 (hC:Cmp g caps c P) (ht:TP (leC c)) (X A Y:List Rec) (a b:Int) (ha:a=X.length) (hb:b=a+A.length) (hP:∀y∈X++A++Y,P y) (hs:(X++A++Y).length≤1000000):
  ∃R,Stab (leC c) R A∧R.length=A.length∧S Wc 1048580 [Ad (X++A++Y),.i .i64 a,.i .i64 b,.f g caps]=some [Ad (X++R++Y)]:=by
 have hs2:=hs
 simp only [Az] at hs2
 cases A with
 |nil=>
  refine ⟨[],Rf _,rfl,?_⟩
  refine Gy3 (N:=2) rfl ?_
  simp only [Bc] at hb
  have h1:¬a+1<b:=by omega
  have key:oy.ev S 2 [Ad (X++[]++Y),.i .i64 a,.i .i64 b,.f g caps]=some (.yld 0 [Ad (X++[]++Y)]):=by
   generalize X++[]++Y=s at*
   refine Ev 0 (fun _=>[.i .i64 (a+1),Ad s]) (fun _=> .yld 0 [Ad s]) ?_ (by omega) (fun i hi=>absurd hi (by omega)) ⟨?_,rfl⟩
   ·simp (disch:=omega) only [EVT,EVM,EVC,xe,EVP,↓reduceIte,EV,Nat.reduceAdd,Nat.reduceEqDiff,Int.reduceToNat,reduceCtorEq]
   ·simp (disch:=omega) only [Qh,Jx,L2,h1,EVT,EVM,EVC,xe,EVP,↓reduceIte,EV,Nat.reduceAdd,Nat.reduceEqDiff,Int.reduceToNat,reduceCtorEq]
  generalize X++[]++Y=s at*
  simp (disch:=omega) only [Qh,Jx,L2,key,EVT,EVM,EVC,xe,EVP,↓reduceIte,EV,Nat.reduceAdd,Nat.reduceEqDiff,Int.reduceToNat,reduceCtorEq]
 |cons x0 A=>
  obtain ⟨N,hN⟩:∃N,N=A.length+3:=⟨_,rfl⟩
  simp only [A0] at hb hs2
  have key:=G4 (fn:=S) (N:=N) (η:=[Ad (X++x0::A++Y),.i .i64 a,.i .i64 b,.f g caps]) (id:=1) (init:=[.bin .add (.v 1) (.c (.i .i64 1)),.v 0]) (body:=Z8) (α:=List Rec×List Rec×List Rec)
   (fun w=>[.i .i64 (a+w.1.length),Ad (X++w.1++(w.2.2++Y))])
   (fun o=>∃R,Stab (leC c) R (x0::A)∧R.length=(x0::A).length∧o= .yld 0 [Ad (X++R++Y)])
   (fun w=>x0::A=w.2.1++w.2.2∧Stab (leC c) w.1 w.2.1∧w.1.length=w.2.1.length) (fun w=>w.2.2.length) ([x0],[x0],A) ?_ ⟨rfl,my _ _,rfl⟩ (by simp only;omega) ?_
  ·obtain ⟨o,h1,R,h2,h3,rfl⟩:=key
   refine ⟨R,h2,h3,?_⟩
   refine Gy3 (N:=N) rfl ?_
   have h4:oy.ev S N [Ad (X++x0::A++Y),.i .i64 a,.i .i64 b,.f g caps]=_:=h1
   clear h1
   generalize X++x0::A++Y=s at*
   generalize X++R++Y=u at*
   simp (disch:=omega) only [Qh,Jx,L2,h4,EVT,EVM,EVC,xe,EVP,↓reduceIte,EV,Nat.reduceAdd,Nat.reduceEqDiff,Int.reduceToNat,reduceCtorEq]
  ·simp only [A0,Bc]
   have e:X++[x0]++(A++Y)=X++x0::A++Y:=by simp
   rw [e]
   have e1:a+((0+1:Nat):Int)=a+1:=by omega
   rw [e1]
   generalize X++x0::A++Y=s at*
   simp (disch:=omega) only [EVT,EVM,EVC,xe,EVP,↓reduceIte,EV,Nat.reduceAdd,Nat.reduceEqDiff,Int.reduceToNat,reduceCtorEq]
  ·rintro ⟨R,D,Z⟩ ⟨h1,h2,h3⟩
   simp only at h1 h2 h3
   have hlen:=congrArg List.length h1
   simp only [Az,A0] at hlen
   cases Z with
   |nil=>
    right
    rw [D2] at h1
    subst h1
    refine ⟨_,?_,rfl,R,h2,h3,rfl⟩
    have hlt:¬a+(R.length:Int)<b:=by simp only [A0] at h3;omega
    simp only [Cv]
    generalize X++x0::A++Y=s at*
    have hu:(X++R++Y).length≤1000000:=by simp only [Az];omega
    generalize X++R++Y=u at*
    simp (disch:=omega) only [Qh,Jx,L2,hlt,EVT,EVM,EVC,xe,EVP,↓reduceIte,EV,Nat.reduceAdd,Nat.reduceEqDiff,Int.reduceToNat,reduceCtorEq]
   |cons x Z=>
    left
    simp only [A0] at hlen
    have hmem:∀y∈X++R++x::(Z++Y),P y:=fun y hy=>hP y (by
     rw [h1]
     have:=h2.mem ht y
     simp only [Br,Ag] at hy ⊢
     grind)
    have hlen2:(X++R++x::(Z++Y)).length≤1000000:=by simp only [Az,A0];omega
    obtain ⟨R1,R2,rfl,k1,k2,k3⟩:=Mj2 hC ht X R (Z++Y) x h2.sorted hmem hlen2 a (a+R.length) ha rfl (Ad (X++x0::A++Y)) (.i .i64 b) N (by omega)
    refine ⟨(R1++x::R2,D++[x],Z),?_,⟨by simp only;rw [h1];simp,Fg2 ht h2 k1 k2,by simp at h3 ⊢;omega⟩,by simp⟩
    have e1:a+((R1++x::R2).length:Nat)=a+((R1++R2).length:Nat)+1:=by simp;omega
    have hlt:a+((R1++R2).length:Nat)<b:=by omega
    show Z8.ev S N [Ad (X++x0::A++Y),.i .i64 a,.i .i64 b,.f g caps,.i .i64 (a+((R1++R2).length:Nat)),Ad (X++(R1++R2)++x::(Z++Y))]=some (.yld 1 [.i .i64 (a+((R1++x::R2).length:Nat)),Ad (X++(R1++x::R2)++(Z++Y))])
    rw [e1]
    have hb2:(R1++R2).length≤1000000:=by simp only [Az] at hlen2 ⊢;omega
    generalize (R1++R2).length=n at*
    generalize X++(R1++R2)++x::(Z++Y)=s1 at*
    generalize X++(R1++x::R2)++(Z++Y)=s2 at*
    generalize X++x0::A++Y=s at*
    simp (disch:=omega) only [Qh,Jx,L2,hlt,k3,EVT,EVM,EVC,xe,EVP,↓reduceIte,EV,Nat.reduceAdd,Nat.reduceEqDiff,Int.reduceToNat,reduceCtorEq]
end
end Go.X.G
/- Stable sorting: the Nw. -/
namespace Go.X.G
open Go Go.X
theorem js {α:Type} {le:α→α→Bool} (ht:TP le) {bs:Nat} {Y LY:List α} (h:Blk le bs Y LY) (hl:Y.length≤2*bs) (hb:bs<Y.length):Stab le (mrg le (Y.take bs) (Y.drop bs)) LY:=by
 have h1:=h.head
 have h2:=(h.tail).all (by rw [Bt];omega)
 have:=Stab.mrg ht h1 h2
 rwa [Bl] at this
theorem Blk.pre {α:Type} {le:α→α→Bool} {bs k:Nat} {Y LY:List α} (h:Blk le bs Y LY):Blk le bs (Y.take (k*bs)) (LY.take (k*bs)):=by
 refine ⟨by simp [h.len],fun j=> ?_⟩
 rw [List.drop_take,List.drop_take,Bg8,Bg8]
 by_cases hj:j<k
 ·have e:(j+1)*bs≤k*bs:=Bz _ hj
  rw [Nat.succ_mul] at e
  rw [N1 (by omega)]
  exact h.st j
 ·have e:k*bs≤j*bs:=Bz _ (by omega)
  rw [show k*bs - j*bs=0 by omega,Nat.min_eq_right (by omega),List.take_zero,List.take_zero]
  exact Rf le
section
variable {g:Nat} {caps:List PV} {c:Rec→Rec→Int} {P:Rec→Prop}
theorem Lq5 (hC:Cmp g caps c P) (ht:TP (leC c)) (l:List Rec) (hP:∀y∈l,P y) (hs:l.length≤1000000) (N:Nat) (hN:l.length+2<N):
  ∃(X LX Y:List Rec) (q:Nat),Cn3.ev S N [Ad l,.i .i64 l.length,.f g caps]=some (.yld 0 [.i .i64 X.length,Ad (X++Y)])∧l=LX++Y∧X.length=q*20∧Y.length<20∧Blk (leC c) 20 X LX∧∀y∈X++Y,P y:=by
 have key:=G4 (fn:=S) (N:=N) (η:=[Ad l,.i .i64 l.length,.f g caps]) (id:=1) (init:=[.c (.i .i64 0),.c (.i .i64 20),.v 0]) (body:=tz) (α:=List Rec×List Rec×List Rec×Nat)
  (fun w=>[.i .i64 (w.1.length:Int),.i .i64 ((w.1.length:Int)+20),Ad (w.1++w.2.2.1)])
  (fun o=>∃(X LX Y:List Rec) (q:Nat),o= .yld 0 [.i .i64 X.length,Ad (X++Y)]∧l=LX++Y∧X.length=q*20∧Y.length<20∧Blk (leC c) 20 X LX∧∀y∈X++Y,P y)
  (fun w=>l=w.2.1++w.2.2.1∧w.1.length=w.2.2.2*20∧Blk (leC c) 20 w.1 w.2.1∧∀y∈w.1++w.2.2.1,P y) (fun w=>w.2.2.1.length) ([],[],l,0) ?_ ⟨rfl,by simp,Blk.nil _ _,by simpa using hP⟩ (by simp only;omega) ?_
 ·obtain ⟨o,h1,X,LX,Y,q,rfl,h2⟩:=key
  exact ⟨X,LX,Y,q,h1,h2⟩
 ·simp (disch:=omega) only [EVT,EVM,EVC,xe,EVP,↓reduceIte,EV,Nat.reduceAdd,Nat.reduceEqDiff,Int.reduceToNat,reduceCtorEq]
  simp
 ·rintro ⟨X,LX,Y,q⟩ ⟨h1,h2,h3,h4⟩
  simp only at h1 h2 h3 h4
  have hlen:=congrArg List.length h1
  simp only [Az] at hlen
  have hXL:=h3.len
  by_cases hge:20≤Y.length
  ·left
   have eY:Y.take 20++Y.drop 20=Y:=Bl _ _
   have l1:(Y.take 20).length=20:=by rw [Al];omega
   have l2:(Y.drop 20).length=Y.length - 20:=Bt
   have eXY:X++Y.take 20++Y.drop 20=X++Y:=by rw [Ap,eY]
   obtain ⟨R,k1,k2,k3⟩:=W2 hC ht X (Y.take 20) (Y.drop 20) (X.length:Int) ((X.length:Int)+20) rfl (by omega) (by rw [eXY];exact h4) (by rw [eXY,Az];omega)
   rw [eXY] at k3
   refine ⟨(X++R,LX++Y.take 20,Y.drop 20,q+1),?_,⟨by simp only;rw [h1,Ap,eY],by simp only [Az];omega,Blk.app h2 h3 (Blk.one k1 k2 (by omega)),fun y hy=>h4 y ?_⟩,by simp only;omega⟩
   ·have e1:((X++R).length:Int)=(X.length:Int)+20:=by simp only [Az];omega
    have hge':(X.length:Int)+20≤(l.length:Int):=by omega
    simp only
    rw [e1]
    generalize X++R++Y.drop 20=s1 at*
    generalize X++Y=s0 at*
    simp (disch:=omega) only [Ql,hge',k3,Ej,Lw,EVT,EVM,EVC,xe,EVP,↓reduceIte,EV,Nat.reduceAdd,Nat.reduceEqDiff,Int.reduceToNat,reduceCtorEq]
   ·have:=k1.mem ht y
    simp only [Br] at hy
    rcases hy with (hy|hy)|hy
    ·simp [hy]
    ·exact Bg _ (Fj (this.1 hy))
    ·exact Bg _ (Gd hy)
  ·right
   have hge':¬(X.length:Int)+20≤(l.length:Int):=by omega
   refine ⟨.yld 0 [.i .i64 X.length,Ad (X++Y)],?_,rfl,X,LX,Y,q,rfl,h1,h2,by omega,h3,h4⟩
   simp only
   generalize X++Y=s0 at*
   simp (disch:=omega) only [Ql,hge',EVT,EVM,EVC,xe,EVP,↓reduceIte,EV,Nat.reduceAdd,Nat.reduceEqDiff,Int.reduceToNat,reduceCtorEq]
theorem Lq4 (hC:Cmp g caps c P) (ht:TP (leC c)) (l r:List Rec) (bs:Nat) (hbs:0<bs) (hbs2:bs<l.length) (hr:Blk (leC c) bs r l) (hP:∀y∈r,P y) (hs:l.length≤1000000) (w0:PV) (w3 w4 w5:PV) (N:Nat) (hN:l.length+2<N):
  ∃(X LX Y LY:List Rec) (q:Nat),Ch6.ev S N [w0,.i .i64 l.length,.f g caps,w3,w4,w5,.i .i64 bs,Ad r]=some (.yld 2 [.i .i64 X.length,Ad (X++Y)])∧l=LX++LY∧X.length=q*(2*bs)∧Y.length<2*bs∧Blk (leC c) (2*bs) X LX∧Blk (leC c) bs Y LY∧∀y∈X++Y,P y:=by
 have key:=G4 (fn:=S) (N:=N) (η:=[w0,.i .i64 l.length,.f g caps,w3,w4,w5,.i .i64 bs,Ad r]) (id:=3) (init:=[.c (.i .i64 0),.bin .mul (.c (.i .i64 2)) (.v 6),.v 7]) (body:=s7) (α:=(List Rec×List Rec)×(List Rec×List Rec)×Nat)
  (fun w=>[.i .i64 (w.1.1.length:Int),.i .i64 ((w.1.1.length:Int)+2*bs),Ad (w.1.1++w.2.1.1)])
  (fun o=>∃(X LX Y LY:List Rec) (q:Nat),o= .yld 2 [.i .i64 X.length,Ad (X++Y)]∧l=LX++LY∧X.length=q*(2*bs)∧Y.length<2*bs∧Blk (leC c) (2*bs) X LX∧Blk (leC c) bs Y LY∧∀y∈X++Y,P y)
  (fun w=>l=w.1.2++w.2.1.2∧w.1.1.length=w.2.2*(2*bs)∧Blk (leC c) (2*bs) w.1.1 w.1.2∧Blk (leC c) bs w.2.1.1 w.2.1.2∧∀y∈w.1.1++w.2.1.1,P y) (fun w=>w.2.1.1.length) (([],[]),(r,l),0) ?_ ⟨rfl,by simp,Blk.nil _ _,hr,by simpa using hP⟩ (by have:=hr.len;simp only;omega) ?_
 ·obtain ⟨o,h1,X,LX,Y,LY,q,rfl,h2⟩:=key
  exact ⟨X,LX,Y,LY,q,h1,h2⟩
 ·simp (disch:=omega) only [EVT,EVM,EVC,xe,EVP,↓reduceIte,EV,Nat.reduceAdd,Nat.reduceEqDiff,Int.reduceToNat,reduceCtorEq]
  simp
 ·rintro ⟨⟨X,LX⟩,⟨Y,LY⟩,q⟩ ⟨h1,h2,h3,h4,h5⟩
  simp only at h1 h2 h3 h4 h5
  have hlen:=congrArg List.length h1
  simp only [Az] at hlen
  have hXL:=h3.len
  have hYL:=h4.len
  by_cases hge:2*bs≤Y.length
  ·left
   have eY:Y.take (2*bs)++Y.drop (2*bs)=Y:=Bl _ _
   have l1:(Y.take (2*bs)).length=2*bs:=by rw [Al];omega
   have l2:(Y.drop (2*bs)).length=Y.length - 2*bs:=Bt
   have hp:=h4.pre (k:=2)
   have hz:Blk (leC c) bs (Y.drop (2*bs)) (LY.drop (2*bs)):=by
    have:=h4.tail.tail
    rwa [C8,C8,show bs+bs=2*bs by omega] at this
   have hst:=js ht hp (by omega) (by omega)
   have sA:((Y.take (2*bs)).take bs).Pairwise fun x y=>leC c x y=true:=hp.head.sorted
   have sB:((Y.take (2*bs)).drop bs).Pairwise fun x y=>leC c x y=true:=(hp.tail.all (by rw [Bt];omega)).sorted
   have lA:((Y.take (2*bs)).take bs).length=bs:=by rw [Al];omega
   have lB:((Y.take (2*bs)).drop bs).length=bs:=by rw [Bt];omega
   have eAB:(Y.take (2*bs)).take bs++(Y.take (2*bs)).drop bs=Y.take (2*bs):=Bl _ _
   generalize (Y.take (2*bs)).take bs=A at*
   generalize (Y.take (2*bs)).drop bs=B at*
   have eXY:X++A++B++Y.drop (2*bs)=X++Y:=by rw [Ap X,eAB,Ap,eY]
   have hm:=Kj hC ht (A.length+B.length) X A B (Y.drop (2*bs)) (X.length:Int) ((X.length:Int)+bs) ((X.length:Int)+2*bs) (Ac _) (by intro e;rw [e] at lA;simp at lA;omega) (by intro e;rw [e] at lB;simp at lB;omega) sA sB rfl (by omega) (by omega) (by rw [eXY,Az];omega) (by rw [eXY];exact h5)
   rw [eXY] at hm
   have lM:=Tb (leC c) A B
   have eL:LY.take (2*bs)++LY.drop (2*bs)=LY:=Bl _ _
   refine ⟨((X++mrg (leC c) A B,LX++LY.take (2*bs)),(Y.drop (2*bs),LY.drop (2*bs)),q+1),?_,⟨by simp only;rw [h1,Ap,eL],by simp only [Az];rw [Nat.succ_mul];omega,Blk.app h2 h3 (Blk.one hst (by rw [lM,Al];omega) (by omega)),hz,fun y hy=>h5 y ?_⟩,by simp only;omega⟩
   ·have e1:((X++mrg (leC c) A B).length:Int)=(X.length:Int)+2*bs:=by simp only [Az];omega
    have hge':(X.length:Int)+2*(bs:Int)≤(l.length:Int):=by omega
    simp only
    rw [e1]
    generalize X++mrg (leC c) A B++Y.drop (2*bs)=s1 at*
    generalize X++Y=s0 at*
    simp (disch:=omega) only [Ql,hge',hm,Ej,Lw,EVT,EVM,EVC,xe,EVP,↓reduceIte,EV,Nat.reduceAdd,Nat.reduceEqDiff,Int.reduceToNat,reduceCtorEq]
   ·rw [←eXY]
    simp only [Br,mrg_mem] at hy ⊢
    grind
  ·right
   have hge':¬(X.length:Int)+2*(bs:Int)≤(l.length:Int):=by omega
   refine ⟨.yld 2 [.i .i64 X.length,Ad (X++Y)],?_,rfl,X,LX,Y,LY,q,rfl,h1,h2,by omega,h3,h4,h5⟩
   simp only
   generalize X++Y=s0 at*
   simp (disch:=omega) only [Ql,hge',EVT,EVM,EVC,xe,EVP,↓reduceIte,EV,Nat.reduceAdd,Nat.reduceEqDiff,Int.reduceToNat,reduceCtorEq]
theorem Lq6 (hC:Cmp g caps c P) (ht:TP (leC c)) (l r:List Rec) (bs:Nat) (hbs:0<bs) (hbs2:bs<l.length) (hr:Blk (leC c) bs r l) (hP:∀y∈r,P y) (hs:l.length≤1000000) (w0 w3 w4 w5:PV) (N:Nat) (hN:l.length+2<N):
  ∃r',Blk (leC c) (2*bs) r' l∧(∀y∈r',P y)∧Z7.ev S N [w0,.i .i64 l.length,.f g caps,w3,w4,w5,.i .i64 bs,Ad r]=some (.yld 1 [.i .i64 ((2*bs:Nat):Int),Ad r']):=by
 obtain ⟨X,LX,Y,LY,q,k,h1,h2,h3,h4,h5,h6⟩:=Lq4 hC ht l r bs hbs hbs2 hr hP hs w0 w3 w4 w5 N hN
 have hlen:=congrArg List.length h1
 simp only [Az] at hlen
 have hXL:=h4.len
 have hYL:=h5.len
 have hlt:(bs:Int)<(l.length:Int):=by omega
 have e2:((2*bs:Nat):Int)=(bs:Int)*2:=by omega
 rw [e2]
 by_cases hge:bs<Y.length
 ·have eY:Y.take bs++Y.drop bs=Y:=Bl _ _
  have hst:=js ht h5 (by omega) hge
  have sA:=h5.head.sorted
  have sB:=(h5.tail.all (by rw [Bt];omega)).sorted
  have lA:(Y.take bs).length=bs:=by rw [Al];omega
  have lB:(Y.drop bs).length=Y.length - bs:=Bt
  generalize Y.take bs=A at*
  generalize Y.drop bs=B at*
  have eXY:X++A++B++[]=X++Y:=by rw [D2,Ap,eY]
  have hm:=Kj hC ht (A.length+B.length) X A B [] (X.length:Int) ((X.length:Int)+bs) (l.length:Int) (Ac _) (by intro e;rw [e] at lA;simp at lA;omega) (by intro e;rw [e] at lB;simp at lB;omega) sA sB rfl (by omega) (by omega) (by rw [eXY,Az];omega) (by rw [eXY];exact h6)
  rw [eXY,D2] at hm
  have lM:=Tb (leC c) A B
  refine ⟨X++mrg (leC c) A B,by rw [h1];exact Blk.app h2 h4 (Blk.one hst (by omega) (by omega)),fun y hy=>h6 y (by
   rw [←eXY]
   simp only [Br,mrg_mem] at hy ⊢
   grind),?_⟩
  have hge':(X.length:Int)+(bs:Int)<(l.length:Int):=by omega
  generalize X++mrg (leC c) A B=s1 at*
  generalize X++Y=s0 at*
  simp (disch:=omega) only [Ql,hlt,hge',k,hm,Ej,Lw,EVT,EVM,EVC,xe,EVP,↓reduceIte,EV,Nat.reduceAdd,Nat.reduceEqDiff,Int.reduceToNat,reduceCtorEq]
 ·refine ⟨X++Y,by rw [h1];exact Blk.app h2 h4 (Blk.one (h5.all (by omega)) hYL (by omega)),h6,?_⟩
  have hge':¬(X.length:Int)+(bs:Int)<(l.length:Int):=by omega
  generalize X++Y=s0 at*
  simp (disch:=omega) only [Ql,hlt,hge',k,EVT,EVM,EVC,xe,EVP,↓reduceIte,EV,Nat.reduceAdd,Nat.reduceEqDiff,Int.reduceToNat,reduceCtorEq]
theorem Bp5 (hC:Cmp g caps c P) (ht:TP (leC c)) (l:List Rec) (hP:∀y∈l,P y) (hs:l.length≤1000000):
  ∃r,Stab (leC c) r l∧r.length=l.length∧S gz 1048579 [Ad l,.i .i64 l.length,.f g caps]=some [Ad r]:=by
 obtain ⟨N,hN⟩:∃N,N=l.length+3:=⟨_,rfl⟩
 obtain ⟨X,LX,Y,q,k0,h1,h2,h3,h4,h5⟩:=Lq5 hC ht l hP hs N (by omega)
 have hlen:=congrArg List.length h1
 simp only [Az] at hlen
 have hXL:=h4.len
 obtain ⟨R,i1,i2,i3⟩:=W2 hC ht X Y [] (X.length:Int) (l.length:Int) rfl (by omega) (by simpa using h5) (by simp;omega)
 simp only [D2] at i3
 have hB:Blk (leC c) 20 (X++R) l:=by rw [h1];exact Blk.app h2 h4 (Blk.one i1 i2 (by omega))
 have hP':∀y∈X++R,P y:=fun y hy=>h5 y (by
  have:=i1.mem ht y
  simp only [Br] at hy ⊢
  grind)
 have key:=G4 (fn:=S) (N:=N) (η:=[Ad l,.i .i64 l.length,.f g caps,.i .i64 X.length,Ad (X++Y),Ad (X++R)]) (id:=1) (init:=[.c (.i .i64 20),.v 5]) (body:=Z7) (α:=Nat×List Rec)
  (fun w=>[.i .i64 (w.1:Int),Ad w.2])
  (fun o=>∃r,Stab (leC c) r l∧r.length=l.length∧o= .yld 0 [Ad r])
  (fun w=>0<w.1∧Blk (leC c) w.1 w.2 l∧∀y∈w.2,P y) (fun w=>l.length - w.1) (20,X++R) ?_ ⟨by simp,hB,hP'⟩ (by simp only;omega) ?_
 ·obtain ⟨o,k1,r,k2,k3,rfl⟩:=key
  refine ⟨r,k2,k3,?_⟩
  refine Jr0 (N:=N) rfl ?_
  have k4:Cl6.ev S N [Ad l,.i .i64 l.length,.f g caps,.i .i64 X.length,Ad (X++Y),Ad (X++R)]=_:=k1
  clear k1
  generalize X++Y=s0 at*
  generalize X++R=s1 at*
  simp (disch:=omega) only [Ql,k0,i3,k4,Ej,Lw,EVT,EVM,EVC,xe,EVP,↓reduceIte,EV,Nat.reduceAdd,Nat.reduceEqDiff,Int.reduceToNat,reduceCtorEq]
 ·generalize X++Y=s0 at*
  generalize X++R=s1 at*
  simp (disch:=omega) only [EVT,EVM,EVC,xe,EVP,↓reduceIte,EV,Nat.reduceAdd,Nat.reduceEqDiff,Int.reduceToNat,reduceCtorEq]
 ·rintro ⟨bs,r⟩ ⟨g1,g2,g3⟩
  simp only at g1 g2 g3
  have hr:=g2.len
  by_cases hlt:bs<l.length
  ·left
   obtain ⟨r',k1,k2,k3⟩:=Lq6 hC ht l r bs g1 hlt g2 g3 hs (Ad l) (.i .i64 X.length) (Ad (X++Y)) (Ad (X++R)) N (by omega)
   exact ⟨(2*bs,r'),k3,⟨by simp only;omega,k1,k2⟩,by simp only;omega⟩
  ·right
   have hlt':¬(bs:Int)<(l.length:Int):=by omega
   refine ⟨.yld 0 [Ad r],?_,rfl,r,g2.all (by omega),hr,rfl⟩
   generalize X++Y=s0 at*
   generalize X++R=s1 at*
   simp (disch:=omega) only [Ql,hlt',EVT,EVM,EVC,xe,EVP,↓reduceIte,EV,Nat.reduceAdd,Nat.reduceEqDiff,Int.reduceToNat,reduceCtorEq]
theorem Kh (hC:Cmp g caps c P) (ht:TP (leC c)) (l:List Rec) (hP:∀y∈l,P y) (hs:l.length≤1000000):
  ∃r,Stab (leC c) r l∧r.length=l.length∧S Cb0 1048578 [Ad l,.f g caps]=some [Ad r]:=by
 obtain ⟨r,h1,h2,h3⟩:=Bp5 hC ht l hP hs
 refine ⟨r,h1,h2,?_⟩
 refine Lx3 (N:=1) rfl ?_
 simp (disch:=omega) only [Ks4,h3,Ej,Lw,EVT,EVM,EVC,xe,EVP,↓reduceIte,EV,Nat.reduceAdd,Nat.reduceEqDiff,Int.reduceToNat,reduceCtorEq]
end
end Go.X.G
/- Records compacted: the library's function. -/
namespace Go.X.G
open Go Go.X
theorem uq (l:List Rec) (g:Nat) (caps:List PV) (eq2:Rec→Rec→Bool) (h:∀x∈l,∀y∈l,S g 2 (x.pv::y.pv::caps)=some [.b (eq2 x y)]) (hl:l.length≤1000000):S Cz9 1048578 [Ad l,.f g caps]=some [Ad (cpt eq2 l)]:=by
 refine Lx1 (N:=l.length+2) rfl ?_
 by_cases h2:(l.length:Int)<2
 ·have e:cpt eq2 l=l:=by
   match l,h2 with
   |[],_=>rfl
   |[x],_=>rfl
   |_::_::_,h=>simp at h;omega
  rw [e]
  simp (disch:=omega) only [Xs,h2,EVT,EVM,EVC,xe,EVP,↓reduceIte,EV,Nat.reduceAdd,Nat.reduceEqDiff,Int.reduceToNat,reduceCtorEq]
 ·-- the inner Gq, from a place where two neighbours are equal
  have inner:∀k:Nat,1≤k→k<l.length→cpt eq2 (l.take (k+1))=l.take k→∃s:List Rec,s.length=l.length∧s.take (cpt eq2 l).length=cpt eq2 l∧Gz6.ev S (l.length+2) [Ad l,.f g caps,.i .i64 (k:Int),Ad l,.b true]=some (.yld 2 [.i .i64 ((cpt eq2 l).length:Int),Ad s]):=by
   intro k hk1 hk hcp
   have key:=G4 (fn:=S) (N:=l.length+2) (η:=[Ad l,.f g caps,.i .i64 (k:Int),Ad l,.b true]) (id:=3) (init:=[(.v 2),(.c (.i .i64 (1))),(.v 3)]) (body:=En8) (α:=Nat×Nat×List Rec)
    (fun a=>[.i .i64 (a.1:Int),.i .i64 (a.2.1:Int),Ad a.2.2])
    (fun o=>∃s:List Rec,s.length=l.length∧s.take (cpt eq2 l).length=cpt eq2 l∧o= .yld 2 [.i .i64 ((cpt eq2 l).length:Int),Ad s])
    (fun a=>1≤a.2.1∧k+a.2.1≤l.length∧a.1<k+a.2.1∧a.2.2.length=l.length∧a.2.2.take a.1=cpt eq2 (l.take (k+a.2.1))∧(cpt eq2 (l.take (k+a.2.1))).length=a.1∧a.2.2.drop (k+a.2.1 - 1)=l.drop (k+a.2.1 - 1))
    (fun a=>l.length - a.2.1) (k,1,l) (by simp (disch:=omega) only [EVT,EVM,EVC,xe,EVP,↓reduceIte,EV,Nat.reduceAdd,Nat.reduceEqDiff,Int.reduceToNat,reduceCtorEq])
    ⟨by simp,by simp;omega,by simp,rfl,by simp only;rw [hcp],by simp only;rw [hcp,Al];omega,rfl⟩ (by simp only;omega) ?_
   ·obtain ⟨o,h3,s,h4,h5,rfl⟩:=key
    exact ⟨s,h4,h5,h3⟩
   ·rintro ⟨i,j,s⟩ ⟨a1,a2,a3,a4,a5,a6,a7⟩
    simp only at a1 a2 a3 a4 a5 a6 a7
    by_cases hj:k+j<l.length
    ·left
     have c1:s[k+j]? =l[k+j]? :=by
      have:=congrArg (fun q=>q[1]?) a7
      simp only [A6] at this
      rwa [show k+j - 1+1=k+j by omega] at this
     have c0:s[k+j - 1]? =l[k+j - 1]? :=by
      have:=congrArg (fun q=>q[0]?) a7
      simpa only [A6,D3] using this
     have g1:l[k+j]? =some (l[k+j]'hj):=Ax hj
     have g0:l[k+j - 1]? =some (l[k+j - 1]'(by omega)):=Ax (by omega)
     have tk:l.take (k+(j+1))=l.take (k+j)++[l[k+j]'hj]:=by rw [show k+(j+1)=(k+j)+1 by omega,B6,g1];rfl
     have ne:l.take (k+j)≠[]:=by intro h;have:=congrArg List.length h;rw [Al,Bc] at this;omega
     have gl:(l.take (k+j)).getLast ne=l[k+j - 1]'(by omega):=by
      rw [Jk]
      simp only [ux,Al]
      congr 1;omega
     have cs:=Mm eq2 (l[k+j]'hj) (l.take (k+j)) ne
     rw [←tk,gl] at cs
     have hc:=h (l[k+j]'hj) (D1 _) (l[k+j - 1]'(by omega)) (D1 _)
     generalize l[k+j]'hj=x at*
     generalize l[k+j - 1]'(by omega)=y at*
     have hjj:(j:Int)<(s.length:Int) - (k:Int):=by omega
     have i1:H6 16 (Ad s) (.i .i64 ((k:Int)+(j:Int)))=some x.pv:=by rw [O6 _ _ _ (by omega),show ((k:Int)+(j:Int)).toNat=k+j by omega,c1,g1];rfl
     have i0:H6 16 (Ad s) (.i .i64 ((k:Int)+((j:Int) - 1)))=some y.pv:=by rw [O6 _ _ _ (by omega),show ((k:Int)+((j:Int) - 1)).toNat=k+j - 1 by omega,c0,g0];rfl
     have ls:H5 16 (Ad s) (.i .i64 (k:Int)) (.i .i64 (s.length:Int))=some (Ad (s.drop k)):=by
      rw [Md _ _ _ _ _ (by omega) (by omega) (by omega)]
      simp
     have e1:(s.drop k)[j]? =some x:=by rw [A6,c1,g1]
     have e0:(s.drop k)[j - 1]? =some y:=by rw [A6,show k+(j - 1)=k+j - 1 by omega,c0,g0]
     have si:∃w,s[i]? =some w:=⟨_,Ax (by omega)⟩
     obtain ⟨w,si⟩:=si
     have ej:((j:Int) - 1).toNat=j - 1:=by omega
     by_cases hxy:eq2 x y=true
     ·refine ⟨(i,j+1,s),?_,⟨by simp,by simp only;omega,by simp only;omega,a4,?_,?_,?_⟩,by simp only;omega⟩
      ·simp (disch:=omega) only [Xs,hjj,i1,i0,ls,e1,e0,ej,hc,hxy,EVT,EVM,EVC,xe,EVP,↓reduceIte,EV,Nat.reduceAdd,Nat.reduceEqDiff,Int.reduceToNat,reduceCtorEq]
      ·simp only;rw [cs,a5];simp [hxy]
      ·simp only;rw [cs,Az,a6];simp [hxy]
      ·simp only
       rw [show k+(j+1) - 1=(k+j - 1)+1 by omega,←C8,←C8,a7]
     ·refine ⟨(i+1,j+1,s.set i x),?_,⟨by simp,by simp only;omega,by simp only;omega,by simpa using a4,?_,?_,?_⟩,by simp only;omega⟩
      ·simp (disch:=omega) only [Xs,hjj,i1,i0,ls,e1,e0,ej,si,hc,hxy,EVT,EVM,EVC,xe,EVP,↓reduceIte,EV,Nat.reduceAdd,Nat.reduceEqDiff,Int.reduceToNat,reduceCtorEq]
      ·simp only
       rw [cs,B6,List.getElem?_set_self (by omega),List.take_set_of_le (by omega),a5]
       simp [hxy]
      ·simp only;rw [cs,Az,a6];simp [hxy]
      ·simp only
       rw [show k+(j+1) - 1=(k+j - 1)+1 by omega,Iw8 (by omega),←C8,←C8,a7]
    ·right
     have ek:k+j=l.length:=by omega
     rw [ek,C2] at a5 a6
     have hjj:¬(j:Int)<(s.length:Int) - (k:Int):=by omega
     refine ⟨.yld 2 [.i .i64 (i:Int),Ad s],?_,rfl,s,a4,by rw [a6];exact a5,by rw [a6]⟩
     simp (disch:=omega) only [Xs,hjj,EVT,EVM,EVC,xe,EVP,↓reduceIte,EV,Nat.reduceAdd,Nat.reduceEqDiff,Int.reduceToNat,reduceCtorEq]
  have key:Gb4.ev S (l.length+2) [Ad l,.f g caps]=some (if cpt eq2 l=l then .yld 0 [Ad l] else .ret [Ad (cpt eq2 l)]):=by
   have:=G4 (fn:=S) (N:=l.length+2) (η:=[Ad l,.f g caps]) (id:=1) (init:=[(.c (.i .i64 (1))),(.v 0)]) (body:=Ep7) (α:=Nat)
    (fun k=>[.i .i64 (k:Int),Ad l]) (fun o=>o=if cpt eq2 l=l then .yld 0 [Ad l] else .ret [Ad (cpt eq2 l)])
    (fun k=>1≤k∧k≤l.length∧cpt eq2 (l.take k)=l.take k) (fun k=>l.length - k) 1 (by simp (disch:=omega) only [EVT,EVM,EVC,xe,EVP,↓reduceIte,EV,Nat.reduceAdd,Nat.reduceEqDiff,Int.reduceToNat,reduceCtorEq])
    ⟨Ac 1,by omega,by cases l with
     |nil=>simp at h2
     |cons x r=>rfl⟩ (by omega) ?_
   ·obtain ⟨o,h3,h4⟩:=this
    rw [←h4];exact h3
   ·rintro k ⟨k1,k2,k3⟩
    by_cases hk:k<l.length
    ·have g1:l[k]? =some l[k]:=Ax hk
     have g0:l[k - 1]? =some (l[k - 1]'(by omega)):=Ax (by omega)
     have tk:l.take (k+1)=l.take k++[l[k]]:=by rw [B6,g1];rfl
     have ne:l.take k≠[]:=by intro h;have:=congrArg List.length h;rw [Al,Bc] at this;omega
     have gl:(l.take k).getLast ne=l[k - 1]'(by omega):=by
      rw [Jk]
      simp only [ux,Al]
      congr 1;omega
     have cs:=Mm eq2 l[k] (l.take k) ne
     rw [←tk,gl,k3] at cs
     have hkk:(k:Int)<(l.length:Int):=by omega
     have i1:H6 16 (Ad l) (.i .i64 (k:Int))=some (l[k]).pv:=by rw [O6 _ _ _ (by omega),show ((k:Int)).toNat=k by omega,g1];rfl
     have i0:H6 16 (Ad l) (.i .i64 ((k:Int) - 1))=some (l[k - 1]'(by omega)).pv:=by rw [O6 _ _ _ (by omega),show ((k:Int) - 1).toNat=k - 1 by omega,g0];rfl
     have hc:=h l[k] (D1 _) (l[k - 1]'(by omega)) (D1 _)
     by_cases hxy:eq2 l[k] (l[k - 1]'(by omega))=true
     ·right
      have cs':cpt eq2 (l.take (k+1))=l.take k:=by rw [cs];simp [hxy]
      obtain ⟨s,s1,s2,s3⟩:=inner k k1 hk cs'
      have hlt:cpt eq2 l≠l:=by
       intro h
       have q:(cpt eq2 l).length≤(cpt eq2 (l.take (k+1))).length+(l.drop (k+1)).length:=by
        have:∀(b a:List Rec),a≠[]→(cpt eq2 (a++b)).length≤(cpt eq2 a).length+b.length:=by
         intro b
         induction b with
         |nil=>intro a _;simp
         |cons x r ih=>
          intro a ha
          have h1:=ih (a++[x]) (by simp)
          rw [Mm _ _ _ ha] at h1
          rw [show a++x::r=a++[x]++r by simp]
          refine Df h1 ?_
          rw [Az]
          split<;>simp<;>omega
        have h3:=this (l.drop (k+1)) (l.take (k+1)) (by intro h;have:=congrArg List.length h;rw [Al,Bc] at this;omega)
        rwa [Bl] at h3
       rw [h,cs',Al,Bt] at q
       omega
      have hlen:=Uc eq2 l
      refine ⟨.ret [Ad (cpt eq2 l)],?_,rfl,by rw [if_neg hlt]⟩
      generalize cpt eq2 l=fl at*
      have ls:H5 16 (Ad l) (.i .i64 (k:Int)) (.i .i64 (l.length:Int))=some (Ad (l.drop k)):=by
       rw [Md _ _ _ _ _ (by omega) (by omega) (by omega)]
       simp
      have hsl1:H5 16 (Ad s) (.i .i64 ((fl.length:Nat):Int)) (.i .i64 (s.length:Int))=some (Ad (s.drop fl.length)):=by
       rw [Md _ _ _ _ _ (by omega) (by omega) (by omega)]
       simp
      have hsl2:H5 16 (Ad s) (.i .i64 0) (.i .i64 ((fl.length:Nat):Int))=some (Ad fl):=by
       rw [Md _ _ _ _ _ (by omega) (by omega) (by omega)]
       simp [s2]
      have hrep:Lz 16 (.i .i64 ((s.length:Int) - (fl.length:Int))) Bh2=some (Ad (List.replicate (s.length - fl.length) zr)):=by
       rw [Fh6 _ (by omega) (by omega)]
       congr 3;omega
      have happ:Ic 16 (Ad fl) (Ad (List.replicate (s.length - fl.length) zr))=some (Ad (fl++List.replicate (s.length - fl.length) zr)):=Z9 _ _ (by simp;omega)
      have hsl3:H5 16 (Ad (fl++List.replicate (s.length - fl.length) zr)) (.i .i64 0) (.i .i64 ((fl.length:Nat):Int))=some (Ad fl):=by
       rw [Md _ _ _ _ _ (by omega) (by omega) (by simp;omega)]
       simp
      simp (disch:=omega) only [Xs,hkk,i1,i0,hc,hxy,ls,s3,hsl1,hsl2,hrep,happ,hsl3,EVT,EVM,EVC,xe,EVP,↓reduceIte,EV,Nat.reduceAdd,Nat.reduceEqDiff,Int.reduceToNat,reduceCtorEq]
     ·left
      refine ⟨k+1,?_,⟨by omega,by omega,?_⟩,by omega⟩
      ·simp (disch:=omega) only [Xs,hkk,i1,i0,hc,hxy,EVT,EVM,EVC,xe,EVP,↓reduceIte,EV,Nat.reduceAdd,Nat.reduceEqDiff,Int.reduceToNat,reduceCtorEq]
      ·rw [cs,tk];simp [hxy]
    ·right
     have e:k=l.length:=by omega
     subst e
     rw [C2] at k3
     refine ⟨_,?_,?_,rfl⟩
     ·rw [if_pos k3]
      simp (disch:=omega) only [Xs,EVT,EVM,EVC,xe,EVP,↓reduceIte,EV,Nat.reduceAdd,Nat.reduceEqDiff,Int.reduceToNat,reduceCtorEq]
     ·rw [if_pos k3];rfl
  by_cases hh:cpt eq2 l=l
  ·rw [if_pos hh] at key
   rw [hh]
   simp (disch:=omega) only [Xs,h2,key,EVT,EVM,EVC,xe,EVP,↓reduceIte,EV,Nat.reduceAdd,Nat.reduceEqDiff,Int.reduceToNat,reduceCtorEq]
  ·rw [if_neg hh] at key
   simp (disch:=omega) only [Xs,h2,key,EVT,EVM,EVC,xe,EVP,↓reduceIte,EV,Nat.reduceAdd,Nat.reduceEqDiff,Int.reduceToNat,reduceCtorEq]
end Go.X.G
/- Lists of records in the program: which are valid, their order, their sorting. -/
namespace Go.X.G
open Go Go.X
theorem Et4 (r:Rec) (h:r.wf):S Cc5 1 [r.pv]=some [.b (M1 r)]:=by
 refine Lb2 (N:=1) rfl ?_
 have g:r.name.length≤9223372036854775807:=h.name
 have h1:=B4 r.name g
 have h2:=C0 r.typ
 have h3:=V5 r.typ r.data h.data
 unfold M1
 by_cases k0:0≤r.ttl<;>by_cases k1:r.ttl≤2147483647
 all_goals rcases ch3 (vld r.name) (knw r.typ) (Dc r.typ r.data) with e0|⟨e0,e1⟩|⟨e0,e1,e2⟩|⟨e0,e1,e2⟩
 all_goals simp only [*] at h1 h2 h3
 all_goals simp (disch:=omega) only [Kt8,Zj,Fw,h1,h2,h3,EVC,xe,EVP,↓reduceIte,EV,Nat.reduceAdd,Nat.reduceEqDiff,Int.reduceToNat,reduceCtorEq, *]
 all_goals simp
theorem Iw6 (x:Int):S Wb 1 [.i .i64 x]=some [.b false]:=by
 refine Jm2 (N:=1) rfl ?_
 simp (disch:=omega) only [Jy5,EVC,xe,EVP,↓reduceIte,EV,Nat.reduceAdd,Nat.reduceEqDiff,Int.reduceToNat,reduceCtorEq]
theorem Fj8 (a b:Int):S Wn 2 [.i .i64 a,.i .i64 b]=some [.i .i64 (jp a b)]:=by
 refine Jp9 (N:=1) rfl ?_
 have h1:=Iw6 a
 have h2:=Iw6 b
 unfold jp
 by_cases k1:a<b
 ·simp (disch:=omega) only [Bm6,h1,h2,k1,EVC,xe,EVP,↓reduceIte,EV,Nat.reduceAdd,Nat.reduceEqDiff,Int.reduceToNat,reduceCtorEq]
 ·by_cases k2:b<a
  ·simp (disch:=omega) only [Bm6,h1,h2,k1,k2,EVC,xe,EVP,↓reduceIte,EV,Nat.reduceAdd,Nat.reduceEqDiff,Int.reduceToNat,reduceCtorEq]
  ·simp (disch:=omega) only [Bm6,h1,h2,k1,k2,EVC,xe,EVP,↓reduceIte,EV,Nat.reduceAdd,Nat.reduceEqDiff,Int.reduceToNat,reduceCtorEq]
theorem y8 (a b:Rec) (ha:a.wf) (hb:b.wf):S Bw5 2 [a.pv,b.pv]=some [.i .i64 (Nt a b)]:=by
 refine Lw9 (N:=1) rfl ?_
 have g1:a.name.length≤9223372036854775807:=ha.name
 have g2:b.name.length≤9223372036854775807:=hb.name
 have h1:=U0 a.name b.name g1 g2
 have h2:=Fj8 a.typ b.typ
 have h3:=uj a.typ a.data b.data ha.data hb.data
 unfold Nt
 by_cases k1:Iw a.name b.name=0
 ·by_cases k2:jp a.typ b.typ=0
  ·rw [k1] at h1
   rw [k2] at h2
   simp (disch:=omega) only [Ix1,Zj,Fw,h1,h2,h3,EVC,xe,EVP,↓reduceIte,EV,Nat.reduceAdd,Nat.reduceEqDiff,Int.reduceToNat,reduceCtorEq]
   simp [k1,k2]
  ·rw [k1] at h1
   simp (disch:=omega) only [Ix1,h1,h2,k2,EVC,xe,EVP,↓reduceIte,EV,Nat.reduceAdd,Nat.reduceEqDiff,Int.reduceToNat,reduceCtorEq]
   simp [k1,k2]
 ·simp (disch:=omega) only [Ix1,h1,k1,EVC,xe,EVP,↓reduceIte,EV,Nat.reduceAdd,Nat.reduceEqDiff,Int.reduceToNat,reduceCtorEq]
theorem t6 (a b:Rec) (ha:a.wf) (hb:b.wf):S Bw7 2 [a.pv,b.pv]=some [.i .i64 (Ip7 a b)]:=by
 refine Lx2 (N:=1) rfl ?_
 have h1:=y8 a b ha hb
 have h2:=Fj8 a.ttl b.ttl
 unfold Ip7
 by_cases k1:Nt a b=0
 ·rw [k1] at h1
  simp (disch:=omega) only [Jx5,h1,h2,EVC,xe,EVP,↓reduceIte,EV,Nat.reduceAdd,Nat.reduceEqDiff,Int.reduceToNat,reduceCtorEq]
  simp [k1]
 ·simp (disch:=omega) only [Jx5,h1,k1,EVC,xe,EVP,↓reduceIte,EV,Nat.reduceAdd,Nat.reduceEqDiff,Int.reduceToNat,reduceCtorEq]
theorem Ip5:Cmp Bw7 [] Ip7 Rec.wf:=⟨fun x y hx hy=>t6 x y hx hy⟩
theorem By1:leC Ip7=leR:=rfl
theorem Gq7 (a b:Rec) (ha:a.wf) (hb:b.wf):S Bw6 2 [a.pv,b.pv]=some [.b (eqF a b)]:=by
 refine Lx0 (N:=1) rfl ?_
 have h1:=y8 a b ha hb
 simp (disch:=omega) only [Ks3,h1,EVC,xe,EVP,↓reduceIte,EV,Nat.reduceAdd,Nat.reduceEqDiff,Int.reduceToNat,reduceCtorEq]
theorem Ar3 (l:List Rec) (hw:∀r∈l,r.wf) (hl:l.length≤1000000):S Bx4 1 [Ad l]=some [Ad (sortR l)]:=by
 refine Lb8 (N:=1) rfl ?_
 have h0:=Fj9 l hl
 obtain ⟨r,h1,h2,h3⟩:=Kh Ip5 (by rw [By1];exact Jd1) l hw hl
 rw [By1] at h1
 have hm:=h1.mem Jd1
 have h4:=uq r Bw6 [] eqF (fun x hx y hy=>Gq7 x y (hw x ((hm x).1 hx)) (hw y ((hm y).1 hy))) (by omega)
 rw [Yq h1] at h4
 simp (disch:=omega) only [Lj1,h0,h3,h4,Ej,Lw,EVT,EVM,EVC,xe,EVP,↓reduceIte,EV,Nat.reduceAdd,Nat.reduceEqDiff,Int.reduceToNat,reduceCtorEq]
end Go.X.G
/- Delegations and names of a zone, as the program finds them. -/
namespace Go.X.G
open Go Go.X
theorem Ct5 {z:Zone} {n b:List UInt8} {c:Rec} (hI:b=[]∨under n b=true):(if (Ch z c && under n c.name && (decide (b=[])||decide ((lbl c.name).length<(lbl b).length)))=true then c.name else b)=[]∨under n (if (Ch z c && under n c.name && (decide (b=[])||decide ((lbl c.name).length<(lbl b).length)))=true then c.name else b)=true:=by
 split
 ·rename_i h
  simp only [Av] at h
  exact .inr h.1.2
 ·exact hI
theorem Xp (z:Zone) (n:List UInt8) (hz:z.wf) (hl:z.recs.length≤1000000) (hn:n.length≤9223372036854775807):S fj 2 [z.pv,.s n]=some [.s (cutN z n),.b (decide (cutN z n≠[]))]:=by
 refine Ld3 (N:=z.recs.length+1) rfl ?_
 have g1:=hz.origin
 unfold K3 at g1
 have key:Gd7.ev S (z.recs.length+1) [z.pv,.s n]=some (.yld 0 [.s (Xk z n [] z.recs)]):=by
  refine En z.recs (fun i (b:List UInt8)=>[.s b,.i .i64 (i:Int)]) (fun i b r=> .yld 0 [.s (Xk z n b r)]) (fun i b=>b=[]∨under n b=true) [] rfl (.inl rfl) (by omega) (fun i b c r hd hi hc hI=> ?_) (fun b hI=> ?_)
  ·left
   have g2:=(hz.recs.2 c (Am hc)).name
   unfold K3 at g2
   refine ⟨if Ch z c && under n c.name && (decide (b=[])||decide ((lbl c.name).length<(lbl b).length)) then c.name else b,?_,Ct5 hI,rfl⟩
   by_cases h1:c.typ=2
   ·by_cases h2:c.name=z.origin
    ·simp (disch:=omega) only [X4,hc,h1,h2,EVM,EVC,xe,EVP,↓reduceIte,EV,Nat.reduceAdd,Nat.reduceEqDiff,Int.reduceToNat,reduceCtorEq]
     simp [Ch,Dn,h2]
    ·have k1:=Hj c.name z.origin g2 g1
     have k2:=Hj n c.name hn g2
     rcases Ak (under c.name z.origin) with h3|h3
     ·rcases Ak (under n c.name) with h4|h4
      ·by_cases h5:b=[]
       ·rw [h3] at k1
        rw [h4] at k2
        simp (disch:=omega) only [X4,hc,h1,h2,h3,h4,h5,k1,k2,EVM,EVC,xe,EVP,↓reduceIte,EV,Nat.reduceAdd,Nat.reduceEqDiff,Int.reduceToNat,reduceCtorEq]
        simp [Ch,Dn,h1,h2,h3,h4,h5]
       ·have hb:=hI.resolve_left h5
        have e:=Et3 h4 hb
        rw [h3] at k1
        rw [h4] at k2
        by_cases h6:c.name.length<b.length
        ·have h7:=e.1 h6
         have h8:(c.name.length:Int)<(b.length:Int):=by omega
         simp (disch:=omega) only [X4,hc,h1,h2,h3,h4,h5,h8,k1,k2,EVM,EVC,xe,EVP,↓reduceIte,EV,Nat.reduceAdd,Nat.reduceEqDiff,Int.reduceToNat,reduceCtorEq]
         simp [Ch,Dn,h1,h2,h3,h4,h5,h7]
        ·have h7:¬(lbl c.name).length<(lbl b).length:=fun q=>h6 (e.2 q)
         have h8:¬(c.name.length:Int)<(b.length:Int):=by omega
         simp (disch:=omega) only [X4,hc,h1,h2,h3,h4,h5,h8,k1,k2,EVM,EVC,xe,EVP,↓reduceIte,EV,Nat.reduceAdd,Nat.reduceEqDiff,Int.reduceToNat,reduceCtorEq]
         simp [Ch,Dn,h1,h2,h3,h4,h5,h7]
      ·rw [h3] at k1
       rw [h4] at k2
       simp (disch:=omega) only [X4,hc,h1,h2,h3,h4,k1,k2,EVM,EVC,xe,EVP,↓reduceIte,EV,Nat.reduceAdd,Nat.reduceEqDiff,Int.reduceToNat,reduceCtorEq]
       simp [Ch,Dn,h1,h2,h3,h4]
     ·rw [h3] at k1
      simp (disch:=omega) only [X4,hc,h1,h2,h3,k1,EVM,EVC,xe,EVP,↓reduceIte,EV,Nat.reduceAdd,Nat.reduceEqDiff,Int.reduceToNat,reduceCtorEq]
      simp [Ch,Dn,h1,h2,h3]
   ·simp (disch:=omega) only [X4,hc,h1,EVM,EVC,xe,EVP,↓reduceIte,EV,Nat.reduceAdd,Nat.reduceEqDiff,Int.reduceToNat,reduceCtorEq]
    simp [Ch,h1]
  ·simp (disch:=omega) only [X4,EVM,EVC,xe,EVP,↓reduceIte,EV,Nat.reduceAdd,Nat.reduceEqDiff,Int.reduceToNat,reduceCtorEq]
   simp [Xk,Out.goes]
 rw [show Xk z n [] z.recs=cutN z n from rfl] at key
 simp (disch:=omega) only [X4,key,EVM,EVC,xe,EVP,↓reduceIte,EV,Nat.reduceAdd,Nat.reduceEqDiff,Int.reduceToNat,reduceCtorEq]
 try simp
def cutsN (z:Zone):List (List UInt8):=setN ((z.recs.filter (Ch z)).map Rec.name)
theorem jl (z:Zone) (x:List UInt8):x∈cutsN z↔∃r∈z.recs,Ch z r=true∧r.name=x:=by
 unfold cutsN
 rw [Kq,D4]
 simp only [B0,and_assoc]
theorem Fg9 {l:List (List UInt8)} (h:∀x∈l,x.length≤9223372036854775807):∀x∈setN l,x.length≤9223372036854775807:=fun x hx=>h x ((Kq l x).1 hx)
theorem Xn (z:Zone) (hz:z.wf) (hl:z.recs.length≤1000000):S nc 1 [z.pv]=some [Bq (cutsN z)]:=by
 refine Lc8 (N:=z.recs.length+1) rfl ?_
 have g1:=hz.origin
 unfold K3 at g1
 have key:Gd2.ev S (z.recs.length+1) [z.pv]=some (.yld 0 [Bq ([]++(z.recs.filter (Ch z)).map Rec.name)]):=by
  refine En z.recs (fun i (b:List (List UInt8))=>[Bq b,.i .i64 (i:Int)]) (fun i b r=> .yld 0 [Bq (b++(r.filter (Ch z)).map Rec.name)]) (fun i b=>b.length≤i) [] rfl (Cg _) (by omega) (fun i b c r hd hi hc hI=> ?_) (fun b hI=> ?_)
  ·left
   have g2:=(hz.recs.2 c (Am hc)).name
   unfold K3 at g2
   refine ⟨if Ch z c then b++[c.name] else b,?_,by split<;>(try rw [Az,List.length_singleton])<;>omega,by rcases Ak (Ch z c) with q|q<;>simp [q]⟩
   by_cases h1:c.typ=2
   ·by_cases h2:c.name=z.origin
    ·simp (disch:=omega) only [Ar6,hc,h1,h2,EVM,EVC,xe,EVP,↓reduceIte,EV,Nat.reduceAdd,Nat.reduceEqDiff,Int.reduceToNat,reduceCtorEq]
     simp [Ch,Dn,h2]
    ·have k1:=Hj c.name z.origin g2 g1
     rcases Ak (under c.name z.origin) with h3|h3
     ·rw [h3] at k1
      simp (disch:=omega) only [Ar6,hc,h1,h2,h3,k1,EVM,EVC,xe,EVP,↓reduceIte,EV,Nat.reduceAdd,Nat.reduceEqDiff,Int.reduceToNat,reduceCtorEq]
      simp [Ch,Dn,h1,h2,h3]
     ·rw [h3] at k1
      simp (disch:=omega) only [Ar6,hc,h1,h2,h3,k1,EVM,EVC,xe,EVP,↓reduceIte,EV,Nat.reduceAdd,Nat.reduceEqDiff,Int.reduceToNat,reduceCtorEq]
      simp [Ch,Dn,h1,h2,h3]
   ·simp (disch:=omega) only [Ar6,hc,h1,EVM,EVC,xe,EVP,↓reduceIte,EV,Nat.reduceAdd,Nat.reduceEqDiff,Int.reduceToNat,reduceCtorEq]
    simp [Ch,h1]
  ·simp (disch:=omega) only [Ar6,EVM,EVC,xe,EVP,↓reduceIte,EV,Nat.reduceAdd,Nat.reduceEqDiff,Int.reduceToNat,reduceCtorEq]
   simp [Out.goes]
 rw [Cv] at key
 have hlen:((z.recs.filter (Ch z)).map Rec.name).length≤1000000:=by rw [Dt];exact Df (Dv _ _) hl
 have hw:∀x∈(z.recs.filter (Ch z)).map Rec.name,x.length≤9223372036854775807:=fun x hx=>by
  obtain ⟨r,hr,rfl⟩:=D4.1 hx
  exact (hz.recs.2 r (B0.1 hr).1).name
 have k1:=av _ hlen hw
 have k2:=N0 (((z.recs.filter (Ch z)).map Rec.name).mergeSort fun x y=> !decide (Iw y x<0)) (by rw [lw];exact hlen)
 rw [show cpt eqs (((z.recs.filter (Ch z)).map Rec.name).mergeSort fun x y=> !decide (Iw y x<0))=cutsN z from rfl] at k2
 generalize ((z.recs.filter (Ch z)).map Rec.name).mergeSort (fun x y=> !decide (Iw y x<0))=so at*
 generalize (z.recs.filter (Ch z)).map Rec.name=un at*
 simp (disch:=omega) only [Ar6,key,k1,k2,Ej,Lw,EVM,EVC,xe,EVP,↓reduceIte,EV,Nat.reduceAdd,Nat.reduceEqDiff,Int.reduceToNat,reduceCtorEq]
theorem Bt0 (l:List Rec) (hl:l.length≤1000000) (hw:∀r∈l,r.wf):S Cb5 1 [Ad l]=some [Bq (setN (l.map Rec.name))]:=by
 refine Lx9 (N:=l.length+1) rfl ?_
 have key:Gb5.ev S (l.length+1) [Ad l]=some (.yld 0 [Bq ([]++l.map Rec.name)]):=by
  refine En l (fun i (b:List (List UInt8))=>[Bq b,.i .i64 (i:Int)]) (fun i b r=> .yld 0 [Bq (b++r.map Rec.name)]) (fun i b=>b.length≤i) [] rfl (Cg _) (by omega) (fun i b c r hd hi hc hI=> ?_) (fun b hI=> ?_)
  ·left
   refine ⟨b++[c.name],?_,by simp;omega,by simp⟩
   simp (disch:=omega) only [Ix2,hc,EVM,EVC,xe,EVP,↓reduceIte,EV,Nat.reduceAdd,Nat.reduceEqDiff,Int.reduceToNat,reduceCtorEq]
  ·simp (disch:=omega) only [Ix2,EVM,EVC,xe,EVP,↓reduceIte,EV,Nat.reduceAdd,Nat.reduceEqDiff,Int.reduceToNat,reduceCtorEq]
   simp [Out.goes]
 rw [Cv] at key
 have hlen:(l.map Rec.name).length≤1000000:=by rw [Dt];exact hl
 have hw:∀x∈l.map Rec.name,x.length≤9223372036854775807:=fun x hx=>by
  obtain ⟨r,hr,rfl⟩:=D4.1 hx
  exact (hw r hr).name
 have k1:=av _ hlen hw
 have k2:=N0 ((l.map Rec.name).mergeSort fun x y=> !decide (Iw y x<0)) (by rw [lw];exact hlen)
 rw [show cpt eqs ((l.map Rec.name).mergeSort fun x y=> !decide (Iw y x<0))=setN (l.map Rec.name) from rfl] at k2
 generalize setN (l.map Rec.name)=se at*
 generalize (l.map Rec.name).mergeSort (fun x y=> !decide (Iw y x<0))=so at*
 generalize l.map Rec.name=un at*
 simp (disch:=omega) only [Ix2,key,k1,k2,Ej,Lw,EVM,EVC,xe,EVP,↓reduceIte,EV,Nat.reduceAdd,Nat.reduceEqDiff,Int.reduceToNat,reduceCtorEq]
theorem Fj2 (c owner:List UInt8) (hc:c.length≤9223372036854775807) (ho:owner.length≤9223372036854775807):S Bw8 1 [.s c,.s owner]=some [.b (decide (c≠owner) && under owner c)]:=by
 refine Lx8 (N:=1) rfl ?_
 have k1:=Hj owner c ho hc
 by_cases h:c=owner
 ·simp (disch:=omega) only [Jx7,h,EVM,EVC,xe,EVP,↓reduceIte,EV,Nat.reduceAdd,Nat.reduceEqDiff,Int.reduceToNat,reduceCtorEq]
  simp
 ·simp (disch:=omega) only [Jx7,h,k1,EVM,EVC,xe,EVP,↓reduceIte,EV,Nat.reduceAdd,Nat.reduceEqDiff,Int.reduceToNat,reduceCtorEq]
  simp
theorem Bh4 (z:Zone) (acc:List (List UInt8)) (n:List UInt8) (p1 p2 p3 p4 p5 p6:PV) (N:Nat) (hu:under n z.origin=true) (ha:acc.length≤1000000) (hN:1000<N) (hp2:H6 1 p2 p4=some (.s n)):
  Cl0.ev S N [z.pv,p1,p2,Bq acc,p4,p5,p6]=some (.yld 2 [Bq (acc++upN z.origin n)]):=by
 obtain ⟨v1,v2,_⟩:=B7.1 hu
 have hlb:=Gz n
 have h0:jn ((lbl n).drop 0)=n:=og v1
 have e0:upN z.origin n=(upN z.origin n).take ((lbl n).length - (lbl z.origin).length+1):=by
  rw [Cr];simp [upN]
 have:=Ev (fn:=S) (N:=N) (η:=[z.pv,p1,p2,Bq acc,p4,p5,p6]) (id:=3) (init:=[(.v 3),(.proj 0 (.idx 1 (.v 2) (.v 4)))]) (body:=Ep0) ((lbl n).length - (lbl z.origin).length) (fun k=>[Bq (acc++(upN z.origin n).take k),.s (jn ((lbl n).drop k))])
  (fun _=> .yld 2 [Bq (acc++upN z.origin n)]) ?_ (by omega) (fun k hk=> ?_) ?_
 ·exact this
 ·rw [h0]
  simp (disch:=omega) only [hp2,EVM,EVC,xe,EVP,↓reduceIte,EV,Nat.reduceAdd,Nat.reduceEqDiff,Int.reduceToNat,reduceCtorEq]
  simp
 ·left
  obtain ⟨q1,q2⟩:=Bn1 hu hk
  have q3:¬jn ((lbl n).drop k)=z.origin:=fun h=>by have:=(b9 hu (Nat.le_of_lt hk)).1 h;omega
  have q4:=Aj3 v1 k
  have k1:=Xb (jn ((lbl n).drop k)) (by omega)
  rw [q1,q2] at k1
  have q5:(upN z.origin n).take (k+1)=(upN z.origin n).take k++[jn ((lbl n).drop k)]:=by rw [B6,Pr (Nat.le_of_lt hk)];rfl
  rw [q5,←Ap]
  have q6:(acc++(upN z.origin n).take k).length≤1000300:=by rw [Az,Al];omega
  generalize acc++(upN z.origin n).take k=a at*
  refine ⟨?_,rfl⟩
  generalize jn ((lbl n).drop (k+1))=nx at*
  generalize jn ((lbl n).drop k)=cu at*
  simp (disch:=omega) only [lp,q3,k1,EVM,EVC,xe,EVP,↓reduceIte,EV,Nat.reduceAdd,Nat.reduceEqDiff,Int.reduceToNat,reduceCtorEq]
 ·have q3:=(b9 hu (Ac _)).2 rfl
  have q5:(upN z.origin n)=(upN z.origin n).take ((lbl n).length - (lbl z.origin).length)++[jn ((lbl n).drop ((lbl n).length - (lbl z.origin).length))]:=by
   have:=B6 (l:=upN z.origin n) (i:=(lbl n).length - (lbl z.origin).length)
   rw [Pr (Ac _)] at this
   rw [←e0] at this
   exact this
  rw [q3] at q5 ⊢
  have q6:(acc++(upN z.origin n).take ((lbl n).length - (lbl z.origin).length)).length≤1000300:=by rw [Az,Al];omega
  refine ⟨?_,rfl⟩
  conv=>rhs;rw [q5,←Ap]
  generalize acc++(upN z.origin n).take ((lbl n).length - (lbl z.origin).length)=a at*
  simp (disch:=omega) only [lp,EVM,EVC,xe,EVP,↓reduceIte,EV,Nat.reduceAdd,Nat.reduceEqDiff,Int.reduceToNat,reduceCtorEq]
theorem Gj8 (z:Zone) (owner:List UInt8):((cutsN z).any fun c=>decide (c≠owner) && under owner c)=T3 z owner:=by
 rw [Cn]
 unfold T3
 simp only [Cj,Av,decide_eq_true_eq,jl]
 constructor
 ·rintro ⟨x,⟨r,hr,h1,rfl⟩,h2,h3⟩
  exact ⟨r,hr,⟨h1,h2⟩,h3⟩
 ·rintro ⟨r,hr,⟨h1,h2⟩,h3⟩
  exact ⟨r.name,⟨r,hr,h1,rfl⟩,h2,h3⟩
def H4 (z:Zone) (n:List UInt8):Bool:=under n z.origin && !T3 z n
theorem N8 (z:Zone) (hz:z.wf) (hl:z.recs.length≤1000):S et 1 [z.pv]=some [Bq (namesN z)]:=by
 refine Lc6 (N:=z.recs.length+1001) rfl ?_
 have g1:=hz.origin
 unfold K3 at g1
 have k1:=Xn z hz (by omega)
 have k2:=Bt0 z.recs (by omega) (fun r hr=>hz.recs.2 r hr)
 have hol:(setN (z.recs.map Rec.name)).length≤z.recs.length:=by
  have:=Rh (z.recs.map Rec.name)
  rwa [Dt] at this
 have how:∀x∈setN (z.recs.map Rec.name),x.length≤9223372036854775807:=Fg9 fun x hx=>by
  obtain ⟨r,hr,rfl⟩:=D4.1 hx
  exact (hz.recs.2 r hr).name
 have hcl:(cutsN z).length≤1000000:=by
  have:=Rh ((z.recs.filter (Ch z)).map Rec.name)
  rw [Dt] at this
  have h2:=Dv (Ch z) z.recs
  show (setN ((z.recs.filter (Ch z)).map Rec.name)).length≤1000000
  omega
 have hcw:∀x∈cutsN z,x.length≤9223372036854775807:=fun x hx=>by
  obtain ⟨r,hr,_,rfl⟩:=(jl z x).1 hx
  exact (hz.recs.2 r hr).name
 have hmem:∀x,x∈((setN (z.recs.map Rec.name)).filter (H4 z)).flatMap (upN z.origin)↔Fk5 z x:=by
  intro x
  unfold Fk5 H4
  simp only [List.mem_flatMap,B0,Kq,D4,Av,A9]
  constructor
  ·rintro ⟨o,⟨⟨r,hr,rfl⟩,h1,h2⟩,h3⟩
   obtain ⟨h4,h5⟩:=(J8 h1).1 h3
   exact ⟨r,hr,h1,h2,h4,h5⟩
  ·rintro ⟨r,hr,h1,h2,h4,h5⟩
   exact ⟨r.name,⟨⟨r,hr,rfl⟩,h1,h2⟩,(J8 h1).2 ⟨h4,h5⟩⟩
 generalize hO:setN (z.recs.map Rec.name)=O at*
 have key:Gd0.ev S (z.recs.length+1001) [z.pv,Bq (cutsN z),Bq O]=some (.yld 0 [Bq ([]++(O.filter (H4 z)).flatMap (upN z.origin))]):=by
  refine En O (fun i (b:List (List UInt8))=>[Bq b,.i .i64 (i:Int)]) (fun i b r=> .yld 0 [Bq (b++(r.filter (H4 z)).flatMap (upN z.origin))]) (fun i b=>b.length≤256*i) [] rfl (Cg _) (by omega) (fun i b c r hd hi hc hI=> ?_) (fun b hI=> ?_)
  ·left
   have g2:=how c (Am hc)
   have k3:=Hj c z.origin g2 g1
   have hid:=Gj8 z c
   rcases Ak (under c z.origin) with h1|h1
   ·have k4:=Ry (cutsN z) Bw8 [.s c] _ hcl (fun x hx=>Fj2 x c (hcw x hx) g2)
    rw [hid] at k4
    rw [h1] at k3
    rcases Ak (T3 z c) with h2|h2
    ·refine ⟨b,?_,by omega,by simp [H4,h1,h2]⟩
     rw [h2] at k4
     generalize cutsN z=cz at*
     simp (disch:=omega) only [lp,hc,k3,k4,EVM,EVC,xe,EVP,↓reduceIte,EV,Nat.reduceAdd,Nat.reduceEqDiff,Int.reduceToNat,reduceCtorEq]
    ·have hu:=X8 z.origin c
     refine ⟨b++upN z.origin c,?_,by rw [Az];omega,by simp [H4,h1,h2]⟩
     rw [h2] at k4
     have k5:∀p5 p6,Cl0.ev S (z.recs.length+1001) [z.pv,Bq (cutsN z),Bq O,Bq b,.i .i64 (i:Int),p5,p6]=some (.yld 2 [Bq (b++upN z.origin c)]):=fun p5 p6=>Bh4 z b c _ _ (Bq b) _ p5 p6 _ h1 (by omega) (by omega) (by rw [Mh _ _ _ (by omega)];simp [hc])
     generalize b++upN z.origin c=b' at*
     generalize cutsN z=cz at*
     simp (disch:=omega) only [lp,hc,k3,k4,k5,EVM,EVC,xe,EVP,↓reduceIte,EV,Nat.reduceAdd,Nat.reduceEqDiff,Int.reduceToNat,reduceCtorEq]
   ·refine ⟨b,?_,by omega,by simp [H4,h1]⟩
    rw [h1] at k3
    generalize cutsN z=cz at*
    simp (disch:=omega) only [lp,hc,k3,EVM,EVC,xe,EVP,↓reduceIte,EV,Nat.reduceAdd,Nat.reduceEqDiff,Int.reduceToNat,reduceCtorEq]
  ·generalize cutsN z=cz at*
   simp (disch:=omega) only [lp,EVM,EVC,xe,EVP,↓reduceIte,EV,Nat.reduceAdd,Nat.reduceEqDiff,Int.reduceToNat,reduceCtorEq]
   simp [Out.goes]
 rw [Cv] at key
 have hxl:((O.filter (H4 z)).flatMap (upN z.origin)).length≤256*O.length:=by
  have:∀l:List (List UInt8),(l.flatMap (upN z.origin)).length≤256*l.length:=by
   intro l
   induction l with
   |nil=>simp
   |cons x r ih=>
    have:=X8 z.origin x
    rw [Fp,Az,A0];omega
  refine Df (this _) ?_
  have:=Dv (H4 z) O
  omega
 have hxw:∀x∈(O.filter (H4 z)).flatMap (upN z.origin),x.length≤9223372036854775807:=fun x hx=>by
  obtain ⟨r,hr,_,_,h4,_⟩:=(hmem x).1 hx
  have:=Lq (B7.1 h4).2.1
  omega
 have he:setN ((O.filter (H4 z)).flatMap (upN z.origin))=namesN z:=zw z _ hmem
 generalize (O.filter (H4 z)).flatMap (upN z.origin)=un at*
 have k6:=av un (by omega) hxw
 have k7:=N0 (un.mergeSort fun x y=> !decide (Iw y x<0)) (by rw [lw];omega)
 rw [show cpt eqs (un.mergeSort fun x y=> !decide (Iw y x<0))=setN un from rfl,he] at k7
 generalize un.mergeSort (fun x y=> !decide (Iw y x<0))=so at*
 generalize namesN z=nz at*
 generalize cutsN z=cz at*
 simp (disch:=omega) only [lp,k1,k2,key,k6,k7,Ej,Lw,EVM,EVC,xe,EVP,↓reduceIte,EV,Nat.reduceAdd,Nat.reduceEqDiff,Int.reduceToNat,reduceCtorEq]
end Go.X.G
/- Zones in the program: what is asked of the records of one name. -/
namespace Go.X.G
open Go Go.X
abbrev ltC:List UInt8×Int→List UInt8×Int→Prop:=fun p q=>ltB p.1 q.1∨(p.1=q.1∧p.2<q.2)
theorem to_C:TO ltC:=Fk3.prod Jd2
def ltQ (a b:Ques):Prop:=ltC (a.name,a.typ) (b.name,b.typ)
theorem to_Q:TO ltQ where
 irr:=fun a=>to_C.irr _
 tr:=fun a b c=>to_C.tr _ _ _
 tri:=fun a b=>by
  rcases to_C.tri (a.name,a.typ) (b.name,b.typ) with h|h|h
  ·exact .inl h
  ·injection h with h1 h2
   refine .inr (.inl ?_)
   cases a;cases b;simp only at h1 h2;rw [h1,h2]
  ·exact .inr (.inr h)
def qf (a b:Ques):Int:=if (Op.bytesLess a.name b.name||(decide (a.name=b.name) && decide (a.typ<b.typ)))=true then -1 else if a=b then 0 else 1
theorem Gr (a b:Ques):qf a b<0↔ltQ a b:=by
 unfold qf ltQ ltC
 simp only
 have e:(Op.bytesLess a.name b.name||(decide (a.name=b.name) && decide (a.typ<b.typ)))=true↔(ltB a.name b.name∨a.name=b.name∧a.typ<b.typ):=by
  simp only [An,Av,decide_eq_true_eq,Ul]
 by_cases h:ltB a.name b.name∨a.name=b.name∧a.typ<b.typ
 ·rw [if_pos (e.2 h)];simp [h]
 ·rw [if_neg (fun q=>h (e.1 q))]
  simp only [h,iff_false]
  split<;>omega
theorem qd (a b:Ques):S Vk 2 [a.pv,b.pv]=some [.i .i64 (qf a b)]:=by
 refine Lw4 (N:=1) rfl ?_
 unfold qf
 rcases Ak (Op.bytesLess a.name b.name) with h1|h1
 ·simp (disch:=omega) only [Bh7,h1,EVM,EVC,xe,EVP,↓reduceIte,EV,Nat.reduceAdd,Nat.reduceEqDiff,Int.reduceToNat,reduceCtorEq]
  simp
 ·by_cases h2:a.name=b.name
  ·by_cases h3:a.typ<b.typ
   ·rw [h2] at h1
    simp (disch:=omega) only [Bh7,h1,h2,h3,EVM,EVC,xe,EVP,↓reduceIte,EV,Nat.reduceAdd,Nat.reduceEqDiff,Int.reduceToNat,reduceCtorEq]
    simp
   ·rw [h2] at h1
    by_cases h4:a=b
    ·simp (disch:=omega) only [Bh7,h1,h2,h3,EVM,EVC,xe,EVP,↓reduceIte,EV,Nat.reduceAdd,Nat.reduceEqDiff,Int.reduceToNat,reduceCtorEq]
     simp [h4]
    ·simp (disch:=omega) only [Bh7,h1,h2,h3,h4,EVM,EVC,xe,EVP,↓reduceIte,EV,Nat.reduceAdd,Nat.reduceEqDiff,Int.reduceToNat,reduceCtorEq]
     simp [h4]
  ·have h4:¬a=b:=fun e=>h2 (by rw [e])
   simp (disch:=omega) only [Bh7,h1,h2,h4,EVM,EVC,xe,EVP,↓reduceIte,EV,Nat.reduceAdd,Nat.reduceEqDiff,Int.reduceToNat,reduceCtorEq]
   simp [h4]
def Iq (l:List Ques):PV:= .l 2 (l.map Ques.pv)
theorem Iz (l:List Ques):Gn (Iq l)=some (.i .i64 (l.length:Int)):=by simp [Iq,Gn]
theorem Kc (l:List Ques) (k:IntKind) (z:Int) (h:0≤z):H6 2 (Iq l) (.i k z)=(l[z.toNat]?).map Ques.pv:=by simp [Iq,ib _ _ _ _ h]
theorem Fp6 (x:Ques):J1 2 [x.pv]=some (Iq [x]):=rfl
theorem Et0 (l:List Ques) (x:Ques) (h:l.length+1≤1073741824):Ic 2 (Iq l) (Iq [x])=some (Iq (l++[x])):=by
 have:=Vg 2 (l.map Ques.pv) [x.pv] (by simpa using h)
 simpa [Iq] using this
def y5:PV→PV→Int
 | .a [.s a,.i _ t],.a [.s b,.i _ u]=>qf ⟨a,t⟩ ⟨b,u⟩
 |_,_=>0
theorem Gq6 (l:List Ques) (hl:l.length≤1000000):S nj 1048578 [Iq l,.f Vk []]=some [Iq (l.mergeSort fun x y=> !decide (qf y x<0))]:=by
 have hm:∀x∈l.map Ques.pv,∃a∈l,x=a.pv:=fun x hx=>by
  obtain ⟨a,h1,h2⟩:=D4.1 hx
  exact ⟨a,h1,h2.symm⟩
 have hc:∀a b:Ques,y5 a.pv b.pv=qf a b:=fun a b=>rfl
 have h:=y0 (tab:=tab) (xs:=Il4) (ss:=U6) (f:=nj) (s:=Gy1) Jf0 Jf7 (g:=Vk) (caps:=[]) (l:=l.map Ques.pv) (by decide) (by simp;omega)
  (fun x hx=>by obtain ⟨a,_,rfl⟩:=hm x hx;rfl) y5
  (fun x hx y hy=>by
   obtain ⟨a,ha,rfl⟩:=hm x hx
   obtain ⟨b,hb,rfl⟩:=hm y hy
   exact qd a b)
  (fun x hx=>by obtain ⟨a,_,rfl⟩:=hm x hx;rw [hc,Gr];exact to_Q.irr a)
  (fun x hx y hy z hz h1 h2=>by
   obtain ⟨a,_,rfl⟩:=hm x hx
   obtain ⟨b,_,rfl⟩:=hm y hy
   obtain ⟨c,_,rfl⟩:=hm z hz
   rw [hc] at*
   exact (Gr a c).2 (to_Q.tr _ _ _ ((Gr a b).1 h1) ((Gr b c).1 h2)))
  (fun x hx y hy z hz h1 h2=>by
   obtain ⟨a,_,rfl⟩:=hm x hx
   obtain ⟨b,_,rfl⟩:=hm y hy
   obtain ⟨c,_,rfl⟩:=hm z hz
   rw [hc] at*
   exact fun h3=>to_Q.ntr (fun q=>h1 ((Gr a b).2 q)) (fun q=>h2 ((Gr b c).2 q)) ((Gr a c).1 h3))
  (fun x hx y hy h1 h2=>by
   obtain ⟨a,_,rfl⟩:=hm x hx
   obtain ⟨b,_,rfl⟩:=hm y hy
   rw [hc] at*
   rcases to_Q.tri a b with q|q|q
   ·exact absurd ((Gr a b).2 q) h1
   ·rw [q]
   ·exact absurd ((Gr b a).2 q) h2)
 have e:(l.map Ques.pv).mergeSort (fun x y=> !decide (y5 y x<0))=(l.mergeSort fun x y=> !decide (qf y x<0)).map Ques.pv:=(Kr4 (r:=fun x y=> !decide (qf y x<0)) (s:=fun x y=> !decide (y5 y x<0)) (f:=Ques.pv) fun a _ b _=>rfl).symm
 rw [e] at h
 exact h
def Yb (p:Option Ques) (n:Nat):List Ques→Bool
 |[]=>false
 |k::r=>if 64<(if p=some k then n+1 else 1) then true else Yb (some k) (if p=some k then n+1 else 1) r
theorem Yz:∀(l:List Ques) (p:Ques) (n:Nat),(p::l).Pairwise (fun a b=>¬ltQ b a)→n≤64→(Yb (some p) n l=true↔(∃k,k≠p∧64<l.count k)∨64<n+l.count p)
 |[],p,n,_,hn=>by simp [Yb];omega
 |k::r,p,n,hs,hn=>by
  obtain ⟨h1,h2⟩:=As.1 hs
  by_cases e:p=k
  ·subst e
   by_cases hg:64<n+1
   ·simp only [Yb,if_true,hg]
    refine ⟨fun _=> .inr ?_,fun _=>trivial⟩
    rw [Gf];omega
   ·simp only [Yb,if_true,hg,if_false]
    rw [Yz r p (n+1) h2 (by omega),Gf]
    constructor
    ·rintro (⟨q,q1,q2⟩|q)
     ·exact .inl ⟨q,q1,by rw [F3 (fun e=>q1 e.symm)];exact q2⟩
     ·exact .inr (by omega)
    ·rintro (⟨q,q1,q2⟩|q)
     ·exact .inl ⟨q,q1,by rw [F3 (fun e=>q1 e.symm)] at q2;exact q2⟩
     ·exact .inr (by omega)
  ·have e':¬(some p=some k):=fun q=>e (by injection q)
   simp only [Yb,if_neg e',show¬64<1 by omega,if_false]
   rw [Yz r k 1 h2 (by omega)]
   have hlt:ltQ p k:=by
    rcases to_Q.tri p k with q|q|q
    ·exact q
    ·exact absurd q e
    ·exact absurd q (h1 k (.head _))
   have hno:∀y∈k::r,y≠p:=fun y hy q=>by
    subst q
    rcases Ag.1 hy with q|hy
    ·exact e q
    ·exact (As.1 h2).1 y hy hlt
   have h0:(k::r).count p=0:=Kr6.2 fun hm=>hno p hm rfl
   have h0r:r.count p=0:=Kr6.2 fun hm=>hno p (.tail _ hm) rfl
   rw [h0]
   constructor
   ·rintro (⟨q,q1,q2⟩|q)
    ·refine .inl ⟨q,fun w=>by rw [w,h0r] at q2;omega,?_⟩
     rw [F3 (fun w=>q1 w.symm)];exact q2
    ·refine .inl ⟨k,fun w=>e w.symm,?_⟩
     rw [Gf];omega
   ·rintro (⟨q,q1,q2⟩|q)
    ·by_cases w:q=k
     ·subst w
      rw [Gf] at q2
      exact .inr (by omega)
     ·rw [F3 (fun v=>w v.symm)] at q2
      exact .inl ⟨q,w,q2⟩
    ·omega
theorem Fh4 (l:List Ques) (hs:l.Pairwise (fun a b=>¬ltQ b a)):Yb none 0 l=true↔∃k,64<l.count k:=by
 cases l with
 |nil=>simp [Yb]
 |cons k r=>
  have e:¬((none:Option Ques)=some k):=by simp
  simp only [Yb,if_neg e,show¬64<1 by omega,if_false]
  rw [Yz r k 1 hs (by omega)]
  constructor
  ·rintro (⟨q,q1,q2⟩|q)
   ·exact ⟨q,by rw [F3 (fun w=>q1 w.symm)];exact q2⟩
   ·exact ⟨k,by rw [Gf];omega⟩
  ·rintro ⟨q,q2⟩
   by_cases w:q=k
   ·subst w
    rw [Gf] at q2
    exact .inr (by omega)
   ·rw [F3 (fun v=>w v.symm)] at q2
    exact .inl ⟨q,w,q2⟩
def kyQ (r:Rec):Ques:=⟨r.name,r.typ⟩
def Q5 (l:List Rec):Bool:=Yb none 0 ((l.map kyQ).mergeSort fun x y=> !decide (qf y x<0))
theorem Zl (n:List UInt8) (t:Int):∀l:List Rec,(l.map kyQ).count ⟨n,t⟩=(findR l n t).length
 |[]=>rfl
 |r::l=>by
  have ih:=Zl n t l
  unfold findR at ih ⊢
  rw [F5,H3]
  by_cases h:isK n t r=true
  ·rw [if_pos h]
   unfold isK at h
   simp only [Av,decide_eq_true_eq] at h
   have:kyQ r=⟨n,t⟩:=by unfold kyQ;rw [h.1,h.2]
   rw [this,Gf,ih,A0]
  ·rw [if_neg h]
   have:kyQ r≠⟨n,t⟩:=fun e=>h (by
    unfold kyQ at e
    injection e with e1 e2
    unfold isK;simp [e1,e2])
   rw [F3 this,ih]
theorem If3 (l:List Ques):(l.mergeSort fun x y=> !decide (qf y x<0)).Pairwise (fun a b=>¬ltQ b a):=by
 have:=List.pairwise_mergeSort (le:=fun x y:Ques=> !decide (qf y x<0)) (fun a b c h1 h2=>by
  simp only [A9,decide_eq_false_iff_not,Gr] at h1 h2 ⊢
  exact to_Q.ntr h2 h1) (fun a b=>by
  simp only [An,A9,decide_eq_false_iff_not,Gr]
  rcases to_Q.tri a b with h|h|h
  ·exact .inl (to_Q.asym h)
  ·subst h;exact .inl (to_Q.irr a)
  ·exact .inr (to_Q.asym h)) l
 refine this.imp fun {a b} h=> ?_
 simpa only [A9,decide_eq_false_iff_not,Gr] using h
theorem Bc8 (l:List Rec):Q5 l= !(l.all fun r=>decide ((findR l r.name r.typ).length≤64)):=by
 rw [Cn]
 unfold Q5
 rw [Fh4 _ (If3 _)]
 have hc:∀k,((l.map kyQ).mergeSort fun x y=> !decide (qf y x<0)).count k=(l.map kyQ).count k:=fun k=>(List.mergeSort_perm _ _).count_eq k
 simp only [hc,A9,List.all_eq_false,decide_eq_true_eq]
 constructor
 ·rintro ⟨⟨n,t⟩,h⟩
  rw [Zl] at h
  have hp:0<(findR l n t).length:=by omega
  obtain ⟨x,hx⟩:=List.length_pos_iff_exists_mem.1 hp
  obtain ⟨h3,h4⟩:=B0.1 hx
  unfold isK at h4
  simp only [Av,decide_eq_true_eq] at h4
  exact ⟨x,h3,by rw [h4.1,h4.2];omega⟩
 ·rintro ⟨r,h1,h2⟩
  exact ⟨kyQ r,by show 64<(l.map kyQ).count ⟨r.name,r.typ⟩;rw [Zl];omega⟩
theorem Bc7 (l:List Rec) (hl:l.length≤1000000):S Cc7 1 [Ad l]=some [.b (Q5 l)]:=by
 obtain ⟨N,hN⟩:∃N,N=l.length+1:=⟨_,rfl⟩
 refine Lb5 (N:=N) rfl ?_
 have k0:Gc4.ev S N [Ad l]=some (.yld 0 [Iq (l.map kyQ)]):=by
  refine Dq l (fun i=>[Iq ((l.take i).map kyQ),.i .i64 (i:Int)]) (fun i r=> .yld 0 [Iq (l.map kyQ)]) rfl (by omega) (fun i c r hd hi hc=> ?_) ?_
  ·left
   refine ⟨?_,rfl⟩
   have e:(l.take (i+1)).map kyQ=(l.take i).map kyQ++[kyQ c]:=by rw [B6,hc];simp
   have hsub:Js 0 2 c.pv=some (kyQ c).pv:=rfl
   have hlen:((l.take i).map kyQ).length≤1000000:=by rw [Dt,Al];omega
   rw [e]
   generalize (l.take i).map kyQ=a at*
   simp (disch:=omega) only [X1,hc,hsub,Fp6,Et0,Iz,Kc,EVM,EVC,xe,EVP,↓reduceIte,EV,Nat.reduceAdd,Nat.reduceEqDiff,Int.reduceToNat,reduceCtorEq]
  ·refine ⟨?_,rfl⟩
   have e:l.take l.length=l:=C2
   simp (disch:=omega) only [X1,e,Iz,Kc,EVM,EVC,xe,EVP,↓reduceIte,EV,Nat.reduceAdd,Nat.reduceEqDiff,Int.reduceToNat,reduceCtorEq]
 have hs:=Gq6 (l.map kyQ) (by simpa using hl)
 have hlen:((l.map kyQ).mergeSort fun x y=> !decide (qf y x<0)).length=l.length:=by simp
 unfold Q5
 generalize ((l.map kyQ).mergeSort fun x y=> !decide (qf y x<0))=ks at*
 have k1:Gz8.ev S N [Ad l,Iq (l.map kyQ),Iq ks]=some (if Yb none 0 ks=true then .ret [.b true] else .yld 0 []):=by
  refine En ks (fun i (g:Nat)=>[.i .i64 (g:Int),.i .i64 (i:Int)]) (fun i g r=>if Yb (if i=0 then none else ks[i - 1]?) g r=true then .ret [.b true] else .yld 0 []) (fun i g=>g≤64) 0 ?_ (by omega) (by omega) (fun i g c r hd hi hc hg=> ?_) (fun g hg=> ?_)
  ·simp (disch:=omega) only [EVC,xe,EVP,↓reduceIte,EV,Nat.reduceAdd,Nat.reduceEqDiff,Int.reduceToNat,reduceCtorEq]
  ·have hp:(if i=0 then none else ks[i - 1]?)=some c↔(0<i∧ks[i - 1]? =some c):=by
    by_cases h:i=0
    ·simp [h]
    ·simp [h];omega
   have hci:(if i+1=0 then none else ks[i+1 - 1]?)=some c:=by rw [if_neg (by omega),Xd,hc]
   have hsub:Js 0 2 c.pv=some c.pv:=rfl
   have eqq:∀x:Ques,K6 false true [.s,(.i .i64)] x.pv c.pv=some (.b (decide (x=c))):=fun x=>Mv0 false x c
   by_cases hsame:0<i∧ks[i - 1]? =some c
   ·have hp':=hp.2 hsame
    have hi0:(0:Int)<(i:Int):=by omega
    have ei:((i:Int) - 1).toNat=i - 1:=by omega
    have ei2:(i:Int).toNat=i:=by omega
    by_cases hgt:64<g+1
    ·right
     have hgt':(64:Int)<(g:Int)+1:=by omega
     have er:Yb (if i=0 then none else ks[i - 1]?) g (c::r)=true:=by rw [hp'];simp [Yb,hgt]
     rw [er]
     refine ⟨?_,rfl⟩
     simp (disch:=omega) only [X1,hc,hsame.2,hi0,ei,ei2,hgt',Iz,Kc,EVM,EVC,xe,EVP,↓reduceIte,EV,Nat.reduceAdd,Nat.reduceEqDiff,Int.reduceToNat,reduceCtorEq]
    ·left
     have hgt':¬(64:Int)<(g:Int)+1:=by omega
     refine ⟨g+1,?_,by omega,?_⟩
     ·simp (disch:=omega) only [X1,hc,hsame.2,hi0,ei,ei2,hgt',Iz,Kc,EVM,EVC,xe,EVP,↓reduceIte,EV,Nat.reduceAdd,Nat.reduceEqDiff,Int.reduceToNat,reduceCtorEq]
     ·rw [hp',hci]
      simp [Yb,hgt]
   ·left
    have hp':¬(if i=0 then none else ks[i - 1]?)=some c:=fun q=>hsame (hp.1 q)
    have ei:((i:Int) - 1).toNat=i - 1:=by omega
    have ei2:(i:Int).toNat=i:=by omega
    refine ⟨1,?_,by omega,?_⟩
    ·by_cases hi0:0<i
     ·have hi0':(0:Int)<(i:Int):=by omega
      obtain ⟨y,hy⟩:∃y,ks[i - 1]? =some y:=⟨_,Ax (by omega)⟩
      have hyc:¬y=c:=fun q=>hsame ⟨hi0,by rw [hy,q]⟩
      simp (disch:=omega) only [X1,hc,hy,hyc,hi0',ei,ei2,Iz,Kc,EVM,EVC,xe,EVP,↓reduceIte,EV,Nat.reduceAdd,Nat.reduceEqDiff,Int.reduceToNat,reduceCtorEq]
     ·have hi0':¬(0:Int)<(i:Int):=by omega
      simp (disch:=omega) only [X1,hc,hi0',ei2,Iz,Kc,EVM,EVC,xe,EVP,↓reduceIte,EV,Nat.reduceAdd,Nat.reduceEqDiff,Int.reduceToNat,reduceCtorEq]
    ·rw [hci]
     simp [Yb,hp']
  ·refine ⟨?_,by simp [Yb,Out.goes]⟩
   have hlt:¬(ks.length:Int)<(ks.length:Int):=by omega
   simp (disch:=omega) only [X1,hlt,Iz,Kc,EVM,EVC,xe,EVP,↓reduceIte,EV,Nat.reduceAdd,Nat.reduceEqDiff,Int.reduceToNat,reduceCtorEq]
   simp [Yb]
 have hrep:∃p,Lz 2 (.i .i64 (l.length:Int)) (Ques.pv ⟨[],0⟩)=some p:=by
  have h1:(l.length:Int)≤(LIM:Int):=by simp only [LIM];omega
  have h2:(Ques.pv ⟨[],0⟩).cells.length=2:=rfl
  simp [Lz,h1,h2]
 obtain ⟨p,hrep⟩:=hrep
 rcases Ak (Yb none 0 ks) with h|h
 ·rw [h,if_pos rfl] at k1
  rw [h]
  simp (disch:=omega) only [X1,hrep,k0,hs,k1,Iz,Ej,Lw,EVM,EVC,xe,EVP,↓reduceIte,EV,Nat.reduceAdd,Nat.reduceEqDiff,Int.reduceToNat,reduceCtorEq]
 ·rw [h,if_neg (by simp)] at k1
  rw [h]
  simp (disch:=omega) only [X1,hrep,k0,hs,k1,Iz,Ej,Lw,EVM,EVC,xe,EVP,↓reduceIte,EV,Nat.reduceAdd,Nat.reduceEqDiff,Int.reduceToNat,reduceCtorEq]
end Go.X.G
/- Zones in the program: Check, the Nw. -/
namespace Go.X.G
open Go Go.X
theorem Bf4 (t:Int):S gj 1 [.i .i64 t]=some [.b (decide (t=6)||decide (t=5)||decide (t=39))]:=by
 refine Jn7 (N:=1) rfl ?_
 by_cases h1:t=6
 ·simp (disch:=omega) only [Bm3,h1,EVC,xe,EVP,↓reduceIte,EV,Nat.reduceAdd,Nat.reduceEqDiff,Int.reduceToNat,reduceCtorEq]
  simp
 ·by_cases h2:t=5
  ·simp (disch:=omega) only [Bm3,h2,EVC,xe,EVP,↓reduceIte,EV,Nat.reduceAdd,Nat.reduceEqDiff,Int.reduceToNat,reduceCtorEq]
   simp
  ·simp (disch:=omega) only [Bm3,h1,h2,EVC,xe,EVP,↓reduceIte,EV,Nat.reduceAdd,Nat.reduceEqDiff,Int.reduceToNat,reduceCtorEq]
   simp
theorem Fq1 (r:Rec) (t:Int):S Bw0 1 [r.pv,.i .i64 t]=some [.b (decide (r.typ=t))]:=by
 refine Lv9 (N:=1) rfl ?_
 simp (disch:=omega) only [Kr8,EVC,xe,EVP,↓reduceIte,EV,Nat.reduceAdd,Nat.reduceEqDiff,Int.reduceToNat,reduceCtorEq]
theorem J6 (g:List Rec) (t:Int) (hl:g.length≤1000000):S Ol 2 [Ad g,.i .i64 t]=some [.b (F7 g t)]:=by
 refine Lz8 (N:=1) rfl ?_
 have h:=Ij g Bw0 [.i .i64 t] (fun r=>decide (r.typ=t)) hl (fun r _=>Fq1 r t)
 simp (disch:=omega) only [Kt7,h,EVC,xe,EVP,↓reduceIte,EV,Nat.reduceAdd,Nat.reduceEqDiff,Int.reduceToNat,reduceCtorEq]
 rfl
def Jc (l:List Int):PV:= .l 1 (l.map (PV.i .i64))
theorem Ot (l:List Int):Gn (Jc l)=some (.i .i64 (l.length:Int)):=by simp [Jc,Gn]
theorem Y8 (l:List Int) (k:IntKind) (z:Int) (h:0≤z):H6 1 (Jc l) (.i k z)=(l[z.toNat]?).map (PV.i .i64):=by simp [Jc,ib _ _ _ _ h]
theorem dt (l:List Int):Bm 0 (Jc l)=some (Jc l):=rfl
theorem Br6 (l:List Int):It (Jc l)=some (Jc l):=rfl
theorem Fj4 (l:List Int) (x:Int) (hl:l.length≤1000000):∃k:Int,(0≤k↔x∈l)∧S fg 2 [Jc l,.i .i64 x]=some [.i .i64 k]:=by
 have go:∀(i:Nat) (l:List Int),∃k:Int,k=(match l.findIdx? (·=x) with|some j=>((i+j:Nat):Int)|none=> -1)∧(0≤k↔x∈l):=by
  intro i l
  refine ⟨_,rfl,?_⟩
  cases h:l.findIdx? (·=x) with
  |none=>
   rw [List.findIdx?_eq_none_iff] at h
   simp only
   constructor
   ·intro h2;omega
   ·intro h2;have:=h x h2;simp at this
  |some j=>
   simp only
   constructor
   ·intro _
    rw [List.findIdx?_eq_some_iff_getElem] at h
    obtain ⟨h1,h2,_⟩:=h
    simp at h2
    rw [←h2];exact D1 _
   ·intro _;omega
 obtain ⟨k,hk,hk2⟩:=go 0 l
 refine ⟨k,hk2,?_⟩
 refine Jl5 (N:=l.length+1) rfl ?_
 have key:Cm6.ev S (l.length+1) [Jc l,.i .i64 x]=some (match l.findIdx? (·=x) with|some j=> .ret [.i .i64 ((0+j:Nat):Int)]|none=> .yld 0 []):=by
  refine Dq l (fun i=>[.i .i64 (i:Int)]) (fun i r=>match r.findIdx? (·=x) with|some j=> .ret [.i .i64 ((i+j:Nat):Int)]|none=> .yld 0 []) rfl (by omega) (fun i c r hd hi hc=> ?_) ?_
  ·by_cases h:x=c
   ·right
    subst h
    simp (disch:=omega) only [bf,hc,Ot,Y8,EVM,EVC,xe,EVP,↓reduceIte,EV,Nat.reduceAdd,Nat.reduceEqDiff,Int.reduceToNat,reduceCtorEq]
    simp [Kr5,Out.goes]
   ·left
    have h':¬c=x:=fun e=>h e.symm
    simp (disch:=omega) only [bf,hc,h,h',Ot,Y8,EVM,EVC,xe,EVP,↓reduceIte,EV,Nat.reduceAdd,Nat.reduceEqDiff,Int.reduceToNat,reduceCtorEq]
    refine ⟨trivial,?_⟩
    simp only [Kr5,h',decide_false,Ab,if_false]
    cases r.findIdx? (·=x) with
    |none=>rfl
    |some j=>simp;omega
  ·simp (disch:=omega) only [bf,Ot,Y8,EVM,EVC,xe,EVP,↓reduceIte,EV,Nat.reduceAdd,Nat.reduceEqDiff,Int.reduceToNat,reduceCtorEq]
   simp [Out.goes]
 rw [hk]
 cases h:l.findIdx? (·=x) with
 |none=>
  rw [h] at key
  simp (disch:=omega) only [bf,key,Ot,EVM,EVC,xe,EVP,↓reduceIte,EV,Nat.reduceAdd,Nat.reduceEqDiff,Int.reduceToNat,reduceCtorEq]
 |some j=>
  rw [h] at key
  simp (disch:=omega) only [bf,key,Ot,EVM,EVC,xe,EVP,↓reduceIte,EV,Nat.reduceAdd,Nat.reduceEqDiff,Int.reduceToNat,reduceCtorEq]
theorem kg (l:List Int) (x:Int) (hl:l.length≤1000000):S f9 2 [Jc l,.i .i64 x]=some [.b (decide (x∈l))]:=by
 refine Jn5 (N:=1) rfl ?_
 obtain ⟨k,h1,h2⟩:=Fj4 l x hl
 simp (disch:=omega) only [Jz3,h2,EVM,EVC,xe,EVP,↓reduceIte,EV,Nat.reduceAdd,Nat.reduceEqDiff,Int.reduceToNat,reduceCtorEq]
 simp [h1]
theorem Bh3 (r:Rec) (ts:List Int) (hl:ts.length≤1000000):S Wh 1 [r.pv,Jc ts]=some [.b (!decide (r.typ∈ts))]:=by
 refine Jn6 (N:=1) rfl ?_
 have h:=kg ts r.typ hl
 simp (disch:=omega) only [Jz4,dt,h,EVC,xe,EVP,↓reduceIte,EV,Nat.reduceAdd,Nat.reduceEqDiff,Int.reduceToNat,reduceCtorEq]
theorem Xl (g:List Rec) (ts:List Int) (hl:g.length≤1000000) (ht:ts.length≤1000000):S Vj 2 [Ad g,Jc ts]=some [.b (I9 g ts)]:=by
 refine Lw0 (N:=1) rfl ?_
 have h:=Ij g Wh [Jc ts] (fun r=> !decide (r.typ∈ts)) hl (fun r _=>Bh3 r ts ht)
 have e:(!(g.any fun r=> !decide (r.typ∈ts)))=I9 g ts:=by
  unfold I9;rw [List.not_any_eq_all_not];simp
 rw [←e]
 generalize (g.any fun r=> !decide (r.typ∈ts))=b at*
 simp (disch:=omega) only [Kr9,dt,Br6,h,EVC,xe,EVP,↓reduceIte,EV,Nat.reduceAdd,Nat.reduceEqDiff,Int.reduceToNat,reduceCtorEq]
theorem lg (g:List Rec) (hl:g.length≤1000000):S Cz7 1 [Ad g]=some [.b (Fk2 g)]:=by
 obtain ⟨N,hN⟩:∃N,N=g.length+2:=⟨_,rfl⟩
 refine Lw1 (N:=N) rfl ?_
 have key:Gb1.ev S N [Ad g]=some (if Fk2 g=true then .yld 0 [] else .ret [.b false]):=by
  cases g with
  |nil=>
   refine Ev 0 (fun _=>[.i .i64 1]) (fun _=> .yld 0 []) ?_ (by omega) (fun i hi=>absurd hi (by omega)) ⟨?_,rfl⟩
   ·simp (disch:=omega) only [EVC,xe,EVP,↓reduceIte,EV,Nat.reduceAdd,Nat.reduceEqDiff,Int.reduceToNat,reduceCtorEq]
   ·have hlt:¬(1:Int)<(([]:List Rec).length:Int):=by simp
    simp (disch:=omega) only [Xr,hlt,EVC,xe,EVP,↓reduceIte,EV,Nat.reduceAdd,Nat.reduceEqDiff,Int.reduceToNat,reduceCtorEq]
  |cons p r=>
   have hlr:(p::r).length=r.length+1:=rfl
   have:=Dq (fn:=S) (N:=N) (η:=[Ad (p::r)]) (id:=1) (init:=[.c (.i .i64 1)]) (body:=Ep5) r (fun i=>[.i .i64 ((i:Int)+1)]) (fun i l=>if (match (p::r)[i]? with|some q=>Vr q l|none=>true)=true then .yld 0 [] else .ret [.b false]) ?_ (by omega) (fun i c l hd hi hc=> ?_) ?_
   ·exact this
   ·simp (disch:=omega) only [EVC,xe,EVP,↓reduceIte,EV,Nat.reduceAdd,Nat.reduceEqDiff,Int.reduceToNat,reduceCtorEq]
    try rfl
   ·obtain ⟨q,hq⟩:∃q,(p::r)[i]? =some q:=⟨_,Ax (by rw [hlr];omega)⟩
    have hc':(p::r)[i+1]? =some c:=by simpa using hc
    have e1:((i:Int)+1 - 1).toNat=i:=by omega
    have e2:((i:Int)+1).toNat=i+1:=by omega
    have hlt:(i:Int)+1<((p::r).length:Int):=by rw [hlr];omega
    have hsg:=Bf4 c.typ
    rw [hq,hc']
    generalize (p::r)=g' at*
    have step:Vr q (c::l)=((!decide (c.typ=q.typ)||(!(decide (c.typ=6)||decide (c.typ=5)||decide (c.typ=39)) && (decide (c.typ=46)||decide (c.ttl=q.ttl)))) && Vr c l):=rfl
    by_cases h1:c.typ=q.typ
    ·rcases Ak (decide (c.typ=6)||decide (c.typ=5)||decide (c.typ=39)) with h2|h2
     ·right
      have er:Vr q (c::l)=false:=by rw [step,h2];simp [h1]
      rw [h2] at hsg
      simp only [er,Ab,if_false]
      refine ⟨?_,rfl⟩
      rw [h1] at hsg
      simp (disch:=omega) only [Xr,hlt,e1,e2,hq,hc',h1,hsg,EVC,xe,EVP,↓reduceIte,EV,Nat.reduceAdd,Nat.reduceEqDiff,Int.reduceToNat,reduceCtorEq]
     ·rw [h2] at hsg
      rw [h2] at step
      rw [h1] at hsg
      by_cases h3:c.typ=46
      ·left
       have er:Vr q (c::l)=Vr c l:=by rw [step];simp [h3]
       have h3':q.typ=46:=by rw [←h1];exact h3
       rw [h3'] at hsg
       refine ⟨?_,by simp only [er]⟩
       simp (disch:=omega) only [Xr,hlt,e1,e2,hq,hc',h1,h3',hsg,EVC,xe,EVP,↓reduceIte,EV,Nat.reduceAdd,Nat.reduceEqDiff,Int.reduceToNat,reduceCtorEq]
       try simp
      ·have h3':¬q.typ=46:=by rw [←h1];exact h3
       by_cases h4:c.ttl=q.ttl
       ·left
        have er:Vr q (c::l)=Vr c l:=by rw [step];simp [h4]
        refine ⟨?_,by simp only [er]⟩
        simp (disch:=omega) only [Xr,hlt,e1,e2,hq,hc',h1,h3',h4,hsg,EVC,xe,EVP,↓reduceIte,EV,Nat.reduceAdd,Nat.reduceEqDiff,Int.reduceToNat,reduceCtorEq]
        try simp
       ·right
        have er:Vr q (c::l)=false:=by rw [step];simp [h1,h3',h4]
        simp only [er,Ab,if_false]
        refine ⟨?_,rfl⟩
        simp (disch:=omega) only [Xr,hlt,e1,e2,hq,hc',h1,h3',h4,hsg,EVC,xe,EVP,↓reduceIte,EV,Nat.reduceAdd,Nat.reduceEqDiff,Int.reduceToNat,reduceCtorEq]
    ·left
     have er:Vr q (c::l)=Vr c l:=by rw [step];simp [h1]
     refine ⟨?_,by simp only [er]⟩
     simp (disch:=omega) only [Xr,hlt,e1,e2,hq,hc',h1,EVC,xe,EVP,↓reduceIte,EV,Nat.reduceAdd,Nat.reduceEqDiff,Int.reduceToNat,reduceCtorEq]
     try simp
   ·have hlt:¬(r.length:Int)+1<((p::r).length:Int):=by rw [hlr];omega
    obtain ⟨q,hq⟩:∃q,(p::r)[r.length]? =some q:=⟨_,Ax (by rw [hlr];omega)⟩
    rw [hq]
    refine ⟨?_,by simp [Vr,Out.goes]⟩
    generalize (p::r)=g' at*
    simp (disch:=omega) only [Xr,hlt,EVC,xe,EVP,↓reduceIte,EV,Nat.reduceAdd,Nat.reduceEqDiff,Int.reduceToNat,reduceCtorEq]
    simp [Vr]
 rcases Ak (Fk2 g) with h|h
 ·rw [h,if_pos rfl] at key
  rw [h]
  simp (disch:=omega) only [Xr,key,EVC,xe,EVP,↓reduceIte,EV,Nat.reduceAdd,Nat.reduceEqDiff,Int.reduceToNat,reduceCtorEq]
 ·rw [h,if_neg (by simp)] at key
  rw [h]
  simp (disch:=omega) only [Xr,key,EVC,xe,EVP,↓reduceIte,EV,Nat.reduceAdd,Nat.reduceEqDiff,Int.reduceToNat,reduceCtorEq]
theorem Fj6 (a b:List Rec) (ha:a.length≤1000000) (hb:b.length≤1000000):S Cc4 2 [Ad a,Ad b]=some [.b (decide (a=b))]:=by
 obtain ⟨N,hN⟩:∃N,N=a.length+1:=⟨_,rfl⟩
 refine Lb1 (N:=N) rfl ?_
 by_cases hl:a.length=b.length
 ·have key:Gc3.ev S N [Ad a,Ad b]=some (if a.drop 0=b.drop 0 then .yld 0 [] else .ret [.b false]):=by
   refine Ev a.length (fun i=>[.i .i64 (i:Int)]) (fun i=>if a.drop i=b.drop i then .yld 0 [] else .ret [.b false]) rfl (by omega) (fun i hi=> ?_) ?_
   ·have h1:a[i]? =some a[i]:=Ax hi
    have h2:b[i]? =some b[i]:=Ax (by omega)
    have d1:a.drop i=a[i]::a.drop (i+1):=Bp hi
    have d2:b.drop i=b[i]::b.drop (i+1):=Bp (by omega)
    rw [d1,d2]
    generalize a[i]=x at*
    generalize b[i]'(by omega)=y at*
    have hlt:(i:Int)<(a.length:Int):=by omega
    by_cases h:x=y
    ·left
     subst h
     refine ⟨?_,by simp⟩
     simp (disch:=omega) only [Ar5,hlt,h1,h2,EVC,xe,EVP,↓reduceIte,EV,Nat.reduceAdd,Nat.reduceEqDiff,Int.reduceToNat,reduceCtorEq]
     try simp
    ·right
     rw [if_neg (by simp [h])]
     refine ⟨?_,rfl⟩
     simp (disch:=omega) only [Ar5,hlt,h1,h2,h,EVC,xe,EVP,↓reduceIte,EV,Nat.reduceAdd,Nat.reduceEqDiff,Int.reduceToNat,reduceCtorEq]
   ·have hlt:¬(a.length:Int)<(a.length:Int):=by omega
    have e:a.drop a.length=b.drop a.length:=by rw [Fq0,hl,Fq0]
    rw [if_pos e]
    refine ⟨?_,rfl⟩
    simp (disch:=omega) only [Ar5,hlt,EVC,xe,EVP,↓reduceIte,EV,Nat.reduceAdd,Nat.reduceEqDiff,Int.reduceToNat,reduceCtorEq]
  have hl':(a.length:Int)=(b.length:Int):=by omega
  rw [Dy,Dy] at key
  by_cases h:a=b
  ·rw [if_pos h] at key
   have e:decide (a=b)=true:=by simp [h]
   rw [e]
   simp (disch:=omega) only [Ar5,hl',key,EVC,xe,EVP,↓reduceIte,EV,Nat.reduceAdd,Nat.reduceEqDiff,Int.reduceToNat,reduceCtorEq]
  ·rw [if_neg h] at key
   have e:decide (a=b)=false:=by simp [h]
   rw [e]
   simp (disch:=omega) only [Ar5,hl',key,EVC,xe,EVP,↓reduceIte,EV,Nat.reduceAdd,Nat.reduceEqDiff,Int.reduceToNat,reduceCtorEq]
 ·have hl':¬(a.length:Int)=(b.length:Int):=by omega
  have e:decide (a=b)=false:=decide_eq_false fun q=>hl (by rw [q])
  rw [e]
  simp (disch:=omega) only [Ar5,hl',EVC,xe,EVP,↓reduceIte,EV,Nat.reduceAdd,Nat.reduceEqDiff,Int.reduceToNat,reduceCtorEq]
end Go.X.G
