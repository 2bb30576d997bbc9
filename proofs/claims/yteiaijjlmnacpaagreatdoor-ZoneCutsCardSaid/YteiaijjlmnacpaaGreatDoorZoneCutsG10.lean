/- Zones by the names of their records: groups of a sorted list, in plain words. -/
import Derived.Test.YteiaijjlmnacpaaGreatDoorZoneCutsG9
open Bool renaming eq_false_or_eq_true→Ak,and_eq_true→Av,or_eq_true→An,not_eq_true'→A9,eq_iff_iff→Cn,and_eq_false_iff→Hg,or_eq_false_iff→Is,not_true→Km,false_or→Kn
open Classical renaming not_not→N5
open List renaming getElem?_eq_some_iff→Aq,length_append→Az,mem_cons→Ag,append_assoc→Ap,pairwise_cons→As,length_cons→A0,length_pos_iff→Bv,all_eq_true→By,mem_append_right→Bg,mem_append→Br,mem_filter→B0,any_eq_true→Cj,nil_append→Cv,mem_append_left→Cl,getElem?_of_mem→C7,getElem_mem→D1,append_nil→D2,filter_eq_nil_iff→Ec,filter_append→Ed,pairwise_append→E8,exists_mem_of_ne_nil→Ff,cons_prefix_cons→Mk,pairwise_iff_getElem→Nq
open Nat renaming le_refl→Ac
set_option maxHeartbeats 1000000
set_option linter.unusedVariables false
set_option linter.unusedSimpArgs false
namespace Go.X.G
open Go Go.X
theorem Cg6 {α:Type} {lt:α→α→Prop}:∀(p q:List α),p<+:q→p≠q→lex lt p q
 |[],[],_,h=>absurd rfl h
 |[],_::_,_,_=>trivial
 |a::p,[],h,_=>by simp at h
 |a::p,b::q,h,hne=>by
  obtain ⟨rfl,hpq⟩:=Mk.1 h
  exact .inr ⟨rfl,Cg6 p q hpq fun e=>hne (by rw [e])⟩
theorem Cg7 {α:Type} {lt:α→α→Prop} (ht:TO lt):∀(p q x:List α),p<+:q→¬lex lt x p→¬lex lt q x→p<+:x
 |[],_,_,_,_,_=>List.nil_prefix
 |a::p,[],_,h,_,_=>by simp at h
 |a::p,b::q,[],_,h,_=>absurd trivial h
 |a::p,b::q,c::x,h,h1,h2=>by
  obtain ⟨rfl,hpq⟩:=Mk.1 h
  simp only [lex,not_or,not_and] at h1 h2
  have e:a=c:=by
   rcases ht.tri a c with k|k|k
   ·exact absurd k h2.1
   ·exact k
   ·exact absurd k h1.1
  subst e
  exact Mk.2 ⟨rfl,Cg7 ht p q x hpq (h1.2 rfl) (h2.2 rfl)⟩
theorem If9 {a b:List UInt8} (ha:vld a=true) (hb:vld b=true):ltN a b↔ltL (lbl a).reverse (lbl b).reverse:=by
 unfold ltN;rw [if_pos ha,if_pos hb]
theorem cj {n top:List UInt8} (h:under n top=true):(lbl top).reverse<+:(lbl n).reverse:=List.reverse_prefix.2 (B7.1 h).2.2
theorem Fv5 {n top:List UInt8} (h:under n top=true) (hne:n≠top):ltN top n:=by
 obtain ⟨h1,h2,h3⟩:=B7.1 h
 rw [If9 h2 h1]
 refine Cg6 _ _ (cj h) fun e=>hne ?_
 exact (Nl h2 h1 (List.reverse_inj.1 e)).symm
theorem Bn2 {d x n:List UInt8} (hx:vld x=true) (h:under n d=true) (h1:¬ltN x d) (h2:¬ltN n x):under x d=true:=by
 obtain ⟨k1,k2,k3⟩:=B7.1 h
 rw [If9 hx k2] at h1
 rw [If9 k1 hx] at h2
 exact B7.2 ⟨hx,k2,List.reverse_prefix.1 (Cg7 Fk3 _ _ _ (cj h) h1 h2)⟩
theorem Bh1 {a b c:List UInt8} (h1:under a b=true) (h2:under b c=true):under a c=true:=by
 obtain ⟨a1,a2,a3⟩:=B7.1 h1
 obtain ⟨b1,b2,b3⟩:=B7.1 h2
 exact B7.2 ⟨a1,b2,b3.trans a3⟩
def Vy (p:List Rec):List Rec→List (List Rec)
 |[]=>[]
 |x::r=>if (match r with|[]=>true|y::_=> !decide (y.name=x.name))=true then (p++[x])::Vy [] r else Vy (p++[x]) r
def grp (l:List Rec):List (List Rec):=Vy [] l
def nmG (g:List Rec):List UInt8:=match g with|[]=>[]|x::_=>x.name
theorem ic (n:List UInt8):∀(r p:List Rec) (x:Rec),x.name=n→(∀y∈p,y.name=n)→∃g l',x::r=g++l'∧g≠[]∧(∀y∈g,y.name=n)∧(∀y,l'.head? =some y→y.name≠n)∧Vy p (x::r)=(p++g)::grp l'
 |[],p,x,hx,hp=>⟨[x],[],rfl,by simp,by simpa using hx,by simp,rfl⟩
 |y::r,p,x,hx,hp=>by
  by_cases h:y.name=x.name
  ·obtain ⟨g,l',h1,h2,h3,h4,h5⟩:=ic n r (p++[x]) y (by rw [h,hx]) (fun w hw=>by
    rcases Br.1 hw with hw|hw
    ·exact hp w hw
    ·have:w=x:=by simpa using hw
     rw [this,hx])
   refine ⟨x::g,l',by rw [h1];rfl,by simp,fun w hw=> ?_,h4,?_⟩
   ·rcases Ag.1 hw with rfl|hw
    ·exact hx
    ·exact h3 w hw
   ·rw [Vy,if_neg (by simp [h]),h5]
    simp
  ·refine ⟨[x],y::r,rfl,by simp,by simpa using hx,fun w hw=> ?_,?_⟩
   ·simp at hw;subst hw;rw [←hx];exact h
   ·rw [Vy,if_pos (by simp [h])]
    rfl
theorem Rs (x:Rec) (r:List Rec):∃g l',x::r=g++l'∧g≠[]∧(∀y∈g,y.name=x.name)∧(∀y,l'.head? =some y→y.name≠x.name)∧grp (x::r)=g::grp l':=by
 obtain ⟨g,l',h1,h2,h3,h4,h5⟩:=ic x.name r [] x rfl (by simp)
 exact ⟨g,l',h1,h2,h3,h4,by rw [grp,h5];rfl⟩
theorem Gy9 {g:List Rec} {n:List UInt8} (h:g≠[]) (h2:∀y∈g,y.name=n):nmG g=n:=by
 cases g with
 |nil=>exact absurd rfl h
 |cons x r=>exact h2 x (.head _)
abbrev Js1 (l:List Rec):Prop:=l.Pairwise fun a b=>¬ltN b.name a.name
def F7 (g:List Rec) (t:Int):Bool:=g.any fun r=>decide (r.typ=t)
def I9 (g:List Rec) (ts:List Int):Bool:=g.all fun r=>decide (r.typ∈ts)
def Vr (p:Rec):List Rec→Bool
 |[]=>true
 |x::r=>(!decide (x.typ=p.typ)||(!(decide (x.typ=6)||decide (x.typ=5)||decide (x.typ=39)) && (decide (x.typ=46)||decide (x.ttl=p.ttl)))) && Vr x r
def Fk2 (g:List Rec):Bool:=match g with|[]=>true|x::r=>Vr x r
def propG (o:List UInt8) (g:List Rec) (cut red:Bool):Bool:=
 under (nmG g) o && (decide (F7 g 6=decide (nmG g=o))) && Fk2 g && (!decide (nmG g=o)||F7 g 2) && (!F7 g 5||I9 g [5,46,47]) && !red && (!cut||I9 g [1,28]) &&
  (if (!decide (nmG g=o) && F7 g 2)=true then I9 g [2,43,47,46,1,28] else !F7 g 43) && (!decide ((nmG g)[0]? =some 42)||(!F7 g 2 && !F7 g 39))
def Ds (n c:List UInt8):List UInt8:=if c≠[]∧under n c=false then [] else c
def ql (o:List UInt8):List (List Rec)→List UInt8→List UInt8→Bool→Bool
 |[],_,_,soa=>soa
 |g::gs,cut,red,soa=>
  if propG o g (decide (Ds (nmG g) cut≠[])) (decide (Ds (nmG g) red≠[]))=true then
   ql o gs (if Ds (nmG g) cut=[]∧nmG g≠o∧F7 g 2=true then nmG g else Ds (nmG g) cut) (if F7 g 39=true then nmG g else Ds (nmG g) red) (soa||decide (nmG g=o))
  else false
def Ic0 (z:Zone) (n:List UInt8):Bool:=z.recs.any fun r=>decide (r.typ=39) && Dn n r.name
def dr (z:Zone) (g:List Rec):Bool:=propG z.origin g (T3 z (nmG g)) (Ic0 z (nmG g))
theorem lf {n:List UInt8} (h:vld n=true):n≠[]:=fun e=>by
 subst e
 have:vld []=false:=by decide
 rw [this] at h;cases h
structure GInv (z:Zone) (done l:List Rec) (cut red:List UInt8):Prop where
 cut1:cut≠[]→∃r∈done,Ch z r=true∧r.name=cut
 cut2:∀m∈l,∀r∈done,Ch z r=true→under m.name r.name=true→cut≠[]∧under m.name cut=true
 red1:red≠[]→∃r∈done,r.typ=39∧r.name=red
 red2:∀m∈l,∀r∈done,r.typ=39→under m.name r.name=true→red≠[]∧under m.name red=true
theorem mt {o:List UInt8} {g:List Rec} {c r:Bool} (h:propG o g c r=true):under (nmG g) o=true∧r=false:=by
 unfold propG at h
 simp only [Av,A9] at h
 exact ⟨h.1.1.1.1.1.1.1.1,h.1.1.1.2⟩
theorem Aq3 (z:Zone) (hv:∀r∈z.recs,vld r.name=true) (hs:Js1 z.recs):∀(n:Nat) (done l:List Rec) (cut red:List UInt8) (soa:Bool),l.length≤n→z.recs=done++l→(∀a∈done,∀b∈l,ltN a.name b.name)→GInv z done l cut red→
  (ql z.origin (grp l) cut red soa=true↔(∀g∈grp l,dr z g=true)∧(soa=true∨∃r∈l,r.name=z.origin))
 |n,done,[],cut,red,soa,_,_,_,_=>by simp [grp,Vy,ql]
 |0,done,x::r,cut,red,soa,hn,_,_,_=>by simp at hn
 |n+1,done,x::r,cut,red,soa,hn,hz,hlt,hI=>by
  obtain ⟨g,l',h1,h2,h3,h4,h5⟩:=Rs x r
  have hnm:nmG g=x.name:=Gy9 h2 h3
  have hmem:∀y∈g,y∈x::r:=fun y hy=>by rw [h1];exact Cl _ hy
  have hmem':∀y∈l',y∈x::r:=fun y hy=>by rw [h1];exact Bg _ hy
  have hzx:∀y∈x::r,y∈z.recs:=fun y hy=>by rw [hz];exact Bg _ hy
  have hvx:vld x.name=true:=hv x (hzx x (.head _))
  have hgl:∀b∈l',ltN x.name b.name:=by
   have hs2:Js1 (g++l'):=by
    rw [←h1];have:=hs;rw [hz] at this;exact (E8.1 this).2.1
   have hs3:=E8.1 hs2
   cases l' with
   |nil=>intro b hb;cases hb
   |cons y l''=>
    have hy:ltN x.name y.name:=by
     obtain ⟨w,hw⟩:=Ff g h2
     have k:=hs3.2.2 w hw y (.head _)
     rw [h3 w hw] at k
     rcases to_N.tri x.name y.name with q|q|q
     ·exact q
     ·exact absurd q.symm (h4 y rfl)
     ·exact absurd q k
    intro b hb
    rcases Ag.1 hb with rfl|hb
    ·exact hy
    ·have k:=(As.1 hs3.2.1).1 b hb
     rcases to_N.tri y.name b.name with q|q|q
     ·exact to_N.tr _ _ _ hy q
     ·rw [←q];exact hy
     ·exact absurd q k
  have habove:∀w∈z.recs,under x.name w.name=true→x.name≠w.name→w∈done:=fun w hw hu hne=>by
   rw [hz] at hw
   rcases Br.1 hw with hw|hw
   ·exact hw
   ·exfalso
    have k:=Fv5 hu hne
    rw [h1] at hw
    rcases Br.1 hw with hw|hw
    ·exact hne (h3 w hw).symm
    ·exact to_N.asym k (hgl w hw)
  have hcut:decide (Ds x.name cut≠[])=T3 z x.name:=by
   rw [Cn,decide_eq_true_eq]
   unfold T3 Ds
   rw [Cj]
   constructor
   ·intro k
    have c0:cut≠[]:=fun e=>by rw [e] at k;simp at k
    have c1:under x.name cut=true:=by
     rcases Ak (under x.name cut) with q|q
     ·exact q
     ·rw [if_pos ⟨c0,q⟩] at k;exact absurd rfl k
    obtain ⟨w,w1,w2,w3⟩:=hI.cut1 c0
    refine ⟨w,by rw [hz];exact Cl _ w1,?_⟩
    have:w.name≠x.name:=fun e=>to_N.irr _ (by have:=hlt w w1 x (.head _);rw [e] at this;exact this)
    rw [w2,w3]
    rw [w3] at this
    simp [this,c1]
   ·rintro ⟨w,w1,w2⟩
    simp only [Av,decide_eq_true_eq] at w2
    have wd:=habove w w1 w2.2 (fun e=>w2.1.2 e.symm)
    obtain ⟨c0,c1⟩:=hI.cut2 x (.head _) w wd w2.1.1 w2.2
    rw [if_neg (by simp [c1])]
    exact c0
  have hred:decide (Ds x.name red≠[])=Ic0 z x.name:=by
   rw [Cn,decide_eq_true_eq]
   unfold Ic0 Ds Dn
   rw [Cj]
   constructor
   ·intro k
    have c0:red≠[]:=fun e=>by rw [e] at k;simp at k
    have c1:under x.name red=true:=by
     rcases Ak (under x.name red) with q|q
     ·exact q
     ·rw [if_pos ⟨c0,q⟩] at k;exact absurd rfl k
    obtain ⟨w,w1,w2,w3⟩:=hI.red1 c0
    refine ⟨w,by rw [hz];exact Cl _ w1,?_⟩
    have:x.name≠w.name:=fun e=>to_N.irr _ (by have:=hlt w w1 x (.head _);rw [e] at this;exact this)
    rw [w3] at this ⊢
    simp [this,c1,w2]
   ·rintro ⟨w,w1,w2⟩
    simp only [Av,decide_eq_true_eq] at w2
    have wd:=habove w w1 w2.2.2 w2.2.1
    obtain ⟨c0,c1⟩:=hI.red2 x (.head _) w wd w2.1 w2.2.2
    rw [if_neg (by simp [c1])]
    exact c0
  have hex:(∃w∈x::r,w.name=z.origin)↔(x.name=z.origin∨∃w∈l',w.name=z.origin):=by
   rw [h1]
   constructor
   ·rintro ⟨w,w1,w2⟩
    rcases Br.1 w1 with w1|w1
    ·exact .inl (by rw [←h3 w w1];exact w2)
    ·exact .inr ⟨w,w1,w2⟩
   ·rintro (k|⟨w,w1,w2⟩)
    ·obtain ⟨w,hw⟩:=Ff g h2
     exact ⟨w,Cl _ hw,by rw [h3 w hw];exact k⟩
    ·exact ⟨w,Bg _ w1,w2⟩
  rw [h5,hex]
  simp only [ql,hnm,Ag,forall_eq_or_imp]
  have hp0:dr z g=propG z.origin g (T3 z x.name) (Ic0 z x.name):=by unfold dr;rw [hnm]
  rw [hp0]
  rw [hcut,hred]
  by_cases hp:propG z.origin g (T3 z x.name) (Ic0 z x.name)=true
  ·rw [if_pos hp]
   obtain ⟨pu,pr⟩:=mt hp
   rw [hnm] at pu
   have hlen:=congrArg List.length h1
   have hg0:0<g.length:=Bv.2 h2
   simp only [Az,A0] at hlen hn
   have hmid:∀m∈l',∀w∈done,under m.name w.name=true→under x.name w.name=true:=fun m hm w hw hu=>
    Bn2 hvx hu (fun k=>to_N.asym (hlt w hw x (.head _)) k) (fun k=>to_N.asym (hgl m hm) k)
   have hredE:Ds x.name red=[]:=by
    have:=hred;rw [pr] at this;simpa using this
   have ih:=Aq3 z hv hs n (done++g) l' (if Ds x.name cut=[]∧x.name≠z.origin∧F7 g 2=true then x.name else Ds x.name cut) (if F7 g 39=true then x.name else Ds x.name red) (soa||decide (x.name=z.origin)) (by omega) (by rw [hz,h1,Ap])
    (fun a ha b hb=>by
     rcases Br.1 ha with ha|ha
     ·exact hlt a ha b (hmem' b hb)
     ·rw [h3 a ha];exact hgl b hb)
    ⟨?_,?_,?_,?_⟩
   ·rw [ih]
    simp only [An,decide_eq_true_eq,hp,true_and]
    constructor
    ·rintro ⟨k1,(k2|k2)|k2⟩
     ·exact ⟨k1,.inl k2⟩
     ·exact ⟨k1,.inr (.inl k2)⟩
     ·exact ⟨k1,.inr (.inr k2)⟩
    ·rintro ⟨k1,k2|k2|k2⟩
     ·exact ⟨k1,.inl (.inl k2)⟩
     ·exact ⟨k1,.inl (.inr k2)⟩
     ·exact ⟨k1,.inr k2⟩
   ·-- the cut is one
    intro k
    by_cases c:Ds x.name cut=[]∧x.name≠z.origin∧F7 g 2=true
    ·rw [if_pos c]
     obtain ⟨w,w1,w2⟩:=Cj.1 c.2.2
     simp only [decide_eq_true_eq] at w2
     refine ⟨w,Bg _ w1,?_,h3 w w1⟩
     unfold Ch Dn
     rw [h3 w w1]
     simp [w2,pu,c.2.1]
    ·rw [if_neg c] at k ⊢
     have c0:cut≠[]:=fun e=>by rw [e] at k;simp [Ds] at k
     have c1:Ds x.name cut=cut:=by
      unfold Ds at k ⊢
      by_cases q:cut≠[]∧under x.name cut=false
      ·rw [if_pos q] at k;exact absurd rfl k
      ·rw [if_neg q]
     rw [c1]
     obtain ⟨w,w1,w2⟩:=hI.cut1 c0
     exact ⟨w,Cl _ w1,w2⟩
   ·intro m hm w hw hc hu
    rcases Br.1 hw with hw|hw
    ·have hxu:=hmid m hm w hw hu
     obtain ⟨c0,c1⟩:=hI.cut2 x (.head _) w hw hc hxu
     obtain ⟨_,c2⟩:=hI.cut2 m (hmem' m hm) w hw hc hu
     have c3:Ds x.name cut=cut:=by unfold Ds;rw [if_neg (by simp [c1])]
     rw [c3,if_neg (by simp [c0])]
     exact ⟨c0,c2⟩
    ·rw [h3 w hw] at hu
     have hc':=hc
     unfold Ch Dn at hc'
     rw [h3 w hw] at hc'
     simp only [Av,decide_eq_true_eq] at hc'
     have hns:F7 g 2=true:=Cj.2 ⟨w,hw,by simp [hc'.1]⟩
     by_cases c:Ds x.name cut=[]
     ·rw [if_pos ⟨c,hc'.2.1,hns⟩]
      exact ⟨lf hvx,hu⟩
     ·rw [if_neg (by simp [c])]
      have q:¬(cut≠[]∧under x.name cut=false):=fun q=>c (by unfold Ds;rw [if_pos q])
      have c1:Ds x.name cut=cut:=by unfold Ds;rw [if_neg q]
      rw [c1] at c ⊢
      have c2:under x.name cut=true:=by
       rcases Ak (under x.name cut) with k|k
       ·exact k
       ·exact absurd ⟨c,k⟩ q
      exact ⟨c,Bh1 hu c2⟩
   ·intro k
    rw [hredE] at k ⊢
    by_cases c:F7 g 39=true
    ·rw [if_pos c]
     obtain ⟨w,w1,w2⟩:=Cj.1 c
     simp only [decide_eq_true_eq] at w2
     exact ⟨w,Bg _ w1,w2,h3 w w1⟩
    ·rw [if_neg c] at k;exact absurd rfl k
   ·intro m hm w hw hc hu
    rcases Br.1 hw with hw|hw
    ·exfalso
     have hxu:=hmid m hm w hw hu
     obtain ⟨c0,c1⟩:=hI.red2 x (.head _) w hw hc hxu
     have:Ds x.name red=red:=by unfold Ds;rw [if_neg (by simp [c1])]
     rw [this] at hredE
     exact c0 hredE
    ·rw [h3 w hw] at hu
     have hd:F7 g 39=true:=Cj.2 ⟨w,hw,by simp [hc]⟩
     rw [if_pos hd]
     exact ⟨lf hvx,hu⟩
  ·rw [if_neg hp]
   simp [hp]
end Go.X.G
/- Zones by the names of their records: the program's conditions are the reference's. -/
namespace Go.X.G
open Go Go.X
theorem Bs1 {l:List Rec} (h:l.Pairwise ltR):Js1 l:=h.imp fun {a b} k=>by
 rcases k with k|⟨k,_⟩
 ·exact to_N.asym k
 ·have k':a.name=b.name:=k
  rw [k'];exact to_N.irr _
theorem Cr2:∀(n:Nat) (l:List Rec),l.length≤n→Js1 l→(∀g∈grp l,g≠[]∧g=l.filter fun r=>decide (r.name=nmG g))∧∀r∈l,∃g∈grp l,nmG g=r.name∧r∈g
 |_,[],_,_=>by simp [grp,Vy]
 |0,x::r,hn,_=>by simp at hn
 |n+1,x::r,hn,hs=>by
  obtain ⟨g,l',h1,h2,h3,h4,h5⟩:=Rs x r
  have hnm:nmG g=x.name:=Gy9 h2 h3
  have hs2:Js1 (g++l'):=by rw [←h1];exact hs
  have hs3:=E8.1 hs2
  have hgl:∀b∈l',ltN x.name b.name:=by
   cases l' with
   |nil=>intro b hb;cases hb
   |cons y l''=>
    have hy:ltN x.name y.name:=by
     obtain ⟨w,hw⟩:=Ff g h2
     have k:=hs3.2.2 w hw y (.head _)
     rw [h3 w hw] at k
     rcases to_N.tri x.name y.name with q|q|q
     ·exact q
     ·exact absurd q.symm (h4 y rfl)
     ·exact absurd q k
    intro b hb
    rcases Ag.1 hb with rfl|hb
    ·exact hy
    ·have k:=(As.1 hs3.2.1).1 b hb
     rcases to_N.tri y.name b.name with q|q|q
     ·exact to_N.tr _ _ _ hy q
     ·rw [←q];exact hy
     ·exact absurd q k
  have hlen:=congrArg List.length h1
  have hg0:0<g.length:=Bv.2 h2
  simp only [Az,A0] at hlen hn
  obtain ⟨i1,i2⟩:=Cr2 n l' (by omega) hs3.2.1
  rw [h5]
  refine ⟨fun g' hg'=> ?_,fun w hw=> ?_⟩
  ·rcases Ag.1 hg' with rfl|hg'
   ·refine ⟨h2,?_⟩
    rw [hnm,h1,Ed]
    have e1:(g'.filter fun r=>decide (r.name=x.name))=g':=List.filter_eq_self.2 fun y hy=>by simp [h3 y hy]
    have e2:(l'.filter fun r=>decide (r.name=x.name))=[]:=Ec.2 fun y hy=>by
     have:=hgl y hy
     intro k
     simp only [decide_eq_true_eq] at k
     rw [k] at this
     exact to_N.irr _ this
    rw [e1,e2,D2]
   ·obtain ⟨j1,j2⟩:=i1 g' hg'
    refine ⟨j1,?_⟩
    rw [h1,Ed]
    have e1:(g.filter fun r=>decide (r.name=nmG g'))=[]:=Ec.2 fun y hy=>by
     intro k
     simp only [decide_eq_true_eq] at k
     obtain ⟨w,hw⟩:=Ff g' j1
     have hw2:=hw
     rw [j2] at hw2
     obtain ⟨q1,q2⟩:=B0.1 hw2
     simp only [decide_eq_true_eq] at q2
     have:=hgl w q1
     rw [q2,←k,h3 y hy] at this
     exact to_N.irr _ this
    rw [e1,Cv]
    exact j2
  ·rw [h1] at hw
   rcases Br.1 hw with hw|hw
   ·exact ⟨g,.head _,by rw [hnm,h3 w hw],hw⟩
   ·obtain ⟨g',q1,q2⟩:=i2 w hw
    exact ⟨g',.tail _ q1,q2⟩
theorem Kc4 (l:List Rec) (n:List UInt8) (t:Int):F7 (l.filter fun r=>decide (r.name=n)) t=U3 l n t:=by
 rw [Cn]
 unfold F7 U3 findR
 rw [Cj,decide_eq_true_eq,List.length_pos_iff_exists_mem]
 constructor
 ·rintro ⟨x,h1,h2⟩
  obtain ⟨h3,h4⟩:=B0.1 h1
  exact ⟨x,B0.2 ⟨h3,by unfold isK;rw [h4,h2];rfl⟩⟩
 ·rintro ⟨x,h1⟩
  obtain ⟨h3,h4⟩:=B0.1 h1
  unfold isK at h4
  rw [Av] at h4
  exact ⟨x,B0.2 ⟨h3,h4.1⟩,h4.2⟩
theorem Fs4 (l:List Rec) (n:List UInt8) (t:Int):U3 l n t=true↔∃r∈l,r.name=n∧r.typ=t:=by
 unfold U3 findR
 rw [decide_eq_true_eq,List.length_pos_iff_exists_mem]
 constructor
 ·rintro ⟨x,h1⟩
  obtain ⟨h3,h4⟩:=B0.1 h1
  unfold isK at h4
  simp only [Av,decide_eq_true_eq] at h4
  exact ⟨x,h3,h4⟩
 ·rintro ⟨x,h1,h2,h3⟩
  exact ⟨x,B0.2 ⟨h1,by unfold isK;simp [h2,h3]⟩⟩
abbrev sng (t:Int):Prop:=t=6∨t=5∨t=39
def two (x y:Rec):Prop:=x.typ=y.typ→(x≠y→¬sng x.typ)∧(x.typ≠46→x.ttl=y.ttl)
theorem Fv6 {x y:Rec} (h:two x y):two y x:=fun e=>by
 obtain ⟨h1,h2⟩:=h e.symm
 exact ⟨fun k=>by rw [e];exact h1 k.symm,fun k=>(h2 (by rw [←e];exact k)).symm⟩
theorem Fv7 (x:Rec):two x x:=fun _=>⟨fun k=>absurd rfl k,fun _=>rfl⟩
theorem Cf9 {a b:Rec} (h:ltR a b) (e:a.name=b.name):a.typ≤b.typ:=by
 rcases h with h|⟨_,h|⟨h,_⟩⟩
 ·have h':ltN a.name b.name:=h
  rw [e] at h';exact absurd h' (to_N.irr _)
 ·have h':a.typ<b.typ:=h
  omega
 ·have h':a.typ=b.typ:=h
  omega
theorem Cg0 {a b:Rec} (h:ltR a b):a≠b:=fun e=>by rw [e] at h;exact to_K.irr _ h
theorem u9:∀(r:List Rec) (p:Rec),(p::r).Pairwise ltR→(∀x∈r,x.name=p.name)→(Vr p r=true↔(p::r).Pairwise two)
 |[],p,_,_=>by simp [Vr]
 |x::r,p,hs,hn=>by
  obtain ⟨h1,h2⟩:=As.1 hs
  obtain ⟨h3,h4⟩:=As.1 h2
  have hx:=hn x (.head _)
  have ih:=u9 r x h2 (fun y hy=>by rw [hn y (.tail _ hy),hx])
  have hpx:(!decide (x.typ=p.typ)||(!(decide (x.typ=6)||decide (x.typ=5)||decide (x.typ=39)) && (decide (x.typ=46)||decide (x.ttl=p.ttl))))=true↔two p x:=by
   have hne:p≠x:=Cg0 (h1 x (.head _))
   unfold two sng
   simp only [An,Av,A9,decide_eq_false_iff_not,decide_eq_true_eq,Is]
   constructor
   ·rintro (k|⟨k1,k2⟩) e
    ·exact absurd e.symm k
    ·refine ⟨fun _=>by rw [e];omega,fun k=> ?_⟩
     rcases k2 with k2|k2
     ·exact absurd (e.trans k2) k
     ·exact k2.symm
   ·intro h
    by_cases e:x.typ=p.typ
    ·obtain ⟨a,b⟩:=h e.symm
     have a':=a hne
     refine .inr ⟨by rw [e];omega,?_⟩
     by_cases k:x.typ=46
     ·exact .inl k
     ·exact .inr (b (by rw [←e];exact k)).symm
    ·exact .inl e
  have step:Vr p (x::r)=true↔two p x∧Vr x r=true:=by
   simp only [Vr]
   rw [Av,hpx]
  rw [step,ih,As (a:=p)]
  constructor
  ·rintro ⟨k1,k2⟩
   refine ⟨fun y hy=> ?_,k2⟩
   rcases Ag.1 hy with rfl|hy
   ·exact k1
   ·intro e
    have t1:=Cf9 (h1 x (.head _)) hx.symm
    have t2:=Cf9 (h3 y hy) (by rw [hx,hn y (.tail _ hy)])
    have e1:p.typ=x.typ:=by omega
    obtain ⟨a1,a2⟩:=k1 e1
    obtain ⟨b1,b2⟩:=(As.1 k2).1 y hy (by omega)
    exact ⟨fun _=>a1 (Cg0 (h1 x (.head _))),fun k=>by rw [a2 k];exact b2 (by omega)⟩
  ·rintro ⟨k1,k2⟩
   exact ⟨k1 x (.head _),k2⟩
theorem Fv3 {g:List Rec} {n:List UInt8} (hs:g.Pairwise ltR) (hn:∀x∈g,x.name=n):Fk2 g=true↔∀x∈g,∀y∈g,two x y:=by
 have:Fk2 g=true↔g.Pairwise two:=by
  cases g with
  |nil=>simp [Fk2]
  |cons p r=>exact u9 r p hs fun x hx=>by rw [hn x (.tail _ hx),hn p (.head _)]
 rw [this]
 constructor
 ·intro h x hx y hy
  obtain ⟨i,hi⟩:=C7 hx
  obtain ⟨j,hj⟩:=C7 hy
  obtain ⟨i1,i2⟩:=Aq.1 hi
  obtain ⟨j1,j2⟩:=Aq.1 hj
  rcases Nat.lt_trichotomy i j with k|k|k
  ·have:=Nq.1 h i j i1 j1 k
   rw [i2,j2] at this;exact this
  ·subst k
   rw [←i2,←j2];exact Fv7 _
  ·have:=Nq.1 h j i j1 i1 k
   rw [i2,j2] at this;exact Fv6 this
 ·intro h
  rw [Nq]
  intro i j hi hj _
  exact h _ (D1 hi) _ (D1 hj)
theorem Q8 (r x:Rec):G8 r x=true↔(x.name=r.name→two r x∧(r.typ=5→x.typ=5∨x.typ=46∨x.typ=47)):=by
 unfold G8 two sng
 by_cases h:x.name=r.name
 ·simp only [h,decide_true,Km,Kn,true_implies,Av,A9,Hg,decide_eq_false_iff_not,Is,ne_eq,N5]
  by_cases e:x.typ=r.typ
  ·have e':r.typ=x.typ:=e.symm
   simp only [e,not_true_eq_false,false_or,true_implies]
   constructor
   ·rintro ⟨⟨h1,h2⟩,h3⟩
    refine ⟨⟨fun k q=> ?_,fun k=> ?_⟩,fun k=>by omega⟩
    ·rcases h2 with h2|h2
     ·omega
     ·exact k h2.symm
    ·rcases h1 with h1|h1
     ·exact absurd h1 k
     ·exact h1.symm
   ·rintro ⟨⟨h1,h2⟩,h3⟩
    refine ⟨⟨?_,?_⟩,by omega⟩
    ·by_cases k:r.typ=46
     ·exact .inl k
     ·exact .inr (h2 k).symm
    ·by_cases k:r=x
     ·exact .inr k.symm
     ·have:=h1 k
      left;omega
  ·have e':¬r.typ=x.typ:=fun q=>e q.symm
   simp only [e,e',not_false_eq_true,true_or,true_and,false_implies]
   omega
 ·simp [h]
set_option maxHeartbeats 1000000 in
theorem Bt6 (z:Zone) (hv:∀r∈z.recs,M1 r=true) (hr:z.recs.Pairwise ltR):
  ((∀g∈grp z.recs,dr z g=true)∧∃r∈z.recs,r.name=z.origin)↔((findR z.recs z.origin 6).length=1∧U3 z.recs z.origin 2=true∧∀r∈z.recs,K4 z r=true):=by
 obtain ⟨ga,gb⟩:=Cr2 z.recs.length z.recs (Ac _) (Bs1 hr)
 have gm:∀g∈grp z.recs,∀x,x∈g↔x∈z.recs∧x.name=nmG g:=fun g hg x=>by
  have:=(ga g hg).2
  constructor
  ·intro h
   rw [this] at h
   obtain ⟨a,b⟩:=B0.1 h
   exact ⟨a,by simpa using b⟩
  ·rintro ⟨a,b⟩
   rw [this]
   exact B0.2 ⟨a,by simpa using b⟩
 have gh:∀g∈grp z.recs,∀t,F7 g t=U3 z.recs (nmG g) t:=fun g hg t=>by
  have:=Kc4 z.recs (nmG g) t
  rwa [←(ga g hg).2] at this
 have gu:∀g∈grp z.recs,(Fk2 g=true↔∀x∈g,∀y∈g,two x y):=fun g hg=>by
  refine Fv3 (n:=nmG g) ?_ fun x hx=>((gm g hg x).1 hx).2
  rw [(ga g hg).2]
  exact hr.filter _
 have hstar:∀r∈z.recs,(r.name[0]? =some 42↔(lbl r.name)[0]? =some [42]):=fun r h=>As4 (b8 (hv r h))
 constructor
 ·rintro ⟨hp,r0,hr0,hr0n⟩
  have hpg:∀r∈z.recs,∃g∈grp z.recs,nmG g=r.name∧r∈g∧dr z g=true:=fun r h=>by
   obtain ⟨g,h1,h2,h3⟩:=gb r h
   exact ⟨g,h1,h2,h3,hp g h1⟩
  obtain ⟨g0,k1,k2,k3,k4⟩:=hpg r0 hr0
  rw [hr0n] at k2
  have k5:=k4
  unfold dr propG at k5
  simp only [k2,Av,decide_eq_true_eq,decide_true,Km,Kn] at k5
  have s6:U3 z.recs z.origin 6=true:=by rw [←k2,←gh g0 k1,k5.1.1.1.1.1.1.1.2]
  have s2:U3 z.recs z.origin 2=true:=by rw [←k2,←gh g0 k1,k5.1.1.1.1.1.2]
  refine ⟨?_,s2,fun r h=> ?_⟩
  ·-- one SOA record
   have hpos:0<(findR z.recs z.origin 6).length:=by unfold U3 at s6;simpa using s6
   have hpw:(findR z.recs z.origin 6).Pairwise ltR:=hr.filter _
   have hmm:∀x∈findR z.recs z.origin 6,x∈g0∧x.typ=6:=fun x hx=>by
    obtain ⟨a,b⟩:=B0.1 hx
    unfold isK at b
    simp only [Av,decide_eq_true_eq] at b
    exact ⟨(gm g0 k1 x).2 ⟨a,by rw [b.1,k2]⟩,b.2⟩
   have hu:=(gu g0 k1).1 k5.1.1.1.1.1.1.2
   generalize findR z.recs z.origin 6=l at*
   match l,hpos,hpw,hmm with
   |[a],_,_,_=>rfl
   |a::b::r,_,hpw,hmm=>
    exfalso
    have hab:=(As.1 hpw).1 b (.head _)
    obtain ⟨a1,a2⟩:=hmm a (.head _)
    obtain ⟨b1,b2⟩:=hmm b (.tail _ (.head _))
    exact ((hu a a1 b b1 (by rw [a2,b2])).1 (Cg0 hab)) (.inl a2)
  ·obtain ⟨g,h1,h2,h3,h4⟩:=hpg r h
   unfold dr propG at h4
   rw [h2] at h4
   simp only [Av,decide_eq_true_eq,An,A9,decide_eq_false_iff_not,Hg] at h4
   obtain ⟨⟨⟨⟨⟨⟨⟨⟨p1,p2⟩,p3⟩,p4⟩,p5⟩,p6⟩,p7⟩,p8⟩,p9⟩:=h4
   have hu:=(gu g h1).1 p3
   have hon:∀ts,I9 g ts=true→r.typ∈ts:=fun ts k=>by
    have:=By.1 k r h3
    simpa using this
   have has:∀t,r.typ=t→F7 g t=true:=fun t e=>Cj.2 ⟨r,h3,by simp [e]⟩
   unfold K4
   simp only [Av,A9,Hg,decide_eq_false_iff_not,ne_eq,N5]
   refine ⟨⟨⟨p1,?_⟩,?_⟩,?_⟩
   ·by_cases e:r.typ=6
    ·right
     rw [has 6 e] at p2
     simpa using p2.symm
    ·exact .inl e
   ·unfold L4
    rw [By]
    intro x hx
    rw [Q8]
    intro e
    have hxg:x∈g:=(gm g h1 x).2 ⟨hx,by rw [h2,e]⟩
    refine ⟨hu r h3 x hxg,fun e5=> ?_⟩
    rcases p5 with p5|p5
    ·rw [has 5 e5] at p5;cases p5
    ·have:=By.1 p5 x hxg
     simpa using this
   ·unfold Nf
    have h9:¬((lbl r.name)[0]? =some [42]∧(r.typ=2∨r.typ=39)):=by
     rintro ⟨e1,e2⟩
     rcases p9 with p9|⟨q1,q2⟩
     ·exact p9 ((hstar r h).2 e1)
     ·rcases e2 with e2|e2
      ·rw [has 2 e2] at q1;cases q1
      ·rw [has 39 e2] at q2;cases q2
    rw [if_neg h9,Av]
    refine ⟨By.2 fun x hx=> ?_,?_⟩
    ·unfold Fs
     simp only [Av,A9,Hg,decide_eq_false_iff_not,ne_eq,N5]
     constructor
     ·by_cases e:x.typ=39
      ·right
       rcases Ak (Dn r.name x.name) with q|q
       ·have:Ic0 z r.name=true:=Cj.2 ⟨x,hx,by simp [e,q]⟩
        rw [this] at p6;cases p6
       ·exact q
      ·exact .inl e
     ·by_cases e:x.typ=2∧Dn x.name z.origin=true∧Dn r.name x.name=true
      ·have q:=e.2.2
       unfold Dn at q
       simp only [Av,decide_eq_true_eq] at q
       have:T3 z r.name=true:=Cj.2 ⟨x,hx,by unfold Ch;simp [e.1,e.2.1,q.2];exact fun k=>q.1 k.symm⟩
       rcases p7 with p7|p7
       ·rw [this] at p7;cases p7
       ·have:=hon _ p7
        simp at this
        rcases this with this|this
        ·exact .inl (.inr this)
        ·exact .inr this
      ·by_cases e1:x.typ=2
       ·by_cases e2:Dn x.name z.origin=true
        ·have e3:Dn r.name x.name=false:=by
          rcases Ak (Dn r.name x.name) with q|q
          ·exact absurd ⟨e1,e2,q⟩ e
          ·exact q
         exact .inl (.inl (.inr e3))
        ·exact .inl (.inl (.inl (.inr (by simpa using e2))))
       ·exact .inl (.inl (.inl (.inl e1)))
    ·have hb:Dn r.name z.origin= !decide (r.name=z.origin):=by unfold Dn;rw [p1];simp
     rw [hb,←h2,←gh g h1 2,h2]
     by_cases c:¬r.name=z.origin∧F7 g 2=true
     ·have cb:(!decide (r.name=z.origin) && F7 g 2)=true:=by simp [c]
      rw [if_pos c] at p8
      rw [if_pos cb]
      have:=hon _ p8
      unfold P7
      simp at this ⊢
      omega
     ·have cb:¬(!decide (r.name=z.origin) && F7 g 2)=true:=by simpa using c
      rw [if_neg c] at p8
      rw [if_neg cb]
      simp only [A9] at p8
      rw [decide_eq_true_eq]
      intro e
      rw [has 43 e] at p8;cases p8
 ·rintro ⟨h1,h2,h3⟩
  have hrr:∃r∈z.recs,r.name=z.origin:=by
   obtain ⟨r,k1,k2,_⟩:=(Fs4 _ _ _).1 h2
   exact ⟨r,k1,k2⟩
  refine ⟨fun g hg=> ?_,hrr⟩
  obtain ⟨r,hrg⟩:=Ff g (ga g hg).1
  obtain ⟨hrz,hrn⟩:=(gm g hg r).1 hrg
  have hrec:∀x∈g,under x.name z.origin=true∧(x.typ=6→x.name=z.origin)∧(∀y∈g,two x y∧(x.typ=5→y.typ=5∨y.typ=46∨y.typ=47))∧Nf z x=true:=fun x hx=>by
   obtain ⟨a,b⟩:=(gm g hg x).1 hx
   have k:=h3 x a
   unfold K4 at k
   simp only [Av,A9,Hg,decide_eq_false_iff_not,ne_eq,N5] at k
   refine ⟨k.1.1.1,fun e=> ?_,fun y hy=> ?_,k.2⟩
   ·rcases k.1.1.2 with q|q
    ·exact absurd e q
    ·exact q
   ·obtain ⟨c,d⟩:=(gm g hg y).1 hy
    have q:=k.1.2
    unfold L4 at q
    exact (Q8 x y).1 (By.1 q y c) (by rw [d,b])
  have hpl:∀x∈g,¬((lbl x.name)[0]? =some [42]∧(x.typ=2∨x.typ=39))∧z.recs.all (Fs z x)=true∧(if Dn x.name z.origin && U3 z.recs x.name 2 then P7 x.typ else decide (x.typ≠43))=true:=fun x hx=>by
   have k:=(hrec x hx).2.2.2
   unfold Nf at k
   by_cases q:(lbl x.name)[0]? =some [42]∧(x.typ=2∨x.typ=39)
   ·rw [if_pos q] at k;cases k
   ·rw [if_neg q,Av] at k
    exact ⟨q,k⟩
  have hnx:∀x∈g,x.name=nmG g:=fun x hx=>((gm g hg x).1 hx).2
  unfold dr propG
  simp only [Av,decide_eq_true_eq,An,A9,decide_eq_false_iff_not,Hg]
  refine ⟨⟨⟨⟨⟨⟨⟨⟨?_,?_⟩,?_⟩,?_⟩,?_⟩,?_⟩,?_⟩,?_⟩,?_⟩
  ·rw [←hrn];exact (hrec r hrg).1
  ·rw [Cn,decide_eq_true_eq]
   constructor
   ·intro k
    obtain ⟨x,x1,x2⟩:=Cj.1 k
    rw [←hnx x x1]
    exact (hrec x x1).2.1 (by simpa using x2)
   ·intro k
    rw [gh g hg,k]
    unfold U3
    simp [h1]
  ·exact (gu g hg).2 fun x hx y hy=>((hrec x hx).2.2.1 y hy).1
  ·by_cases e:nmG g=z.origin
   ·right;rw [gh g hg,e];exact h2
   ·exact .inl e
  ·by_cases e:F7 g 5=true
   ·right
    obtain ⟨x,x1,x2⟩:=Cj.1 e
    refine By.2 fun y hy=> ?_
    have:=((hrec x x1).2.2.1 y hy).2 (by simpa using x2)
    simpa using this
   ·exact .inl (by simpa using e)
  ·rcases Ak (Ic0 z (nmG g)) with q|q
   ·exfalso
    obtain ⟨w,w1,w2⟩:=Cj.1 q
    have k:=By.1 (hpl r hrg).2.1 w w1
    unfold Fs at k
    rw [hrn] at k
    rw [w2] at k
    simp at k
   ·exact q
  ·rcases Ak (T3 z (nmG g)) with q|q
   ·right
    obtain ⟨w,w1,w2⟩:=Cj.1 q
    unfold Ch at w2
    simp only [Av,decide_eq_true_eq] at w2
    refine By.2 fun x hx=> ?_
    have k:=By.1 (hpl x hx).2.1 w w1
    unfold Fs at k
    have hb:Dn x.name w.name=true:=by
     unfold Dn
     rw [hnx x hx]
     have:nmG g≠w.name:=fun e=>w2.1.2 e.symm
     simp [this,w2.2]
    rw [hb,w2.1.1.2] at k
    simp [w2.1.1.1] at k
    have k':x.typ=1∨x.typ=28:=by omega
    simpa using k'
   ·exact .inl q
  ·have hbn:Dn (nmG g) z.origin= !decide (nmG g=z.origin):=by
    unfold Dn
    rw [←hrn,(hrec r hrg).1];simp
   by_cases c0:¬nmG g=z.origin∧F7 g 2=true
   ·have c:(!decide (nmG g=z.origin) && F7 g 2)=true:=by simp [c0]
    rw [if_pos c0]
    refine By.2 fun x hx=> ?_
    have k:=(hpl x hx).2.2
    rw [hnx x hx,hbn,←gh g hg,if_pos c] at k
    unfold P7 at k
    simp at k ⊢
    omega
   ·have c:¬(!decide (nmG g=z.origin) && F7 g 2)=true:=by simpa using c0
    rw [if_neg c0]
    simp only [A9]
    rcases Ak (F7 g 43) with q|q
    ·exfalso
     obtain ⟨x,x1,x2⟩:=Cj.1 q
     have k:=(hpl x x1).2.2
     rw [hnx x x1,hbn,←gh g hg,if_neg c] at k
     simp at x2 k
     exact k x2
    ·exact q
  ·by_cases e:(nmG g)[0]? =some 42
   ·right
    rw [←hrn] at e
    have e2:=(hstar r hrz).1 e
    constructor
    ·rcases Ak (F7 g 2) with q|q
     ·exfalso
      obtain ⟨x,x1,x2⟩:=Cj.1 q
      refine (hpl x x1).1 ⟨by rw [hnx x x1,←hrn];exact e2,.inl (by simpa using x2)⟩
     ·exact q
    ·rcases Ak (F7 g 39) with q|q
     ·exfalso
      obtain ⟨x,x1,x2⟩:=Cj.1 q
      refine (hpl x x1).1 ⟨by rw [hnx x x1,←hrn];exact e2,.inr (by simpa using x2)⟩
     ·exact q
   ·exact .inl e
end Go.X.G
