/- Zones by the names of their records: the program's conditions are the reference's. -/
import Derived.Test.YteiaijjlmnacpaaGreatDoorZoneChecksG9
open Bool renaming eq_false_or_eq_true→Ak,and_eq_true→Av,or_eq_true→Am,not_eq_true'→A9,eq_iff_iff→Ch,and_eq_false_iff→Hq,or_eq_false_iff→Ix,not_true→J8,false_or→J9
open Classical renaming not_not→M3
open List renaming getElem?_eq_some_iff→Aq,length_append→Az,mem_cons→Ah,pairwise_cons→Ar,length_cons→A0,length_pos_iff→Bw,all_eq_true→By,mem_append→Br,mem_filter→Bs,any_eq_true→B7,nil_append→Cd,getElem?_of_mem→Dk,getElem_mem→Dm,append_nil→D4,filter_eq_nil_iff→Ex,pairwise_append→E2,filter_append→E5,exists_mem_of_ne_nil→Fw,pairwise_iff_getElem→Mz
open Nat renaming le_refl→Ac
set_option maxHeartbeats 1000000
set_option linter.unusedVariables false
set_option linter.unusedSimpArgs false
namespace Go.X.G
open Go Go.X
theorem Bv9 {l:List Rec} (h:l.Pairwise ltR):Ig2 l:=h.imp fun {a b} k=>by
 rcases k with k|⟨k,_⟩
 ·exact to_N.asym k
 ·have k':a.name=b.name:=k
  rw [k'];exact to_N.irr _
theorem Ck9:∀(n:Nat) (l:List Rec),l.length≤n→Ig2 l→(∀g∈grp l,g≠[]∧g=l.filter fun r=>decide (r.name=nmG g))∧∀r∈l,∃g∈grp l,nmG g=r.name∧r∈g
 |_,[],_,_=>by simp [grp,Tc]
 |0,x::r,hn,_=>by simp at hn
 |n+1,x::r,hn,hs=>by
  obtain ⟨g,l',h1,h2,h3,h4,h5⟩:=Qy x r
  have hnm:nmG g=x.name:=Fb4 h2 h3
  have hs2:Ig2 (g++l'):=by rw [←h1];exact hs
  have hs3:=E2.1 hs2
  have hgl:∀b∈l',ltN x.name b.name:=by
   cases l' with
   |nil=>intro b hb;cases hb
   |cons y l''=>
    have hy:ltN x.name y.name:=by
     obtain ⟨w,hw⟩:=Fw g h2
     have k:=hs3.2.2 w hw y (.head _)
     rw [h3 w hw] at k
     rcases to_N.tri x.name y.name with q|q|q
     ·exact q
     ·exact absurd q.symm (h4 y rfl)
     ·exact absurd q k
    intro b hb
    rcases Ah.1 hb with rfl|hb
    ·exact hy
    ·have k:=(Ar.1 hs3.2.1).1 b hb
     rcases to_N.tri y.name b.name with q|q|q
     ·exact to_N.tr _ _ _ hy q
     ·rw [←q];exact hy
     ·exact absurd q k
  have hlen:=congrArg List.length h1
  have hg0:0<g.length:=Bw.2 h2
  simp only [Az,A0] at hlen hn
  obtain ⟨i1,i2⟩:=Ck9 n l' (by omega) hs3.2.1
  rw [h5]
  refine ⟨fun g' hg'=> ?_,fun w hw=> ?_⟩
  ·rcases Ah.1 hg' with rfl|hg'
   ·refine ⟨h2,?_⟩
    rw [hnm,h1,E5]
    have e1:(g'.filter fun r=>decide (r.name=x.name))=g':=List.filter_eq_self.2 fun y hy=>by simp [h3 y hy]
    have e2:(l'.filter fun r=>decide (r.name=x.name))=[]:=Ex.2 fun y hy=>by
     have:=hgl y hy
     intro k
     simp only [decide_eq_true_eq] at k
     rw [k] at this
     exact to_N.irr _ this
    rw [e1,e2,D4]
   ·obtain ⟨j1,j2⟩:=i1 g' hg'
    refine ⟨j1,?_⟩
    rw [h1,E5]
    have e1:(g.filter fun r=>decide (r.name=nmG g'))=[]:=Ex.2 fun y hy=>by
     intro k
     simp only [decide_eq_true_eq] at k
     obtain ⟨w,hw⟩:=Fw g' j1
     have hw2:=hw
     rw [j2] at hw2
     obtain ⟨q1,q2⟩:=Bs.1 hw2
     simp only [decide_eq_true_eq] at q2
     have:=hgl w q1
     rw [q2,←k,h3 y hy] at this
     exact to_N.irr _ this
    rw [e1,Cd]
    exact j2
  ·rw [h1] at hw
   rcases Br.1 hw with hw|hw
   ·exact ⟨g, .head _,by rw [hnm,h3 w hw],hw⟩
   ·obtain ⟨g',q1,q2⟩:=i2 w hw
    exact ⟨g', .tail _ q1,q2⟩
theorem Jq6 (l:List Rec) (n:List UInt8) (t:Int):F0 (l.filter fun r=>decide (r.name=n)) t=S8 l n t:=by
 rw [Ch]
 unfold F0 S8 findR
 rw [B7,decide_eq_true_eq,List.length_pos_iff_exists_mem]
 constructor
 ·rintro ⟨x,h1,h2⟩
  obtain ⟨h3,h4⟩:=Bs.1 h1
  exact ⟨x,Bs.2 ⟨h3,by unfold isK;rw [h4,h2];rfl⟩⟩
 ·rintro ⟨x,h1⟩
  obtain ⟨h3,h4⟩:=Bs.1 h1
  unfold isK at h4
  rw [Av] at h4
  exact ⟨x,Bs.2 ⟨h3,h4.1⟩,h4.2⟩
theorem Fj7 (l:List Rec) (n:List UInt8) (t:Int):S8 l n t=true↔∃r∈l,r.name=n∧r.typ=t:=by
 unfold S8 findR
 rw [decide_eq_true_eq,List.length_pos_iff_exists_mem]
 constructor
 ·rintro ⟨x,h1⟩
  obtain ⟨h3,h4⟩:=Bs.1 h1
  unfold isK at h4
  simp only [Av,decide_eq_true_eq] at h4
  exact ⟨x,h3,h4⟩
 ·rintro ⟨x,h1,h2,h3⟩
  exact ⟨x,Bs.2 ⟨h1,by unfold isK;simp [h2,h3]⟩⟩
abbrev sng (t:Int):Prop:=t=6∨t=5∨t=39
def two (x y:Rec):Prop:=x.typ=y.typ→(x≠y→¬sng x.typ)∧(x.typ≠46→x.ttl=y.ttl)
theorem Ey4 {x y:Rec} (h:two x y):two y x:=fun e=>by
 obtain ⟨h1,h2⟩:=h e.symm
 exact ⟨fun k=>by rw [e];exact h1 k.symm,fun k=>(h2 (by rw [←e];exact k)).symm⟩
theorem Ey5 (x:Rec):two x x:=fun _=>⟨fun k=>absurd rfl k,fun _=>rfl⟩
theorem Bn9 {a b:Rec} (h:ltR a b) (e:a.name=b.name):a.typ≤b.typ:=by
 rcases h with h|⟨_,h|⟨h,_⟩⟩
 ·have h':ltN a.name b.name:=h
  rw [e] at h';exact absurd h' (to_N.irr _)
 ·have h':a.typ<b.typ:=h
  omega
 ·have h':a.typ=b.typ:=h
  omega
theorem Bp0 {a b:Rec} (h:ltR a b):a≠b:=fun e=>by rw [e] at h;exact to_K.irr _ h
theorem nt:∀(r:List Rec) (p:Rec),(p::r).Pairwise ltR→(∀x∈r,x.name=p.name)→(Tr p r=true↔(p::r).Pairwise two)
 |[],p,_,_=>by simp [Tr]
 |x::r,p,hs,hn=>by
  obtain ⟨h1,h2⟩:=Ar.1 hs
  obtain ⟨h3,h4⟩:=Ar.1 h2
  have hx:=hn x (.head _)
  have ih:=nt r x h2 (fun y hy=>by rw [hn y (.tail _ hy),hx])
  have hpx:(!decide (x.typ=p.typ)||(!(decide (x.typ=6)||decide (x.typ=5)||decide (x.typ=39)) && (decide (x.typ=46)||decide (x.ttl=p.ttl))))=true↔two p x:=by
   have hne:p≠x:=Bp0 (h1 x (.head _))
   unfold two sng
   simp only [Am,Av,A9,decide_eq_false_iff_not,decide_eq_true_eq,Ix]
   constructor
   ·rintro (k|⟨k1,k2⟩) e
    ·exact absurd e.symm k
    ·refine ⟨fun _=>by rw [e];omega,fun k=> ?_⟩
     rcases k2 with k2|k2
     ·exact absurd (e.trans k2) k
     ·exact k2.symm
   ·intro h
    by_cases e:x.typ=p.typ
    ·obtain ⟨a,b⟩:=h e.symm
     have a':=a hne
     refine .inr ⟨by rw [e];omega,?_⟩
     by_cases k:x.typ=46
     ·exact .inl k
     ·exact .inr (b (by rw [←e];exact k)).symm
    ·exact .inl e
  have step:Tr p (x::r)=true↔two p x∧Tr x r=true:=by
   simp only [Tr]
   rw [Av,hpx]
  rw [step,ih,Ar (a:=p)]
  constructor
  ·rintro ⟨k1,k2⟩
   refine ⟨fun y hy=> ?_,k2⟩
   rcases Ah.1 hy with rfl|hy
   ·exact k1
   ·intro e
    have t1:=Bn9 (h1 x (.head _)) hx.symm
    have t2:=Bn9 (h3 y hy) (by rw [hx,hn y (.tail _ hy)])
    have e1:p.typ=x.typ:=by omega
    obtain ⟨a1,a2⟩:=k1 e1
    obtain ⟨b1,b2⟩:=(Ar.1 k2).1 y hy (by omega)
    exact ⟨fun _=>a1 (Bp0 (h1 x (.head _))),fun k=>by rw [a2 k];exact b2 (by omega)⟩
  ·rintro ⟨k1,k2⟩
   exact ⟨k1 x (.head _),k2⟩
theorem Ey2 {g:List Rec} {n:List UInt8} (hs:g.Pairwise ltR) (hn:∀x∈g,x.name=n):Ew4 g=true↔∀x∈g,∀y∈g,two x y:=by
 have:Ew4 g=true↔g.Pairwise two:=by
  cases g with
  |nil=>simp [Ew4]
  |cons p r=>exact nt r p hs fun x hx=>by rw [hn x (.tail _ hx),hn p (.head _)]
 rw [this]
 constructor
 ·intro h x hx y hy
  obtain ⟨i,hi⟩:=Dk hx
  obtain ⟨j,hj⟩:=Dk hy
  obtain ⟨i1,i2⟩:=Aq.1 hi
  obtain ⟨j1,j2⟩:=Aq.1 hj
  rcases Nat.lt_trichotomy i j with k|k|k
  ·have:=Mz.1 h i j i1 j1 k
   rw [i2,j2] at this;exact this
  ·subst k
   rw [←i2,←j2];exact Ey5 _
  ·have:=Mz.1 h j i j1 i1 k
   rw [i2,j2] at this;exact Ey4 this
 ·intro h
  rw [Mz]
  intro i j hi hj _
  exact h _ (Dm hi) _ (Dm hj)
theorem P0 (r x:Rec):G1 r x=true↔(x.name=r.name→two r x∧(r.typ=5→x.typ=5∨x.typ=46∨x.typ=47)):=by
 unfold G1 two sng
 by_cases h:x.name=r.name
 ·simp only [h,decide_true,J8,J9,true_implies,Av,A9,Hq,decide_eq_false_iff_not,Ix,ne_eq,M3]
  by_cases e:x.typ=r.typ
  ·have e':r.typ=x.typ:=e.symm
   simp only [e,not_true_eq_false,false_or,true_implies]
   constructor
   ·rintro ⟨⟨h1,h2⟩,h3⟩
    refine ⟨⟨fun k q=> ?_,fun k=> ?_⟩,fun k=>by omega⟩
    ·rcases h2 with h2|h2
     ·omega
     ·exact k h2.symm
    ·rcases h1 with h1|h1
     ·exact absurd h1 k
     ·exact h1.symm
   ·rintro ⟨⟨h1,h2⟩,h3⟩
    refine ⟨⟨?_,?_⟩,by omega⟩
    ·by_cases k:r.typ=46
     ·exact .inl k
     ·exact .inr (h2 k).symm
    ·by_cases k:r=x
     ·exact .inr k.symm
     ·have:=h1 k
      left;omega
  ·have e':¬r.typ=x.typ:=fun q=>e q.symm
   simp only [e,e',not_false_eq_true,true_or,true_and,false_implies]
   omega
 ·simp [h]
set_option maxHeartbeats 1000000 in
theorem Bx2 (z:Zone) (hv:∀r∈z.recs,L6 r=true) (hr:z.recs.Pairwise ltR):
  ((∀g∈grp z.recs,Zf z g=true)∧∃r∈z.recs,r.name=z.origin)↔((findR z.recs z.origin 6).length=1∧S8 z.recs z.origin 2=true∧∀r∈z.recs,Ky z r=true):=by
 obtain ⟨ga,gb⟩:=Ck9 z.recs.length z.recs (Ac _) (Bv9 hr)
 have gm:∀g∈grp z.recs,∀x,x∈g↔x∈z.recs∧x.name=nmG g:=fun g hg x=>by
  have:=(ga g hg).2
  constructor
  ·intro h
   rw [this] at h
   obtain ⟨a,b⟩:=Bs.1 h
   exact ⟨a,by simpa using b⟩
  ·rintro ⟨a,b⟩
   rw [this]
   exact Bs.2 ⟨a,by simpa using b⟩
 have gh:∀g∈grp z.recs,∀t,F0 g t=S8 z.recs (nmG g) t:=fun g hg t=>by
  have:=Jq6 z.recs (nmG g) t
  rwa [←(ga g hg).2] at this
 have gu:∀g∈grp z.recs,(Ew4 g=true↔∀x∈g,∀y∈g,two x y):=fun g hg=>by
  refine Ey2 (n:=nmG g) ?_ fun x hx=>((gm g hg x).1 hx).2
  rw [(ga g hg).2]
  exact hr.filter _
 have hstar:∀r∈z.recs,(r.name[0]? =some 42↔(lbl r.name)[0]? =some [42]):=fun r h=>Az0 (Yh (hv r h))
 constructor
 ·rintro ⟨hp,r0,hr0,hr0n⟩
  have hpg:∀r∈z.recs,∃g∈grp z.recs,nmG g=r.name∧r∈g∧Zf z g=true:=fun r h=>by
   obtain ⟨g,h1,h2,h3⟩:=gb r h
   exact ⟨g,h1,h2,h3,hp g h1⟩
  obtain ⟨g0,k1,k2,k3,k4⟩:=hpg r0 hr0
  rw [hr0n] at k2
  have k5:=k4
  unfold Zf propG at k5
  simp only [k2,Av,decide_eq_true_eq,decide_true,J8,J9] at k5
  have s6:S8 z.recs z.origin 6=true:=by rw [←k2,←gh g0 k1,k5.1.1.1.1.1.1.1.2]
  have s2:S8 z.recs z.origin 2=true:=by rw [←k2,←gh g0 k1,k5.1.1.1.1.1.2]
  refine ⟨?_,s2,fun r h=> ?_⟩
  ·-- one SOA record
   have hpos:0<(findR z.recs z.origin 6).length:=by unfold S8 at s6;simpa using s6
   have hpw:(findR z.recs z.origin 6).Pairwise ltR:=hr.filter _
   have hmm:∀x∈findR z.recs z.origin 6,x∈g0∧x.typ=6:=fun x hx=>by
    obtain ⟨a,b⟩:=Bs.1 hx
    unfold isK at b
    simp only [Av,decide_eq_true_eq] at b
    exact ⟨(gm g0 k1 x).2 ⟨a,by rw [b.1,k2]⟩,b.2⟩
   have hu:=(gu g0 k1).1 k5.1.1.1.1.1.1.2
   generalize findR z.recs z.origin 6=l at*
   match l,hpos,hpw,hmm with
   |[a],_,_,_=>rfl
   |a::b::r,_,hpw,hmm=>
    exfalso
    have hab:=(Ar.1 hpw).1 b (.head _)
    obtain ⟨a1,a2⟩:=hmm a (.head _)
    obtain ⟨b1,b2⟩:=hmm b (.tail _ (.head _))
    exact ((hu a a1 b b1 (by rw [a2,b2])).1 (Bp0 hab)) (.inl a2)
  ·obtain ⟨g,h1,h2,h3,h4⟩:=hpg r h
   unfold Zf propG at h4
   rw [h2] at h4
   simp only [Av,decide_eq_true_eq,Am,A9,decide_eq_false_iff_not,Hq] at h4
   obtain ⟨⟨⟨⟨⟨⟨⟨⟨p1,p2⟩,p3⟩,p4⟩,p5⟩,p6⟩,p7⟩,p8⟩,p9⟩:=h4
   have hu:=(gu g h1).1 p3
   have hon:∀ts,Im g ts=true→r.typ∈ts:=fun ts k=>by
    have:=By.1 k r h3
    simpa using this
   have has:∀t,r.typ=t→F0 g t=true:=fun t e=>B7.2 ⟨r,h3,by simp [e]⟩
   unfold Ky
   simp only [Av,A9,Hq,decide_eq_false_iff_not,ne_eq,M3]
   refine ⟨⟨⟨p1,?_⟩,?_⟩,?_⟩
   ·by_cases e:r.typ=6
    ·right
     rw [has 6 e] at p2
     simpa using p2.symm
    ·exact .inl e
   ·unfold K9
    rw [By]
    intro x hx
    rw [P0]
    intro e
    have hxg:x∈g:=(gm g h1 x).2 ⟨hx,by rw [h2,e]⟩
    refine ⟨hu r h3 x hxg,fun e5=> ?_⟩
    rcases p5 with p5|p5
    ·rw [has 5 e5] at p5;cases p5
    ·have:=By.1 p5 x hxg
     simpa using this
   ·unfold Ml
    have h9:¬((lbl r.name)[0]? =some [42]∧(r.typ=2∨r.typ=39)):=by
     rintro ⟨e1,e2⟩
     rcases p9 with p9|⟨q1,q2⟩
     ·exact p9 ((hstar r h).2 e1)
     ·rcases e2 with e2|e2
      ·rw [has 2 e2] at q1;cases q1
      ·rw [has 39 e2] at q2;cases q2
    rw [if_neg h9,Av]
    refine ⟨By.2 fun x hx=> ?_,?_⟩
    ·unfold Fb
     simp only [Av,A9,Hq,decide_eq_false_iff_not,ne_eq,M3]
     constructor
     ·by_cases e:x.typ=39
      ·right
       rcases Ak (Dr r.name x.name) with q|q
       ·have:Hv1 z r.name=true:=B7.2 ⟨x,hx,by simp [e,q]⟩
        rw [this] at p6;cases p6
       ·exact q
      ·exact .inl e
     ·by_cases e:x.typ=2∧Dr x.name z.origin=true∧Dr r.name x.name=true
      ·have q:=e.2.2
       unfold Dr at q
       simp only [Av,decide_eq_true_eq] at q
       have:et z r.name=true:=B7.2 ⟨x,hx,by unfold D2;simp [e.1,e.2.1,q.2];exact fun k=>q.1 k.symm⟩
       rcases p7 with p7|p7
       ·rw [this] at p7;cases p7
       ·have:=hon _ p7
        simp at this
        rcases this with this|this
        ·exact .inl (.inr this)
        ·exact .inr this
      ·by_cases e1:x.typ=2
       ·by_cases e2:Dr x.name z.origin=true
        ·have e3:Dr r.name x.name=false:=by
          rcases Ak (Dr r.name x.name) with q|q
          ·exact absurd ⟨e1,e2,q⟩ e
          ·exact q
         exact .inl (.inl (.inr e3))
        ·exact .inl (.inl (.inl (.inr (by simpa using e2))))
       ·exact .inl (.inl (.inl (.inl e1)))
    ·have hb:Dr r.name z.origin= !decide (r.name=z.origin):=by unfold Dr;rw [p1];simp
     rw [hb,←h2,←gh g h1 2,h2]
     by_cases c:¬r.name=z.origin∧F0 g 2=true
     ·have cb:(!decide (r.name=z.origin) && F0 g 2)=true:=by simp [c]
      rw [if_pos c] at p8
      rw [if_pos cb]
      have:=hon _ p8
      unfold Ot
      simp at this ⊢
      omega
     ·have cb:¬(!decide (r.name=z.origin) && F0 g 2)=true:=by simpa using c
      rw [if_neg c] at p8
      rw [if_neg cb]
      simp only [A9] at p8
      rw [decide_eq_true_eq]
      intro e
      rw [has 43 e] at p8;cases p8
 ·rintro ⟨h1,h2,h3⟩
  have hrr:∃r∈z.recs,r.name=z.origin:=by
   obtain ⟨r,k1,k2,_⟩:=(Fj7 _ _ _).1 h2
   exact ⟨r,k1,k2⟩
  refine ⟨fun g hg=> ?_,hrr⟩
  obtain ⟨r,hrg⟩:=Fw g (ga g hg).1
  obtain ⟨hrz,hrn⟩:=(gm g hg r).1 hrg
  have hrec:∀x∈g,under x.name z.origin=true∧(x.typ=6→x.name=z.origin)∧(∀y∈g,two x y∧(x.typ=5→y.typ=5∨y.typ=46∨y.typ=47))∧Ml z x=true:=fun x hx=>by
   obtain ⟨a,b⟩:=(gm g hg x).1 hx
   have k:=h3 x a
   unfold Ky at k
   simp only [Av,A9,Hq,decide_eq_false_iff_not,ne_eq,M3] at k
   refine ⟨k.1.1.1,fun e=> ?_,fun y hy=> ?_,k.2⟩
   ·rcases k.1.1.2 with q|q
    ·exact absurd e q
    ·exact q
   ·obtain ⟨c,d⟩:=(gm g hg y).1 hy
    have q:=k.1.2
    unfold K9 at q
    exact (P0 x y).1 (By.1 q y c) (by rw [d,b])
  have hpl:∀x∈g,¬((lbl x.name)[0]? =some [42]∧(x.typ=2∨x.typ=39))∧z.recs.all (Fb z x)=true∧(if Dr x.name z.origin && S8 z.recs x.name 2 then Ot x.typ else decide (x.typ≠43))=true:=fun x hx=>by
   have k:=(hrec x hx).2.2.2
   unfold Ml at k
   by_cases q:(lbl x.name)[0]? =some [42]∧(x.typ=2∨x.typ=39)
   ·rw [if_pos q] at k;cases k
   ·rw [if_neg q,Av] at k
    exact ⟨q,k⟩
  have hnx:∀x∈g,x.name=nmG g:=fun x hx=>((gm g hg x).1 hx).2
  unfold Zf propG
  simp only [Av,decide_eq_true_eq,Am,A9,decide_eq_false_iff_not,Hq]
  refine ⟨⟨⟨⟨⟨⟨⟨⟨?_,?_⟩,?_⟩,?_⟩,?_⟩,?_⟩,?_⟩,?_⟩,?_⟩
  ·rw [←hrn];exact (hrec r hrg).1
  ·rw [Ch,decide_eq_true_eq]
   constructor
   ·intro k
    obtain ⟨x,x1,x2⟩:=B7.1 k
    rw [←hnx x x1]
    exact (hrec x x1).2.1 (by simpa using x2)
   ·intro k
    rw [gh g hg,k]
    unfold S8
    simp [h1]
  ·exact (gu g hg).2 fun x hx y hy=>((hrec x hx).2.2.1 y hy).1
  ·by_cases e:nmG g=z.origin
   ·right;rw [gh g hg,e];exact h2
   ·exact .inl e
  ·by_cases e:F0 g 5=true
   ·right
    obtain ⟨x,x1,x2⟩:=B7.1 e
    refine By.2 fun y hy=> ?_
    have:=((hrec x x1).2.2.1 y hy).2 (by simpa using x2)
    simpa using this
   ·exact .inl (by simpa using e)
  ·rcases Ak (Hv1 z (nmG g)) with q|q
   ·exfalso
    obtain ⟨w,w1,w2⟩:=B7.1 q
    have k:=By.1 (hpl r hrg).2.1 w w1
    unfold Fb at k
    rw [hrn] at k
    rw [w2] at k
    simp at k
   ·exact q
  ·rcases Ak (et z (nmG g)) with q|q
   ·right
    obtain ⟨w,w1,w2⟩:=B7.1 q
    unfold D2 at w2
    simp only [Av,decide_eq_true_eq] at w2
    refine By.2 fun x hx=> ?_
    have k:=By.1 (hpl x hx).2.1 w w1
    unfold Fb at k
    have hb:Dr x.name w.name=true:=by
     unfold Dr
     rw [hnx x hx]
     have:nmG g≠w.name:=fun e=>w2.1.2 e.symm
     simp [this,w2.2]
    rw [hb,w2.1.1.2] at k
    simp [w2.1.1.1] at k
    have k':x.typ=1∨x.typ=28:=by omega
    simpa using k'
   ·exact .inl q
  ·have hbn:Dr (nmG g) z.origin= !decide (nmG g=z.origin):=by
    unfold Dr
    rw [←hrn,(hrec r hrg).1];simp
   by_cases c0:¬nmG g=z.origin∧F0 g 2=true
   ·have c:(!decide (nmG g=z.origin) && F0 g 2)=true:=by simp [c0]
    rw [if_pos c0]
    refine By.2 fun x hx=> ?_
    have k:=(hpl x hx).2.2
    rw [hnx x hx,hbn,←gh g hg,if_pos c] at k
    unfold Ot at k
    simp at k ⊢
    omega
   ·have c:¬(!decide (nmG g=z.origin) && F0 g 2)=true:=by simpa using c0
    rw [if_neg c0]
    simp only [A9]
    rcases Ak (F0 g 43) with q|q
    ·exfalso
     obtain ⟨x,x1,x2⟩:=B7.1 q
     have k:=(hpl x x1).2.2
     rw [hnx x x1,hbn,←gh g hg,if_neg c] at k
     simp at x2 k
     exact k x2
    ·exact q
  ·by_cases e:(nmG g)[0]? =some 42
   ·right
    rw [←hrn] at e
    have e2:=(hstar r hrz).1 e
    constructor
    ·rcases Ak (F0 g 2) with q|q
     ·exfalso
      obtain ⟨x,x1,x2⟩:=B7.1 q
      refine (hpl x x1).1 ⟨by rw [hnx x x1,←hrn];exact e2, .inl (by simpa using x2)⟩
     ·exact q
    ·rcases Ak (F0 g 39) with q|q
     ·exfalso
      obtain ⟨x,x1,x2⟩:=B7.1 q
      refine (hpl x x1).1 ⟨by rw [hnx x x1,←hrn];exact e2, .inr (by simpa using x2)⟩
     ·exact q
   ·exact .inl e
end Go.X.G
