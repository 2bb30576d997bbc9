/- Zones by the names of their records: the program's conditions are the reference's. -/
import Derived.Test.YteiaijjlmnacpaaGreatDoorZoneGluesG9
open Bool renaming eq_false_or_eq_true→Ak,and_eq_true→Av,or_eq_true→Am,not_eq_true'→A9,eq_iff_iff→C1,and_eq_false_iff→Hb,or_eq_false_iff→Ih,not_true→Kh,false_or→Kl
open Classical renaming not_not→Nn
open List renaming getElem?_eq_some_iff→Aq,length_append→Az,mem_cons→Al,pairwise_cons→As,length_cons→A0,length_pos_iff→Bw,all_eq_true→By,mem_append→Br,mem_filter→Bs,any_eq_true→B8,nil_append→Cd,getElem?_of_mem→Dq,getElem_mem→Ds,append_nil→D6,filter_eq_nil_iff→Eb,pairwise_append→E8,filter_append→Fq,exists_mem_of_ne_nil→Ff,pairwise_iff_getElem→M7
open Nat renaming le_refl→Ac
set_option maxHeartbeats 1000000
set_option linter.unusedVariables false
set_option linter.unusedSimpArgs false
namespace Go.X.G
open Go Go.X
theorem Bl1 {l:List Rec} (h:l.Pairwise ltR):Jy4 l:=h.imp fun {a b} k=>by
 rcases k with k|⟨k,_⟩
 ·exact to_N.asym k
 ·have k':a.name=b.name:=k
  rw [k'];exact to_N.irr _
theorem Cg1:∀(n:Nat) (l:List Rec),l.length≤n→Jy4 l→(∀g∈grp l,g≠[]∧g=l.filter fun r=>decide (r.name=nmG g))∧∀r∈l,∃g∈grp l,nmG g=r.name∧r∈g
 |_,[],_,_=>by simp [grp,Ul]
 |0,x::r,hn,_=>by simp at hn
 |n+1,x::r,hn,hs=>by
  obtain ⟨g,l',h1,h2,h3,h4,h5⟩:=Rw x r
  have hnm:nmG g=x.name:=Ft7 h2 h3
  have hs2:Jy4 (g++l'):=by rw [←h1];exact hs
  have hs3:=E8.1 hs2
  have hgl:∀b∈l',ltN x.name b.name:=by
   cases l' with
   |nil=>intro b hb;cases hb
   |cons y l''=>
    have hy:ltN x.name y.name:=by
     obtain ⟨w,hw⟩:=Ff g h2
     have k:=hs3.2.2 w hw y (.head _)
     rw [h3 w hw] at k
     rcases to_N.tri x.name y.name with q|q|q
     ·exact q
     ·exact absurd q.symm (h4 y rfl)
     ·exact absurd q k
    intro b hb
    rcases Al.1 hb with rfl|hb
    ·exact hy
    ·have k:=(As.1 hs3.2.1).1 b hb
     rcases to_N.tri y.name b.name with q|q|q
     ·exact to_N.tr _ _ _ hy q
     ·rw [←q];exact hy
     ·exact absurd q k
  have hlen:=congrArg List.length h1
  have hg0:0<g.length:=Bw.2 h2
  simp only [Az,A0] at hlen hn
  obtain ⟨i1,i2⟩:=Cg1 n l' (by omega) hs3.2.1
  rw [h5]
  refine ⟨fun g' hg'=> ?_,fun w hw=> ?_⟩
  ·rcases Al.1 hg' with rfl|hg'
   ·refine ⟨h2,?_⟩
    rw [hnm,h1,Fq]
    have e1:(g'.filter fun r=>decide (r.name=x.name))=g':=List.filter_eq_self.2 fun y hy=>by simp [h3 y hy]
    have e2:(l'.filter fun r=>decide (r.name=x.name))=[]:=Eb.2 fun y hy=>by
     have:=hgl y hy
     intro k
     simp only [decide_eq_true_eq] at k
     rw [k] at this
     exact to_N.irr _ this
    rw [e1,e2,D6]
   ·obtain ⟨j1,j2⟩:=i1 g' hg'
    refine ⟨j1,?_⟩
    rw [h1,Fq]
    have e1:(g.filter fun r=>decide (r.name=nmG g'))=[]:=Eb.2 fun y hy=>by
     intro k
     simp only [decide_eq_true_eq] at k
     obtain ⟨w,hw⟩:=Ff g' j1
     have hw2:=hw
     rw [j2] at hw2
     obtain ⟨q1,q2⟩:=Bs.1 hw2
     simp only [decide_eq_true_eq] at q2
     have:=hgl w q1
     rw [q2,←k,h3 y hy] at this
     exact to_N.irr _ this
    rw [e1,Cd]
    exact j2
  ·rw [h1] at hw
   rcases Br.1 hw with hw|hw
   ·exact ⟨g, .head _,by rw [hnm,h3 w hw],hw⟩
   ·obtain ⟨g',q1,q2⟩:=i2 w hw
    exact ⟨g', .tail _ q1,q2⟩
theorem Jp8 (l:List Rec) (n:List UInt8) (t:Int):F7 (l.filter fun r=>decide (r.name=n)) t=Uw l n t:=by
 rw [C1]
 unfold F7 Uw findR
 rw [B8,decide_eq_true_eq,List.length_pos_iff_exists_mem]
 constructor
 ·rintro ⟨x,h1,h2⟩
  obtain ⟨h3,h4⟩:=Bs.1 h1
  exact ⟨x,Bs.2 ⟨h3,by unfold isK;rw [h4,h2];rfl⟩⟩
 ·rintro ⟨x,h1⟩
  obtain ⟨h3,h4⟩:=Bs.1 h1
  unfold isK at h4
  rw [Av] at h4
  exact ⟨x,Bs.2 ⟨h3,h4.1⟩,h4.2⟩
theorem Fg2 (l:List Rec) (n:List UInt8) (t:Int):Uw l n t=true↔∃r∈l,r.name=n∧r.typ=t:=by
 unfold Uw findR
 rw [decide_eq_true_eq,List.length_pos_iff_exists_mem]
 constructor
 ·rintro ⟨x,h1⟩
  obtain ⟨h3,h4⟩:=Bs.1 h1
  unfold isK at h4
  simp only [Av,decide_eq_true_eq] at h4
  exact ⟨x,h3,h4⟩
 ·rintro ⟨x,h1,h2,h3⟩
  exact ⟨x,Bs.2 ⟨h1,by unfold isK;simp [h2,h3]⟩⟩
abbrev sng (t:Int):Prop:=t=6∨t=5∨t=39
def two (x y:Rec):Prop:=x.typ=y.typ→(x≠y→¬sng x.typ)∧(x.typ≠46→x.ttl=y.ttl)
theorem Ep8 {x y:Rec} (h:two x y):two y x:=fun e=>by
 obtain ⟨h1,h2⟩:=h e.symm
 exact ⟨fun k=>by rw [e];exact h1 k.symm,fun k=>(h2 (by rw [←e];exact k)).symm⟩
theorem Ep9 (x:Rec):two x x:=fun _=>⟨fun k=>absurd rfl k,fun _=>rfl⟩
theorem Cy1 {a b:Rec} (h:ltR a b) (e:a.name=b.name):a.typ≤b.typ:=by
 rcases h with h|⟨_,h|⟨h,_⟩⟩
 ·have h':ltN a.name b.name:=h
  rw [e] at h';exact absurd h' (to_N.irr _)
 ·have h':a.typ<b.typ:=h
  omega
 ·have h':a.typ=b.typ:=h
  omega
theorem Cy2 {a b:Rec} (h:ltR a b):a≠b:=fun e=>by rw [e] at h;exact to_K.irr _ h
theorem sk:∀(r:List Rec) (p:Rec),(p::r).Pairwise ltR→(∀x∈r,x.name=p.name)→(U5 p r=true↔(p::r).Pairwise two)
 |[],p,_,_=>by simp [U5]
 |x::r,p,hs,hn=>by
  obtain ⟨h1,h2⟩:=As.1 hs
  obtain ⟨h3,h4⟩:=As.1 h2
  have hx:=hn x (.head _)
  have ih:=sk r x h2 (fun y hy=>by rw [hn y (.tail _ hy),hx])
  have hpx:(!decide (x.typ=p.typ)||(!(decide (x.typ=6)||decide (x.typ=5)||decide (x.typ=39)) && (decide (x.typ=46)||decide (x.ttl=p.ttl))))=true↔two p x:=by
   have hne:p≠x:=Cy2 (h1 x (.head _))
   unfold two sng
   simp only [Am,Av,A9,decide_eq_false_iff_not,decide_eq_true_eq,Ih]
   constructor
   ·rintro (k|⟨k1,k2⟩) e
    ·exact absurd e.symm k
    ·refine ⟨fun _=>by rw [e];omega,fun k=> ?_⟩
     rcases k2 with k2|k2
     ·exact absurd (e.trans k2) k
     ·exact k2.symm
   ·intro h
    by_cases e:x.typ=p.typ
    ·obtain ⟨a,b⟩:=h e.symm
     have a':=a hne
     refine .inr ⟨by rw [e];omega,?_⟩
     by_cases k:x.typ=46
     ·exact .inl k
     ·exact .inr (b (by rw [←e];exact k)).symm
    ·exact .inl e
  have step:U5 p (x::r)=true↔two p x∧U5 x r=true:=by
   simp only [U5]
   rw [Av,hpx]
  rw [step,ih,As (a:=p)]
  constructor
  ·rintro ⟨k1,k2⟩
   refine ⟨fun y hy=> ?_,k2⟩
   rcases Al.1 hy with rfl|hy
   ·exact k1
   ·intro e
    have t1:=Cy1 (h1 x (.head _)) hx.symm
    have t2:=Cy1 (h3 y hy) (by rw [hx,hn y (.tail _ hy)])
    have e1:p.typ=x.typ:=by omega
    obtain ⟨a1,a2⟩:=k1 e1
    obtain ⟨b1,b2⟩:=(As.1 k2).1 y hy (by omega)
    exact ⟨fun _=>a1 (Cy2 (h1 x (.head _))),fun k=>by rw [a2 k];exact b2 (by omega)⟩
  ·rintro ⟨k1,k2⟩
   exact ⟨k1 x (.head _),k2⟩
theorem Ep6 {g:List Rec} {n:List UInt8} (hs:g.Pairwise ltR) (hn:∀x∈g,x.name=n):Em5 g=true↔∀x∈g,∀y∈g,two x y:=by
 have:Em5 g=true↔g.Pairwise two:=by
  cases g with
  |nil=>simp [Em5]
  |cons p r=>exact sk r p hs fun x hx=>by rw [hn x (.tail _ hx),hn p (.head _)]
 rw [this]
 constructor
 ·intro h x hx y hy
  obtain ⟨i,hi⟩:=Dq hx
  obtain ⟨j,hj⟩:=Dq hy
  obtain ⟨i1,i2⟩:=Aq.1 hi
  obtain ⟨j1,j2⟩:=Aq.1 hj
  rcases Nat.lt_trichotomy i j with k|k|k
  ·have:=M7.1 h i j i1 j1 k
   rw [i2,j2] at this;exact this
  ·subst k
   rw [←i2,←j2];exact Ep9 _
  ·have:=M7.1 h j i j1 i1 k
   rw [i2,j2] at this;exact Ep8 this
 ·intro h
  rw [M7]
  intro i j hi hj _
  exact h _ (Ds hi) _ (Ds hj)
theorem Qm (r x:Rec):G6 r x=true↔(x.name=r.name→two r x∧(r.typ=5→x.typ=5∨x.typ=46∨x.typ=47)):=by
 unfold G6 two sng
 by_cases h:x.name=r.name
 ·simp only [h,decide_true,Kh,Kl,true_implies,Av,A9,Hb,decide_eq_false_iff_not,Ih,ne_eq,Nn]
  by_cases e:x.typ=r.typ
  ·have e':r.typ=x.typ:=e.symm
   simp only [e,not_true_eq_false,false_or,true_implies]
   constructor
   ·rintro ⟨⟨h1,h2⟩,h3⟩
    refine ⟨⟨fun k q=> ?_,fun k=> ?_⟩,fun k=>by omega⟩
    ·rcases h2 with h2|h2
     ·omega
     ·exact k h2.symm
    ·rcases h1 with h1|h1
     ·exact absurd h1 k
     ·exact h1.symm
   ·rintro ⟨⟨h1,h2⟩,h3⟩
    refine ⟨⟨?_,?_⟩,by omega⟩
    ·by_cases k:r.typ=46
     ·exact .inl k
     ·exact .inr (h2 k).symm
    ·by_cases k:r=x
     ·exact .inr k.symm
     ·have:=h1 k
      left;omega
  ·have e':¬r.typ=x.typ:=fun q=>e q.symm
   simp only [e,e',not_false_eq_true,true_or,true_and,false_implies]
   omega
 ·simp [h]
set_option maxHeartbeats 1000000 in
theorem Bm4 (z:Zone) (hv:∀r∈z.recs,Mn r=true) (hr:z.recs.Pairwise ltR):
  ((∀g∈grp z.recs,cj z g=true)∧∃r∈z.recs,r.name=z.origin)↔((findR z.recs z.origin 6).length=1∧Uw z.recs z.origin 2=true∧∀r∈z.recs,K2 z r=true):=by
 obtain ⟨ga,gb⟩:=Cg1 z.recs.length z.recs (Ac _) (Bl1 hr)
 have gm:∀g∈grp z.recs,∀x,x∈g↔x∈z.recs∧x.name=nmG g:=fun g hg x=>by
  have:=(ga g hg).2
  constructor
  ·intro h
   rw [this] at h
   obtain ⟨a,b⟩:=Bs.1 h
   exact ⟨a,by simpa using b⟩
  ·rintro ⟨a,b⟩
   rw [this]
   exact Bs.2 ⟨a,by simpa using b⟩
 have gh:∀g∈grp z.recs,∀t,F7 g t=Uw z.recs (nmG g) t:=fun g hg t=>by
  have:=Jp8 z.recs (nmG g) t
  rwa [←(ga g hg).2] at this
 have gu:∀g∈grp z.recs,(Em5 g=true↔∀x∈g,∀y∈g,two x y):=fun g hg=>by
  refine Ep6 (n:=nmG g) ?_ fun x hx=>((gm g hg x).1 hx).2
  rw [(ga g hg).2]
  exact hr.filter _
 have hstar:∀r∈z.recs,(r.name[0]? =some 42↔(lbl r.name)[0]? =some [42]):=fun r h=>Al7 (Z8 (hv r h))
 constructor
 ·rintro ⟨hp,r0,hr0,hr0n⟩
  have hpg:∀r∈z.recs,∃g∈grp z.recs,nmG g=r.name∧r∈g∧cj z g=true:=fun r h=>by
   obtain ⟨g,h1,h2,h3⟩:=gb r h
   exact ⟨g,h1,h2,h3,hp g h1⟩
  obtain ⟨g0,k1,k2,k3,k4⟩:=hpg r0 hr0
  rw [hr0n] at k2
  have k5:=k4
  unfold cj propG at k5
  simp only [k2,Av,decide_eq_true_eq,decide_true,Kh,Kl] at k5
  have s6:Uw z.recs z.origin 6=true:=by rw [←k2,←gh g0 k1,k5.1.1.1.1.1.1.1.2]
  have s2:Uw z.recs z.origin 2=true:=by rw [←k2,←gh g0 k1,k5.1.1.1.1.1.2]
  refine ⟨?_,s2,fun r h=> ?_⟩
  ·-- one SOA record
   have hpos:0<(findR z.recs z.origin 6).length:=by unfold Uw at s6;simpa using s6
   have hpw:(findR z.recs z.origin 6).Pairwise ltR:=hr.filter _
   have hmm:∀x∈findR z.recs z.origin 6,x∈g0∧x.typ=6:=fun x hx=>by
    obtain ⟨a,b⟩:=Bs.1 hx
    unfold isK at b
    simp only [Av,decide_eq_true_eq] at b
    exact ⟨(gm g0 k1 x).2 ⟨a,by rw [b.1,k2]⟩,b.2⟩
   have hu:=(gu g0 k1).1 k5.1.1.1.1.1.1.2
   generalize findR z.recs z.origin 6=l at*
   match l,hpos,hpw,hmm with
   |[a],_,_,_=>rfl
   |a::b::r,_,hpw,hmm=>
    exfalso
    have hab:=(As.1 hpw).1 b (.head _)
    obtain ⟨a1,a2⟩:=hmm a (.head _)
    obtain ⟨b1,b2⟩:=hmm b (.tail _ (.head _))
    exact ((hu a a1 b b1 (by rw [a2,b2])).1 (Cy2 hab)) (.inl a2)
  ·obtain ⟨g,h1,h2,h3,h4⟩:=hpg r h
   unfold cj propG at h4
   rw [h2] at h4
   simp only [Av,decide_eq_true_eq,Am,A9,decide_eq_false_iff_not,Hb] at h4
   obtain ⟨⟨⟨⟨⟨⟨⟨⟨p1,p2⟩,p3⟩,p4⟩,p5⟩,p6⟩,p7⟩,p8⟩,p9⟩:=h4
   have hu:=(gu g h1).1 p3
   have hon:∀ts,I4 g ts=true→r.typ∈ts:=fun ts k=>by
    have:=By.1 k r h3
    simpa using this
   have has:∀t,r.typ=t→F7 g t=true:=fun t e=>B8.2 ⟨r,h3,by simp [e]⟩
   unfold K2
   simp only [Av,A9,Hb,decide_eq_false_iff_not,ne_eq,Nn]
   refine ⟨⟨⟨p1,?_⟩,?_⟩,?_⟩
   ·by_cases e:r.typ=6
    ·right
     rw [has 6 e] at p2
     simpa using p2.symm
    ·exact .inl e
   ·unfold Lr
    rw [By]
    intro x hx
    rw [Qm]
    intro e
    have hxg:x∈g:=(gm g h1 x).2 ⟨hx,by rw [h2,e]⟩
    refine ⟨hu r h3 x hxg,fun e5=> ?_⟩
    rcases p5 with p5|p5
    ·rw [has 5 e5] at p5;cases p5
    ·have:=By.1 p5 x hxg
     simpa using this
   ·unfold Nw
    have h9:¬((lbl r.name)[0]? =some [42]∧(r.typ=2∨r.typ=39)):=by
     rintro ⟨e1,e2⟩
     rcases p9 with p9|⟨q1,q2⟩
     ·exact p9 ((hstar r h).2 e1)
     ·rcases e2 with e2|e2
      ·rw [has 2 e2] at q1;cases q1
      ·rw [has 39 e2] at q2;cases q2
    rw [if_neg h9,Av]
    refine ⟨By.2 fun x hx=> ?_,?_⟩
    ·unfold Fp
     simp only [Av,A9,Hb,decide_eq_false_iff_not,ne_eq,Nn]
     constructor
     ·by_cases e:x.typ=39
      ·right
       rcases Ak (Dr r.name x.name) with q|q
       ·have:Hp5 z r.name=true:=B8.2 ⟨x,hx,by simp [e,q]⟩
        rw [this] at p6;cases p6
       ·exact q
      ·exact .inl e
     ·by_cases e:x.typ=2∧Dr x.name z.origin=true∧Dr r.name x.name=true
      ·have q:=e.2.2
       unfold Dr at q
       simp only [Av,decide_eq_true_eq] at q
       have:jk z r.name=true:=B8.2 ⟨x,hx,by unfold Dw;simp [e.1,e.2.1,q.2];exact fun k=>q.1 k.symm⟩
       rcases p7 with p7|p7
       ·rw [this] at p7;cases p7
       ·have:=hon _ p7
        simp at this
        rcases this with this|this
        ·exact .inl (.inr this)
        ·exact .inr this
      ·by_cases e1:x.typ=2
       ·by_cases e2:Dr x.name z.origin=true
        ·have e3:Dr r.name x.name=false:=by
          rcases Ak (Dr r.name x.name) with q|q
          ·exact absurd ⟨e1,e2,q⟩ e
          ·exact q
         exact .inl (.inl (.inr e3))
        ·exact .inl (.inl (.inl (.inr (by simpa using e2))))
       ·exact .inl (.inl (.inl (.inl e1)))
    ·have hb:Dr r.name z.origin= !decide (r.name=z.origin):=by unfold Dr;rw [p1];simp
     rw [hb,←h2,←gh g h1 2,h2]
     by_cases c:¬r.name=z.origin∧F7 g 2=true
     ·have cb:(!decide (r.name=z.origin) && F7 g 2)=true:=by simp [c]
      rw [if_pos c] at p8
      rw [if_pos cb]
      have:=hon _ p8
      unfold Ph
      simp at this ⊢
      omega
     ·have cb:¬(!decide (r.name=z.origin) && F7 g 2)=true:=by simpa using c
      rw [if_neg c] at p8
      rw [if_neg cb]
      simp only [A9] at p8
      rw [decide_eq_true_eq]
      intro e
      rw [has 43 e] at p8;cases p8
 ·rintro ⟨h1,h2,h3⟩
  have hrr:∃r∈z.recs,r.name=z.origin:=by
   obtain ⟨r,k1,k2,_⟩:=(Fg2 _ _ _).1 h2
   exact ⟨r,k1,k2⟩
  refine ⟨fun g hg=> ?_,hrr⟩
  obtain ⟨r,hrg⟩:=Ff g (ga g hg).1
  obtain ⟨hrz,hrn⟩:=(gm g hg r).1 hrg
  have hrec:∀x∈g,under x.name z.origin=true∧(x.typ=6→x.name=z.origin)∧(∀y∈g,two x y∧(x.typ=5→y.typ=5∨y.typ=46∨y.typ=47))∧Nw z x=true:=fun x hx=>by
   obtain ⟨a,b⟩:=(gm g hg x).1 hx
   have k:=h3 x a
   unfold K2 at k
   simp only [Av,A9,Hb,decide_eq_false_iff_not,ne_eq,Nn] at k
   refine ⟨k.1.1.1,fun e=> ?_,fun y hy=> ?_,k.2⟩
   ·rcases k.1.1.2 with q|q
    ·exact absurd e q
    ·exact q
   ·obtain ⟨c,d⟩:=(gm g hg y).1 hy
    have q:=k.1.2
    unfold Lr at q
    exact (Qm x y).1 (By.1 q y c) (by rw [d,b])
  have hpl:∀x∈g,¬((lbl x.name)[0]? =some [42]∧(x.typ=2∨x.typ=39))∧z.recs.all (Fp z x)=true∧(if Dr x.name z.origin && Uw z.recs x.name 2 then Ph x.typ else decide (x.typ≠43))=true:=fun x hx=>by
   have k:=(hrec x hx).2.2.2
   unfold Nw at k
   by_cases q:(lbl x.name)[0]? =some [42]∧(x.typ=2∨x.typ=39)
   ·rw [if_pos q] at k;cases k
   ·rw [if_neg q,Av] at k
    exact ⟨q,k⟩
  have hnx:∀x∈g,x.name=nmG g:=fun x hx=>((gm g hg x).1 hx).2
  unfold cj propG
  simp only [Av,decide_eq_true_eq,Am,A9,decide_eq_false_iff_not,Hb]
  refine ⟨⟨⟨⟨⟨⟨⟨⟨?_,?_⟩,?_⟩,?_⟩,?_⟩,?_⟩,?_⟩,?_⟩,?_⟩
  ·rw [←hrn];exact (hrec r hrg).1
  ·rw [C1,decide_eq_true_eq]
   constructor
   ·intro k
    obtain ⟨x,x1,x2⟩:=B8.1 k
    rw [←hnx x x1]
    exact (hrec x x1).2.1 (by simpa using x2)
   ·intro k
    rw [gh g hg,k]
    unfold Uw
    simp [h1]
  ·exact (gu g hg).2 fun x hx y hy=>((hrec x hx).2.2.1 y hy).1
  ·by_cases e:nmG g=z.origin
   ·right;rw [gh g hg,e];exact h2
   ·exact .inl e
  ·by_cases e:F7 g 5=true
   ·right
    obtain ⟨x,x1,x2⟩:=B8.1 e
    refine By.2 fun y hy=> ?_
    have:=((hrec x x1).2.2.1 y hy).2 (by simpa using x2)
    simpa using this
   ·exact .inl (by simpa using e)
  ·rcases Ak (Hp5 z (nmG g)) with q|q
   ·exfalso
    obtain ⟨w,w1,w2⟩:=B8.1 q
    have k:=By.1 (hpl r hrg).2.1 w w1
    unfold Fp at k
    rw [hrn] at k
    rw [w2] at k
    simp at k
   ·exact q
  ·rcases Ak (jk z (nmG g)) with q|q
   ·right
    obtain ⟨w,w1,w2⟩:=B8.1 q
    unfold Dw at w2
    simp only [Av,decide_eq_true_eq] at w2
    refine By.2 fun x hx=> ?_
    have k:=By.1 (hpl x hx).2.1 w w1
    unfold Fp at k
    have hb:Dr x.name w.name=true:=by
     unfold Dr
     rw [hnx x hx]
     have:nmG g≠w.name:=fun e=>w2.1.2 e.symm
     simp [this,w2.2]
    rw [hb,w2.1.1.2] at k
    simp [w2.1.1.1] at k
    have k':x.typ=1∨x.typ=28:=by omega
    simpa using k'
   ·exact .inl q
  ·have hbn:Dr (nmG g) z.origin= !decide (nmG g=z.origin):=by
    unfold Dr
    rw [←hrn,(hrec r hrg).1];simp
   by_cases c0:¬nmG g=z.origin∧F7 g 2=true
   ·have c:(!decide (nmG g=z.origin) && F7 g 2)=true:=by simp [c0]
    rw [if_pos c0]
    refine By.2 fun x hx=> ?_
    have k:=(hpl x hx).2.2
    rw [hnx x hx,hbn,←gh g hg,if_pos c] at k
    unfold Ph at k
    simp at k ⊢
    omega
   ·have c:¬(!decide (nmG g=z.origin) && F7 g 2)=true:=by simpa using c0
    rw [if_neg c0]
    simp only [A9]
    rcases Ak (F7 g 43) with q|q
    ·exfalso
     obtain ⟨x,x1,x2⟩:=B8.1 q
     have k:=(hpl x x1).2.2
     rw [hnx x x1,hbn,←gh g hg,if_neg c] at k
     simp at x2 k
     exact k x2
    ·exact q
  ·by_cases e:(nmG g)[0]? =some 42
   ·right
    rw [←hrn] at e
    have e2:=(hstar r hrz).1 e
    constructor
    ·rcases Ak (F7 g 2) with q|q
     ·exfalso
      obtain ⟨x,x1,x2⟩:=B8.1 q
      refine (hpl x x1).1 ⟨by rw [hnx x x1,←hrn];exact e2, .inl (by simpa using x2)⟩
     ·exact q
    ·rcases Ak (F7 g 39) with q|q
     ·exfalso
      obtain ⟨x,x1,x2⟩:=B8.1 q
      refine (hpl x x1).1 ⟨by rw [hnx x x1,←hrn];exact e2, .inr (by simpa using x2)⟩
     ·exact q
   ·exact .inl e
end Go.X.G
