/- Data of records in the program: Wire and Compare, the Py. -/
import Derived.Test.YtfhbgkahambahaaGreatDoorIterateServerG13
import Derived.Test.YtfhbgkahambahaaGreatDoorIterateServerG12
open Bool renaming eq_false_or_eq_true→Bm,and_eq_true→Br,false_eq_true→B5,or_eq_true→Cj,not_eq_true'→Cm,eq_iff_iff→D6
open Int renaming le_refl→Jw6
open List renaming getElem?_eq_some_iff→Bp,length_append→B0,getElem?_eq_getElem→B3,mem_cons→Ck,length_take→Cq,length_cons→Cw,append_assoc→Cy,getElem?_append_right→Cz,mem_of_getElem?→Cc,pairwise_cons→Cf,getElem?_drop→Ch,length_nil→Cl,getElem?_append_left→Cn,length_pos_iff→Cr,mem_filter→C0,mem_append→C4,eq_nil_of_length_eq_zero→C5,take_append_drop→C9,mem_append_right→Dq,length_drop→Dv,any_eq_true→Db,cons_append→Dh,take_add_one→Dm,nil_append→Dp,length_filter_le→D1,drop_eq_getElem_cons→D8,drop_drop→D9,take_length→Ex,take_of_length_le→Ef,mem_of_mem_take→Eg,getElem?_of_mem→Eh,getElem_mem→Em,getElem?_set→En,mem_map→E2,length_map→E5,append_nil→E6,length_singleton→Fj,filter_cons_of_pos→Fv,filter_append→Ff,getElem?_cons_succ→F0,drop_zero→Gq,pairwise_append→Gn,map_cons→G1,flatMap_cons→Hk,count_cons_of_ne→Hd,mem_of_mem_drop→H8,count_cons_self→H9,filter_eq_nil_iff→Is,length_set→I8,getLast_eq_getElem→K2,drop_of_length_le→L8,filter_cons→M7,set_append_right→Ov,pairwise_iff_getElem→Pw,drop_set_of_lt→U4,length_mergeSort→wq,getElem_take→Ax1,take_take→Bm9,getElem?_set_ne→Bn1,map_mergeSort→Hr2,count_eq_zero→Hr3
open Nat renaming le_refl→B7,mul_le_mul_right→C3,le_trans→Dy,zero_le→Dr,add_mul→Ds,add_zero→E1,min_eq_left→Lw,add_sub_cancel→Nq,sub_self→cr,add_comm→Dm7
set_option maxHeartbeats 1000000
set_option linter.defProp false
set_option linter.unusedVariables false
set_option linter.unusedSimpArgs false
namespace Go.X.G
open Go Go.X
def Ab:=And.intro EVC<|And.intro xe<|And.intro EVP EV
def Az:=And.intro EVM<|And.intro EVC<|And.intro xe<|And.intro EVP EV
def W6 {t:Int} {d:Dat} (h:F9 t d=true):knw t=true:=by unfold F9 at h;simp only[Br] at h;exact h.1.1
def wt {t:Int} {d:Dat} (h:F9 t d=true):usd t d=d:=by unfold F9 at h;simp only[Br,decide_eq_true_eq] at h;exact h.1.2
def T2 {t:Int} {d:Dat} (h:F9 t d=true):E7 t d=true:=by unfold F9 at h;simp only[Br] at h;exact h.2
set_option maxHeartbeats 1000000 in
def Fm8 {t:Int} {d:Dat} (h:F9 t d=true):NumsOk d:=by
 have hk:=W6 h;have hu:=wt h;have ho:=T2 h;have ua:=congrArg Dat.a hu;have ub:=congrArg Dat.b hu;have uc:=congrArg Dat.c hu;have ud:=congrArg Dat.d hu;have ue:=congrArg Dat.e hu;have uf:=congrArg Dat.f hu;have ut:=congrArg (fun x=>x.text.length) hu;clear hu;rcases knw_cases hk with rfl|rfl|rfl|rfl|rfl|rfl|rfl|rfl|rfl|rfl|rfl|rfl|rfl|rfl
 ·simp[E7,inB,Ks,F5] at ho;simp only[usd,Int.reduceEq,or_false,or_true,or_self,if_true,if_false,↓reduceIte,Cl] at ua ub uc ud ue uf ut;refine⟨?_,?_,?_,?_,?_,?_,?_⟩<;>omega
 ·simp[E7,inB,Ks,F5] at ho;simp only[usd,Int.reduceEq,or_false,or_true,or_self,if_true,if_false,↓reduceIte,Cl] at ua ub uc ud ue uf ut;refine⟨?_,?_,?_,?_,?_,?_,?_⟩<;>omega
 ·simp[E7,inB,Ks,F5] at ho;simp only[usd,Int.reduceEq,or_false,or_true,or_self,if_true,if_false,↓reduceIte,Cl] at ua ub uc ud ue uf ut;refine⟨?_,?_,?_,?_,?_,?_,?_⟩<;>omega
 ·simp[E7,inB,Ks,F5] at ho;simp only[usd,Int.reduceEq,or_false,or_true,or_self,if_true,if_false,↓reduceIte,Cl] at ua ub uc ud ue uf ut;refine⟨?_,?_,?_,?_,?_,?_,?_⟩<;>omega
 ·simp[E7,inB,Ks,F5] at ho;simp only[usd,Int.reduceEq,or_false,or_true,or_self,if_true,if_false,↓reduceIte,Cl] at ua ub uc ud ue uf ut;refine⟨?_,?_,?_,?_,?_,?_,?_⟩<;>omega
 ·simp[E7,inB,Ks,F5] at ho;simp only[usd,Int.reduceEq,or_false,or_true,or_self,if_true,if_false,↓reduceIte,Cl] at ua ub uc ud ue uf ut;refine⟨?_,?_,?_,?_,?_,?_,?_⟩<;>omega
 ·simp[E7,inB,Ks,F5] at ho;simp only[usd,Int.reduceEq,or_false,or_true,or_self,if_true,if_false,↓reduceIte,Cl] at ua ub uc ud ue uf ut;refine⟨?_,?_,?_,?_,?_,?_,?_⟩<;>omega
 ·simp[E7,inB,Ks,F5] at ho;simp only[usd,Int.reduceEq,or_false,or_true,or_self,if_true,if_false,↓reduceIte,Cl] at ua ub uc ud ue uf ut;refine⟨?_,?_,?_,?_,?_,?_,?_⟩<;>omega
 ·simp[E7,inB,Ks,F5] at ho;simp only[usd,Int.reduceEq,or_false,or_true,or_self,if_true,if_false,↓reduceIte,Cl] at ua ub uc ud ue uf ut;refine⟨?_,?_,?_,?_,?_,?_,?_⟩<;>omega
 ·simp[E7,inB,Ks,F5] at ho;simp only[usd,Int.reduceEq,or_false,or_true,or_self,if_true,if_false,↓reduceIte,Cl] at ua ub uc ud ue uf ut;refine⟨?_,?_,?_,?_,?_,?_,?_⟩<;>omega
 ·simp[E7,inB,Ks,F5] at ho;simp only[usd,Int.reduceEq,or_false,or_true,or_self,if_true,if_false,↓reduceIte,Cl] at ua ub uc ud ue uf ut;refine⟨?_,?_,?_,?_,?_,?_,?_⟩<;>omega
 ·simp[E7,inB,Ks,F5] at ho;simp only[usd,Int.reduceEq,or_false,or_true,or_self,if_true,if_false,↓reduceIte,Cl] at ua ub uc ud ue uf ut;have:=knw_cases ho.1.1.1.1.1.1.1.1;refine⟨?_,?_,?_,?_,?_,?_,?_⟩<;>omega
 ·simp[E7,inB,Ks,F5] at ho;simp only[usd,Int.reduceEq,or_false,or_true,or_self,if_true,if_false,↓reduceIte,Cl] at ua ub uc ud ue uf ut;refine⟨?_,?_,?_,?_,?_,?_,?_⟩<;>omega
 ·simp[E7,inB,Ks,F5] at ho;simp only[usd,Int.reduceEq,or_false,or_true,or_self,if_true,if_false,↓reduceIte,Cl] at ua ub uc ud ue uf ut;refine⟨?_,?_,?_,?_,?_,?_,?_⟩<;>omega
def Ml (d:Dat) (l:List UInt8):List UInt8:=l.flatMap (G4 d)
def s4 (d:Dat) (hd:NumsOk d):∀l:List UInt8,(Ml d l).length≤21000*l.length
 |[]=>by simp[Ml]
 |c::l=>by have h1:=E8 d hd c;have h2:=s4 d hd l;simp only[Ml,Hk,B0,Cw] at h2 ⊢;omega
def Ij7 (t:Int) (d:Dat) (hw:d.wf) (hd:NumsOk d) (k:Kd) (hf:∀c∈k.fls,c∈flc) (hl:k.fls.length≤20) (p4:PV) (N:Nat) (hN:21<N):
  Ct9.ev S N [.i .i64 t,d.pv,k.pv,.b true,p4]=some (.yld 0 [.s (Ml d k.fls)]):=by
 refine F2 k.fls (fun i=>[.s (Ml d (k.fls.take i)),.i .i64 (i:Int)]) (fun i r=> .yld 0 [.s (Ml d k.fls)]) rfl (by omega) (fun i c r hdd hi hc=> ?_) ?_
 ·left;refine⟨?_,rfl⟩;have h1:=s4 d hd (k.fls.take i);rw[Cq] at h1;have h2:=Fd4 t d hw hd k (Ml d (k.fls.take i)) i c (hf c (Cc hc)) hc hl (by omega) p4 N;have e:Ml d (k.fls.take (i+1))=Ml d (k.fls.take i)++G4 d c:=by rw[Dm,hc];simp[Ml]
  rw[e];exact h2
 ·have e:k.fls.take k.fls.length=k.fls:=Ex;have hlt:¬(k.fls.length:Int)<(k.fls.length:Int):=by omega
  refine⟨?_,rfl⟩;simp(disch:=omega)only[Gv,Ey,e,hlt,Ab,simprocAttr]
def As9 (t:Int) (d:Dat) (h:d.wf):S Z5 2 [.i .i64 t,d.pv]=some (if F9 t d=true then [.s (Mj t d),.i .i64 0] else if knw t=true then [.s [],.i .i64 5] else [.s [],.i .i64 4]):=by
 obtain⟨N,hN⟩:∃N:Nat,N=30:=⟨_,rfl⟩;refine Gp4 (N:=N) rfl ?_;have hfind:=Am5 t;have hv:=Zm t d h;have hfk:=An6 t;rcases Bm (F9 t d) with h1|h1
 ·rw[h1] at hv;rw[if_pos h1];have hk:=W6 h1;have hd:=Fm8 h1;have ho:=T2 h1;have go:∀k:Kd,kds.find? (fun k=>decide (k.num=t))=some k→(∀c∈k.fls,c∈flc)→k.fls.length≤20→Ml d k.fls=Mj t d→mw.ev S N [.i .i64 t,d.pv]=some (.ret [.s (Mj t d),.i .i64 0]):=by intro k e1 e2 e3 e4;rw[e1] at hfind;simp only at hfind;have key:=Ij7 t d h hd k e2 e3 (.b true) N (by omega);rw[e4] at key;simp(disch:=omega)only[Gv,hfind,hv,key,T5,Xz,Ey,Ab,simprocAttr]
  rcases knw_cases hk with rfl|rfl|rfl|rfl|rfl|rfl|rfl|rfl|rfl|rfl|rfl|rfl|rfl|rfl
  ·refine go _ rfl (by decide) (by decide) ?_;have ho':(F5 d && !d.v6)=true:=ho;have ha:F5 d=true:=by rw[Br] at ho';exact ho'.1
   show (if F5 d=true then Ub d else [])++[]=Ub d;rw[if_pos ha,E6]
  ·refine go _ rfl (by decide) (by decide) ?_;show Kf d.host++[]=Kf d.host;exact E6 _
  ·refine go _ rfl (by decide) (by decide) ?_;show Kf d.host++[]=Kf d.host;exact E6 _
  ·refine go _ rfl (by decide) (by decide) ?_;simp[Ml,G4,Mj,R9,be]
  ·refine go _ rfl (by decide) (by decide) ?_;show Kf d.host++[]=Kf d.host;exact E6 _
  ·refine go _ rfl (by decide) (by decide) ?_;simp[Ml,G4,Mj,R9,be]
  ·refine go _ rfl (by decide) (by decide) ?_;simp[Ml,G4,Mj,R9,be]
  ·refine go _ rfl (by decide) (by decide) ?_;have ho':d.v6=true:=ho;have ha:F5 d=true:=by simp[F5,ho']
   show (if F5 d=true then Ub d else [])++[]=Ub d;rw[if_pos ha,E6]
  ·refine go _ rfl (by decide) (by decide) ?_;simp[Ml,G4,Mj,R9,be]
  ·refine go _ rfl (by decide) (by decide) ?_;show Kf d.host++[]=Kf d.host;exact E6 _
  ·refine go _ rfl (by decide) (by decide) ?_;simp[Ml,G4,Mj,R9,be]
  ·refine go _ rfl (by decide) (by decide) ?_;simp[Ml,G4,Mj,R9,be]
  ·refine go _ rfl (by decide) (by decide) ?_;simp[Ml,G4,Mj,R9,be]
  ·refine go _ rfl (by decide) (by decide) ?_;simp[Ml,G4,Mj,R9,be]
 ·rw[h1] at hv;rw[if_neg (by simp[h1])];rcases Bm (knw t) with h2|h2
  ·rw[if_pos h2];rw[h2] at hfk;cases hk:kds.find? (fun k=>decide (k.num=t)) with
   |none=>rw[hk] at hfk;cases hfk
   |some k=>
    rw[hk] at hfind;simp only at hfind;simp(disch:=omega)only[Gv,hfind,hv,T5,Xz,Ey,Ab,simprocAttr]
  ·rw[if_neg (by simp[h2])];rw[h2] at hfk;cases hk:kds.find? (fun k=>decide (k.num=t)) with
   |some k=>rw[hk] at hfk;cases hfk
   |none=>
    rw[hk] at hfind;simp only at hfind;simp(disch:=omega)only[Gv,hfind,T5,Xz,Ey,Ab,simprocAttr]
def Aw7 (t:Int) (a b:Dat) (ha:a.wf) (hb:b.wf):S qb 3 [.i .i64 t,a.pv,b.pv]=some [.i .i64 (Er5 t a b)]:=by
 refine Gt1 (N:=1) rfl ?_;have w1:=As9 t a ha;have w2:=As9 t b hb;have wc:=Ms (Mj t a) (Mj t b);unfold Er5;rcases Bm (F9 t a) with h1|h1<;>rcases Bm (F9 t b) with h2|h2
 ·rw[h1,if_pos rfl] at w1;rw[h2,if_pos rfl] at w2;simp(disch:=omega)only[Fj3,w1,w2,wc,h1,h2,Ab,simprocAttr];simp
 all_goals rcases Bm (knw t) with h3|h3
 all_goals simp only[h1,h2,h3,if_true,B5,if_false,↓reduceIte] at w1 w2
 all_goals simp(disch:=omega)only[Fj3,w1,w2,h1,h2,Ab,simprocAttr]
 all_goals simp
end Go.X.G
/- Stable sorting, in plain words: what is sorted and keeps the order of what is alike is one list alone. -/
namespace Go.X.G
open Go Go.X
structure TP {α:Type} (le:α→α→Bool):Prop where
 tr:∀a b c,le a b=true→le b c=true→le a c=true
 tot:∀a b,le a b=true∨le b a=true
def TP.refl {α:Type} {le:α→α→Bool} (h:TP le) (a:α):le a a=true:=by rcases h.tot a a with q|q<;>exact q
def eqv {α:Type} (le:α→α→Bool) (a b:α):Bool:=le a b && le b a
structure Stab {α:Type} (le:α→α→Bool) (r l:List α):Prop where
 sorted:r.Pairwise fun a b=>le a b=true
 cls:∀x,r.filter (eqv le x)=l.filter (eqv le x)
def Stab.mem {α:Type} {le:α→α→Bool} (ht:TP le) {r l:List α} (h:Stab le r l) (x:α):x∈r↔x∈l:=by
 have e:eqv le x x=true:=by unfold eqv;rw[ht.refl];rfl
 have h1:x∈r↔x∈r.filter (eqv le x):=by rw[C0];simp[e]
 have h2:x∈l↔x∈l.filter (eqv le x):=by rw[C0];simp[e]
 rw[h1,h.cls,←h2]
def Ag2 {α:Type} {le:α→α→Bool} (ht:TP le):∀(r s:List α),(r.Pairwise fun a b=>le a b=true)→(s.Pairwise fun a b=>le a b=true)→(∀x,r.filter (eqv le x)=s.filter (eqv le x))→r=s
 |[],s,_,_,h=>by
  cases s with
  |nil=>rfl
  |cons y t=>
   have:=h y;rw[List.filter_nil,Fv (by unfold eqv;rw[ht.refl];rfl)] at this;cases this
 |x::r,[],_,_,h=>by have:=h x;rw[List.filter_nil,Fv (by unfold eqv;rw[ht.refl];rfl)] at this;cases this
 |x::r,y::s,hr,hs,h=>by
  obtain⟨r1,r2⟩:=Cf.1 hr;obtain⟨s1,s2⟩:=Cf.1 hs;have hmem:∀z,z∈x::r↔z∈y::s:=fun z=>by
   have e:eqv le z z=true:=by unfold eqv;rw[ht.refl];rfl
   have a1:z∈x::r↔z∈(x::r).filter (eqv le z):=by rw[C0];simp[e]
   have a2:z∈y::s↔z∈(y::s).filter (eqv le z):=by rw[C0];simp[e]
   rw[a1,h,←a2]
  have hxy:le x y=true:=by
   rcases Ck.1 ((hmem y).2 (.head _)) with q|q
   ·rw[q];exact ht.refl x
   ·exact r1 y q
  have hyx:le y x=true:=by
   rcases Ck.1 ((hmem x).1 (.head _)) with q|q
   ·rw[q];exact ht.refl y
   ·exact s1 x q
  have e:x=y:=by have:=h x;rw[Fv (by unfold eqv;rw[ht.refl];rfl),Fv (by unfold eqv;rw[hxy,hyx];rfl)] at this;injection this
  subst e;have:r=s:=Ag2 ht r s r2 s2 fun z=>by
   have:=h z;simp only[M7] at this;split at this
   ·injection this
   ·exact this
  rw[this]
def Stab.one {α:Type} {le:α→α→Bool} (ht:TP le) {r s l:List α} (h1:Stab le r l) (h2:Stab le s l):r=s:=
 Ag2 ht r s h1.sorted h2.sorted fun x=>by rw[h1.cls,h2.cls]
def mrg {α:Type} (le:α→α→Bool):List α→List α→List α
 |[],b=>b
 |x::a,[]=>x::a
 |x::a,y::b=>if le x y=true then x::mrg le a (y::b) else y::mrg le (x::a) b
termination_by a b=>a.length+b.length
def Nh {α:Type} (le:α→α→Bool) (a:List α):mrg le a []=a:=by cases a<;>simp[mrg]
def mrg_mem {α:Type} (le:α→α→Bool) (z:α):∀(a b:List α),z∈mrg le a b↔z∈a∨z∈b
 |[],b=>by simp[mrg]
 |x::a,[]=>by simp[mrg]
 |x::a,y::b=>by
  unfold mrg;split
  ·rw[Ck,mrg_mem le z a (y::b)];simp only[Ck];grind
  ·rw[Ck,mrg_mem le z (x::a) b];simp only[Ck];grind
termination_by a b=>a.length+b.length
def S8 {α:Type} {le:α→α→Bool} (ht:TP le):∀(a b:List α),(a.Pairwise fun x y=>le x y=true)→(b.Pairwise fun x y=>le x y=true)→(mrg le a b).Pairwise fun x y=>le x y=true
 |[],b,_,hb=>by simpa [mrg] using hb
 |x::a,[],ha,_=>by simpa [mrg] using ha
 |x::a,y::b,ha,hb=>by
  obtain⟨a1,a2⟩:=Cf.1 ha;obtain⟨b1,b2⟩:=Cf.1 hb;unfold mrg;split
  ·rename_i h;refine Cf.2 ⟨fun z hz=> ?_,S8 ht a (y::b) a2 hb⟩;rcases (mrg_mem le z a (y::b)).1 hz with hz|hz
   ·exact a1 z hz
   ·rcases Ck.1 hz with rfl|hz
    ·exact h
    ·exact ht.tr _ _ _ h (b1 z hz)
  ·rename_i h;have h':le y x=true:=(ht.tot x y).resolve_left h;refine Cf.2 ⟨fun z hz=> ?_,S8 ht (x::a) b ha b2⟩;rcases (mrg_mem le z (x::a) b).1 hz with hz|hz
   ·rcases Ck.1 hz with rfl|hz
    ·exact h'
    ·exact ht.tr _ _ _ h' (a1 z hz)
   ·exact b1 z hz
termination_by a b=>a.length+b.length
def y8 {α:Type} {le:α→α→Bool} (ht:TP le) (z:α):∀(a b:List α),(a.Pairwise fun x y=>le x y=true)→(mrg le a b).filter (eqv le z)=a.filter (eqv le z)++b.filter (eqv le z)
 |[],b,_=>by simp[mrg]
 |x::a,[],_=>by simp[mrg]
 |x::a,y::b,ha=>by
  obtain⟨a1,a2⟩:=Cf.1 ha;unfold mrg;split
  ·simp only[M7];rw[y8 ht z a (y::b) a2];simp only[M7];split<;>simp
  ·rename_i h;rw[M7,y8 ht z (x::a) b ha];by_cases hy:eqv le z y=true
   ·-- then nothing of the first list is like z
    have hno:(x::a).filter (eqv le z)=[]:=by
     rw[Is];intro w hw hzw;unfold eqv at hy hzw;simp only[Br] at hy hzw;have hxw:le x w=true:=by
      rcases Ck.1 hw with rfl|hw
      ·exact ht.refl _
      ·exact a1 w hw
     exact h (ht.tr _ _ _ hxw (ht.tr _ _ _ hzw.2 hy.1))
    rw[hno,Fv hy,if_pos hy];rfl
   ·rw[if_neg hy,List.filter_cons_of_neg hy]
termination_by a b=>a.length+b.length
def Stab.mrg {α:Type} {le:α→α→Bool} (ht:TP le) {r s l m:List α} (h1:Stab le r l) (h2:Stab le s m):Stab le (mrg le r s) (l++m):=
 ⟨S8 ht r s h1.sorted h2.sorted,fun x=>by rw[y8 ht x r s h1.sorted,h1.cls,h2.cls,Ff]⟩
def Ng {α:Type} (le:α→α→Bool) (a2 b2:List α):∀(a1 b1:List α),(∀x∈a1,∀y∈b2,le x y=true)→(∀x∈a2,∀y∈b1,le x y=false)→mrg le (a1++a2) (b1++b2)=mrg le a1 b1++mrg le a2 b2
 |[],[],_,_=>by simp[mrg]
 |x::a1,[],h1,h2=>by
  rw[Nh,Dp];have ih:=Ng le a2 b2 a1 [] (fun w hw=>h1 w (.tail _ hw)) h2;rw[Nh,Dp] at ih;cases b2 with
  |nil=>rw[Nh,Nh]
  |cons y b=>
   rw[Dh];have e:mrg le (x::(a1++a2)) (y::b)=x::mrg le (a1++a2) (y::b):=by
    conv=>lhs;unfold mrg
    rw[if_pos (h1 x (.head _) y (.head _))]
   rw[e,ih,Dh]
 |[],y::b1,h1,h2=>by
  have ih:=Ng le a2 b2 [] b1 h1 (fun x hx w hw=>h2 x hx w (.tail _ hw));cases a2 with
  |nil=>simp[mrg]
  |cons x a=>
   rw[Dp] at ih ⊢;rw[Dh];have e:mrg le (x::a) (y::(b1++b2))=y::mrg le (x::a) (b1++b2):=by
    conv=>lhs;unfold mrg
    rw[if_neg (by rw[h2 x (.head _) y (.head _)];simp)]
   rw[e,ih];simp[mrg]
 |x::a1,y::b1,h1,h2=>by
  rw[Dh,Dh];by_cases h:le x y=true
  ·have ih:=Ng le a2 b2 a1 (y::b1) (fun w hw=>h1 w (.tail _ hw)) h2;have e1:mrg le (x::(a1++a2)) (y::(b1++b2))=x::mrg le (a1++a2) (y::(b1++b2)):=by
    conv=>lhs;unfold mrg
    rw[if_pos h]
   have e2:mrg le (x::a1) (y::b1)=x::mrg le a1 (y::b1):=by
    conv=>lhs;unfold mrg
    rw[if_pos h]
   rw[e1,e2,Dh,←ih];rfl
  ·have ih:=Ng le a2 b2 (x::a1) b1 h1 (fun w hw v hv=>h2 w hw v (.tail _ hv));have e1:mrg le (x::(a1++a2)) (y::(b1++b2))=y::mrg le (x::(a1++a2)) (b1++b2):=by
    conv=>lhs;unfold mrg
    rw[if_neg h]
   have e2:mrg le (x::a1) (y::b1)=y::mrg le (x::a1) b1:=by
    conv=>lhs;unfold mrg
    rw[if_neg h]
   rw[e1,e2,Dh,←ih];rfl
termination_by a1 b1=>a1.length+b1.length
end Go.X.G
/- The order of any records; what is sorted stably and made compact is what the reference Yz. -/
namespace Go.X.G
open Go Go.X
def Gq1 (t:Int) (d:Dat):Int×List UInt8:=if F9 t d=true then(0,Mj t d) else(1,[])
abbrev ltD:Int×List UInt8→Int×List UInt8→Prop:=fun p q=>p.1<q.1∨(p.1=q.1∧ltB p.2 q.2)
def Jx5:TO ltD:=Gh1.prod Dm3
def Er4 (t:Int) (a b:Dat):Er5 t a b<0↔ltD (Gq1 t a) (Gq1 t b):=by unfold Er5 Gq1 ltD;rcases Bm (F9 t a) with h1|h1<;>rcases Bm (F9 t b) with h2|h2<;>simp[h1,h2,Vh,Dm3.irr]
def Dy2 (t:Int) (a b:Dat):Er5 t a b=0↔Gq1 t a=Gq1 t b:=by unfold Er5 Gq1;rcases Bm (F9 t a) with h1|h1<;>rcases Bm (F9 t b) with h2|h2<;>simp[h1,h2,Kp]
abbrev Hn2:=List UInt8×Int×Int×List UInt8
abbrev ltF:Hn2→Hn2→Prop:=fun p q=>ltN p.1 q.1∨(p.1=q.1∧(p.2.1<q.2.1∨(p.2.1=q.2.1∧ltD p.2.2 q.2.2)))
def to_F:TO ltF:=to_N.prod (Gh1.prod Jx5)
def Hb (r:Rec):Hn2:=(r.name,r.typ,Gq1 r.typ r.data)
def jq (a b:Rec):Yv a b<0↔ltF (Hb a) (Hb b):=by
 unfold Yv ltF Hb;simp only;by_cases h1:Ld a.name b.name=0
 ·rw[if_neg (by simp[h1])];have e1:=Jn.1 h1;have n1:¬ltN a.name b.name:=by rw[e1];exact to_N.irr _
  by_cases h2:Ap6 a.typ b.typ=0
  ·rw[if_neg (by simp[h2])];have e2:=(Jp _ _).1 h2;rw[e2,Er4];constructor
   ·intro h;exact .inr ⟨e1,.inr ⟨rfl,h⟩⟩
   ·rintro (h|⟨_,h|⟨_,h⟩⟩)
    ·exact absurd h n1
    ·omega
    ·exact h
  ·rw[if_pos h2,jk];have e2:a.typ≠b.typ:=fun e=>h2 ((Jp _ _).2 e);constructor
   ·intro h;exact .inr ⟨e1,.inl h⟩
   ·rintro (h|⟨_,h|⟨h,_⟩⟩)
    ·exact absurd h n1
    ·exact h
    ·exact absurd h e2
 ·rw[if_pos h1,G5];have e1:a.name≠b.name:=fun e=>h1 (Jn.2 e);constructor
  ·intro h;exact .inl h
  ·rintro (h|⟨h,_⟩)
   ·exact h
   ·exact absurd h e1
def O2 (a b:Rec):Yv a b=0↔Hb a=Hb b:=by
 unfold Yv Hb;by_cases h1:Ld a.name b.name=0
 ·rw[if_neg (by simp[h1])];have e1:=Jn.1 h1;by_cases h2:Ap6 a.typ b.typ=0
  ·rw[if_neg (by simp[h2])];have e2:=(Jp _ _).1 h2;rw[e2,Dy2];simp[e1]
  ·rw[if_pos h2];have e2:a.typ≠b.typ:=fun e=>h2 ((Jp _ _).2 e);constructor
   ·intro h;exact absurd h h2
   ·intro h;injection h with _ h;injection h with h _;exact absurd h e2
 ·rw[if_pos h1];have e1:a.name≠b.name:=fun e=>h1 (Jn.2 e);constructor
  ·intro h;exact absurd h h1
  ·intro h;injection h with h _;exact absurd h e1
def Gq8 (a b:Rec):Int:=if Yv a b≠0 then Yv a b else Ap6 a.ttl b.ttl
abbrev ltT:Hn2×Int→Hn2×Int→Prop:=fun p q=>ltF p.1 q.1∨(p.1=q.1∧p.2<q.2)
def to_T:TO ltT:=to_F.prod Gh1
def Er3 (a b:Rec):Gq8 a b<0↔ltT (Hb a,a.ttl) (Hb b,b.ttl):=by
 unfold Gq8;by_cases h:Yv a b=0
 ·have e:=(O2 a b).1 h;rw[if_neg (by simp[h]),jk];simp only[ltT,e,true_and];exact⟨.inr,fun q=>q.resolve_left (to_F.irr _)⟩
 ·rw[if_pos h,jq];have e:Hb a≠Hb b:=fun e=>h ((O2 a b).2 e);simp only[ltT,e,false_and,or_false]
def leR (a b:Rec):Bool:= !decide (Gq8 b a<0)
def Ph (a b:Rec):leR a b=true↔¬ltT (Hb b,b.ttl) (Hb a,a.ttl):=by unfold leR;simp[←Er3]
def Hn4:TP leR where
 tr:=fun a b c h1 h2=>by rw[Ph] at*;exact to_T.ntr h2 h1
 tot:=fun a b=>by
  simp only[Ph];rcases to_T.tri (Hb a,a.ttl) (Hb b,b.ttl) with h|h|h
  ·exact .inl (to_T.asym h)
  ·rw[h];exact .inl (to_T.irr _)
  ·exact .inr (to_T.asym h)
def Dv9 (a b:Rec):eqv leR a b=true↔Hb a=Hb b∧a.ttl=b.ttl:=by
 unfold eqv;rw[Br,Ph,Ph];constructor
 ·rintro⟨h1,h2⟩;rcases to_T.tri (Hb a,a.ttl) (Hb b,b.ttl) with h|h|h
  ·exact absurd h h2
  ·injection h with h3 h4;exact⟨h3,h4⟩
  ·exact absurd h h1
 ·rintro⟨h1,h2⟩;rw[h1,h2];exact⟨to_T.irr _,to_T.irr _⟩
def dm {α:Type} {P:List α→Prop} (h0:P []) (h1:∀l x,P l→P (l++[x])):∀(n:Nat) (l:List α),l.length=n→P l
 |0,l,h=>by rw[C5 h];exact h0
 |n+1,l,h=>by
  have hne:l≠[]:=fun e=>by rw[e] at h;simp at h
  rw[←List.dropLast_concat_getLast hne];exact h1 _ _ (dm h0 h1 n _ (by rw[List.length_dropLast];omega))
def Fc2 (l:List Rec) (z:Rec):Prop:=∃l1 l2,l=l1++z::l2∧(∀y∈l1,Hb y=Hb z→z.ttl<y.ttl)∧∀y∈l2,Hb y=Hb z→z.ttl≤y.ttl
def Fc2.mem {l:List Rec} {z:Rec} (h:Fc2 l z):z∈l:=by obtain⟨l1,l2,rfl,_⟩:=h;simp
def Kr (l:List Rec) (x z:Rec):Fc2 (l++[x]) z↔(z=x∧∀y∈l,Hb y=Hb x→x.ttl<y.ttl)∨(Fc2 l z∧(Hb z=Hb x→z.ttl≤x.ttl)):=by
 constructor
 ·rintro⟨l1,l2,h,h1,h2⟩;rcases List.eq_nil_or_concat l2 with rfl|⟨l3,w,rfl⟩
  ·obtain⟨q1,q2⟩:=List.append_inj' h rfl;injection q2 with q2 _;subst q1;subst q2;exact .inl ⟨rfl,h1⟩
  ·rw[List.concat_eq_append,←Dh,←Cy] at h;obtain⟨q1,q2⟩:=List.append_inj' h rfl;injection q2 with q2 _;subst q1;subst q2;refine .inr ⟨⟨l1,l3,rfl,h1,fun y hy=>h2 y (by simp[hy])⟩,fun e=>h2 x (by simp) e.symm⟩
 ·rintro (⟨rfl,h⟩|⟨⟨l1,l2,rfl,h1,h2⟩,h⟩)
  ·exact⟨l,[],rfl,h,fun y hy=>by simp at hy⟩
  ·refine⟨l1,l2++[x],by simp,h1,fun y hy e=> ?_⟩;rcases C4.1 hy with hy|hy
   ·exact h2 y hy e
   ·have:y=x:=by simpa using hy
    subst this;exact h e.symm
def Gx3 (l:List Rec):∀y∈l,∃z,Fc2 l z∧Hb z=Hb y∧z.ttl≤y.ttl:=by
 refine dm (P:=fun l=>∀y∈l,∃z,Fc2 l z∧Hb z=Hb y∧z.ttl≤y.ttl) ?_ ?_ _ l rfl
 ·intro y h;simp at h
 ·intro l x ih y hy;by_cases hx:∀w∈l,Hb w=Hb x→x.ttl<w.ttl
  ·rcases C4.1 hy with hy|hy
   ·obtain⟨z,h1,h2,h3⟩:=ih y hy;by_cases e:Hb z=Hb x∧x.ttl<z.ttl
    ·exact⟨x,(Kr l x x).2 (.inl ⟨rfl,hx⟩),by rw[←e.1,h2],by have:=e.2;omega⟩
    ·exact⟨z,(Kr l x z).2 (.inr ⟨h1,fun q=>Int.le_of_not_gt fun r=>e ⟨q,r⟩⟩),h2,h3⟩
   ·have:y=x:=by simpa using hy
    subst this;exact⟨y,(Kr l y y).2 (.inl ⟨rfl,hx⟩),rfl,Jw6 _⟩
  ·have:∃w∈l,Hb w=Hb x∧w.ttl≤x.ttl:=by apply Classical.byContradiction;intro h;exact hx fun w hw e=>Int.lt_of_not_ge fun q=>h ⟨w,hw,e,q⟩
   obtain⟨w,hw,hw1,hw2⟩:=this;obtain⟨z,h1,h2,h3⟩:=ih w hw;rcases C4.1 hy with hy|hy
   ·obtain⟨z',g1,g2,g3⟩:=ih y hy;by_cases e:Hb z'=Hb x∧x.ttl<z'.ttl
    ·exact⟨z,(Kr l x z).2 (.inr ⟨h1,fun _=>by omega⟩),by rw[h2,hw1,←e.1,g2],by have:=e.2;omega⟩
    ·exact⟨z',(Kr l x z').2 (.inr ⟨g1,fun q=>Int.le_of_not_gt fun r=>e ⟨q,r⟩⟩),g2,g3⟩
   ·have:y=x:=by simpa using hy
    subst this;exact⟨z,(Kr l y z).2 (.inr ⟨h1,fun _=>by omega⟩),by rw[h2,hw1],by omega⟩
abbrev Fk2 (l:List Rec):Prop:=l.Pairwise fun a b=>ltF (Hb a) (Hb b)
def Dq2 (x:Rec):∀(l:List Rec),Fk2 l→(Fk2 (vg x l)∧∀z,z∈vg x l↔(z=x∧∀y∈l,Hb y=Hb x→x.ttl<y.ttl)∨(z∈l∧(Hb z=Hb x→z.ttl≤x.ttl)))
 |[],_=>by simp[vg]
 |y::r,h=>by
  obtain⟨h1,h2⟩:=Cf.1 h;obtain⟨i1,i2⟩:=Dq2 x r h2;simp only[vg];by_cases c:Yv y x<0
  ·rw[if_pos c];have c':=(jq y x).1 c;have ne:Hb y≠Hb x:=fun e=>to_F.irr _ (by rw[e] at c';exact c');refine⟨Cf.2 ⟨fun w hw=> ?_,i1⟩,fun z=> ?_⟩
   ·rcases (i2 w).1 hw with⟨rfl,_⟩|⟨hw,_⟩
    ·exact c'
    ·exact h1 w hw
   ·rw[Ck,i2];simp only[Ck,forall_eq_or_imp,ne,false_implies,true_and];constructor
    ·rintro (rfl|h|⟨h,h'⟩)
     ·exact .inr ⟨.inl rfl,fun e=>absurd e ne⟩
     ·exact .inl h
     ·exact .inr ⟨.inr h,h'⟩
    ·rintro (h|⟨rfl|h,h'⟩)
     ·exact .inr (.inl h)
     ·exact .inl rfl
     ·exact .inr (.inr ⟨h,h'⟩)
  ·rw[if_neg c];by_cases e:Yv y x=0
   ·have ke:=(O2 y x).1 e;have hr:∀w∈r,Hb w≠Hb x:=fun w hw q=>to_F.irr (Hb y) (by have:=h1 w hw;rw[q,←ke] at this;exact this);rw[if_pos e];by_cases t:x.ttl<y.ttl
    ·rw[if_pos t];refine⟨Cf.2 ⟨fun w hw=>by rw[←ke];exact h1 w hw,h2⟩,fun z=> ?_⟩;simp only[Ck,forall_eq_or_imp,ke,t,true_implies,true_and];constructor
     ·rintro (rfl|h)
      ·exact .inl ⟨rfl,fun w hw q=>absurd q (hr w hw)⟩
      ·exact .inr ⟨.inr h,fun q=>absurd q (hr z h)⟩
     ·rintro (⟨h,_⟩|⟨rfl|h,h'⟩)
      ·exact .inl h
      ·have:=h' ke;omega
      ·exact .inr h
    ·rw[if_neg t];refine⟨h,fun z=> ?_⟩;simp only[Ck,forall_eq_or_imp,ke,t,false_and,and_false,false_or,forall_const,true_implies];constructor
     ·rintro (rfl|h)
      ·exact⟨.inl rfl,fun _=>by omega⟩
      ·exact⟨.inr h,fun q=>absurd q (hr z h)⟩
     ·exact fun h=>h.1
   ·rw[if_neg e];have hxy:ltF (Hb x) (Hb y):=by
     rcases to_F.tri (Hb x) (Hb y) with q|q|q
     ·exact q
     ·exact absurd ((O2 y x).2 q.symm) e
     ·exact absurd ((jq y x).2 q) c
    have hall:∀w∈y::r,ltF (Hb x) (Hb w):=fun w hw=>by
     rcases Ck.1 hw with rfl|hw
     ·exact hxy
     ·exact to_F.tr _ _ _ hxy (h1 w hw)
    have hne:∀w∈y::r,Hb w≠Hb x:=fun w hw q=>to_F.irr _ (by have:=hall w hw;rw[q] at this;exact this);refine⟨Cf.2 ⟨hall,h⟩,fun z=> ?_⟩;rw[Ck];constructor
    ·rintro (rfl|h)
     ·exact .inl ⟨rfl,fun w hw q=>absurd q (hne w hw)⟩
     ·exact .inr ⟨h,fun q=>absurd q (hne z h)⟩
    ·rintro (⟨h,_⟩|⟨h,_⟩)
     ·exact .inl h
     ·exact .inr h
def Bj7 (l:List Rec):Fk2 (sortR l)∧∀z,z∈sortR l↔Fc2 l z:=by
 refine dm (P:=fun l=>Fk2 (sortR l)∧∀z,z∈sortR l↔Fc2 l z) ?_ ?_ _ l rfl
 ·refine⟨List.Pairwise.nil,fun z=>⟨fun h=>by simp[sortR] at h,fun h=>by have:=h.mem;simp at this⟩⟩
 ·intro l x ih;have e:sortR (l++[x])=vg x (sortR l):=by simp[sortR]
  obtain⟨i1,i2⟩:=Dq2 x (sortR l) ih.1;rw[e];refine⟨i1,fun z=> ?_⟩;rw[i2,Kr,ih.2];have:(∀y∈sortR l,Hb y=Hb x→x.ttl<y.ttl)↔∀y∈l,Hb y=Hb x→x.ttl<y.ttl:=by
   constructor
   ·intro h y hy q;obtain⟨w,w1,w2,w3⟩:=Gx3 l y hy;have:=h w ((ih.2 w).2 w1) (by rw[w2,q]);omega
   ·intro h y hy q;exact h y ((ih.2 y).1 hy).mem q
  rw[this]
def Cq5:∀(a b:List Rec),Fk2 a→Fk2 b→(∀x,x∈a↔x∈b)→a=b
 |[],[],_,_,_=>rfl
 |[],y::b,_,_,h=>absurd ((h y).2 (.head _)) (by simp)
 |x::a,[],_,_,h=>absurd ((h x).1 (.head _)) (by simp)
 |x::a,y::b,ha,hb,h=>by
  have ha':=Cf.1 ha;have hb':=Cf.1 hb;have hxy:x=y:=by
   rcases Ck.1 ((h x).1 (.head _)) with h1|h1
   ·exact h1
   ·rcases Ck.1 ((h y).2 (.head _)) with h2|h2
    ·exact h2.symm
    ·exact absurd (hb'.1 x h1) (to_F.asym (ha'.1 y h2))
  subst hxy;rw[Cq5 a b ha'.2 hb'.2 fun z=> ?_];constructor
  ·intro hz;rcases Ck.1 ((h z).1 (.tail _ hz)) with rfl|h1
   ·exact absurd (ha'.1 z hz) (to_F.irr _)
   ·exact h1
  ·intro hz;rcases Ck.1 ((h z).2 (.tail _ hz)) with rfl|h1
   ·exact absurd (hb'.1 z hz) (to_F.irr _)
   ·exact h1
abbrev eqF:Rec→Rec→Bool:=fun a b=>decide (Yv a b=0)
def Fy6:∀(r:List Rec) (p:Rec),(p::r).Pairwise (fun a b=>leR a b=true)→(Fk2 (p::U0 eqF p r)∧∀z,z∈U0 eqF p r↔∃s1 s2,r=s1++z::s2∧∀y∈p::s1,Hb y≠Hb z)
 |[],p,_=>by simp[U0]
 |c::r,p,h=>by
  obtain⟨h1,h2⟩:=Cf.1 h;obtain⟨i1,i2⟩:=Fy6 r c h2;have hpc:=(Ph p c).1 (h1 c (.head _));simp only[U0];by_cases e:Yv c p=0
  ·rw[if_pos (by simp[e])];have ke:=(O2 c p).1 e;refine⟨?_,fun z=> ?_⟩
   ·obtain⟨j1,j2⟩:=Cf.1 i1;exact Cf.2 ⟨fun w hw=>by rw[←ke];exact j1 w hw,j2⟩
   ·rw[i2];constructor
    ·rintro⟨s1,s2,rfl,q⟩;refine⟨c::s1,s2,rfl,fun y hy=> ?_⟩;rcases Ck.1 hy with rfl|hy
     ·rw[←ke];exact q c (.head _)
     ·exact q y hy
    ·rintro⟨s1,s2,h,q⟩;cases s1 with
     |nil=>
      injection h with h _;subst h;exact absurd ke.symm (q p (.head _))
     |cons w s1=>
      injection h with h h';subst h;exact⟨s1,s2,h',fun y hy=>q y (.tail _ hy)⟩
  ·rw[if_neg (by simp[e])];have ne:Hb c≠Hb p:=fun q=>e ((O2 c p).2 q);have hlt:ltF (Hb p) (Hb c):=by
    rcases to_F.tri (Hb p) (Hb c) with q|q|q
    ·exact q
    ·exact absurd q.symm ne
    ·exact absurd (.inl q) hpc
   obtain⟨j1,j2⟩:=Cf.1 i1;refine⟨Cf.2 ⟨fun w hw=> ?_,i1⟩,fun z=> ?_⟩
   ·rcases Ck.1 hw with rfl|hw
    ·exact hlt
    ·exact to_F.tr _ _ _ hlt (j1 w hw)
   ·rw[Ck];constructor
    ·rintro (rfl|hz)
     ·exact⟨[],r,rfl,fun y hy=>by have:y=p:=by simpa using hy
                                  subst this;exact ne.symm⟩
     ·obtain⟨s1,s2,rfl,q⟩:=(i2 z).1 hz;refine⟨c::s1,s2,rfl,fun y hy=> ?_⟩;rcases Ck.1 hy with rfl|hy
      ·intro q2;exact to_F.irr _ (by have:=to_F.tr _ _ _ hlt (j1 z hz);rw[q2] at this;exact this)
      ·exact q y hy
    ·rintro⟨s1,s2,h,q⟩;cases s1 with
     |nil=>injection h with h _;exact .inl h.symm
     |cons w s1=>
      injection h with h h';subst h;exact .inr ((i2 z).2 ⟨s1,s2,h',fun y hy=>q y (.tail _ hy)⟩)
def Jv9 (s:List Rec) (h:s.Pairwise fun a b=>leR a b=true):Fk2 (cpt eqF s)∧∀z,z∈cpt eqF s↔∃s1 s2,s=s1++z::s2∧∀y∈s1,Hb y≠Hb z:=by
 cases s with
 |nil=>simp[cpt]
 |cons p r=>
  obtain⟨i1,i2⟩:=Fy6 r p h;refine⟨i1,fun z=> ?_⟩;show z∈p::U0 eqF p r↔_;rw[Ck,i2];constructor
  ·rintro (rfl|⟨s1,s2,rfl,q⟩)
   ·exact⟨[],r,rfl,by simp⟩
   ·exact⟨p::s1,s2,rfl,q⟩
  ·rintro⟨s1,s2,h,q⟩;cases s1 with
   |nil=>injection h with h _;exact .inl h.symm
   |cons w s1=>
    injection h with h h';subst h;exact .inr ⟨s1,s2,h',q⟩
def Ag4 {s l:List Rec} (h:Stab leR s l):cpt eqF s=sortR l:=by
 obtain⟨i1,i2⟩:=Jv9 s h.sorted;obtain⟨j1,j2⟩:=Bj7 l;refine Cq5 _ _ i1 j1 fun z=> ?_;rw[i2,j2];have hz:eqv leR z z=true:=(Dv9 z z).2 ⟨rfl,rfl⟩;have hm:=h.mem Hn4;constructor
 ·rintro⟨s1,s2,rfl,q⟩;have hs1:s1.filter (eqv leR z)=[]:=by rw[Is];intro y hy hyz;exact q y hy ((Dv9 z y).1 hyz).1.symm
  have hc:=h.cls z;rw[Ff,hs1,Dp,Fv hz] at hc;obtain⟨l1,l2,rfl,g1,_,_⟩:=List.filter_eq_cons_iff.1 hc.symm;have key:∀y,y∈l1++z::l2→Hb y=Hb z→z.ttl≤y.ttl:=fun y hy e=>by
   rcases C4.1 ((hm y).2 hy) with w|w
   ·exact absurd e (q y w)
   ·rcases Ck.1 w with rfl|w
    ·exact Jw6 _
    ·have:=(Ph z y).1 ((Cf.1 (Gn.1 h.sorted).2.1).1 y w);exact Int.le_of_not_gt fun t=>this (.inr ⟨e,t⟩)
  refine⟨l1,l2,rfl,fun y hy e=> ?_,fun y hy e=>key y (by simp[hy]) e⟩;have k1:=key y (by simp[hy]) e;have k2:=g1 y hy;rw[Dv9] at k2;have:z.ttl≠y.ttl:=fun t=>k2 ⟨e.symm,t⟩;omega
 ·rintro⟨l1,l2,rfl,q1,q2⟩;have hl1:l1.filter (eqv leR z)=[]:=by rw[Is];intro y hy hyz;obtain⟨a,b⟩:=(Dv9 z y).1 hyz;have:=q1 y hy a.symm;omega
  have hc:=h.cls z;rw[Ff,hl1,Dp,Fv hz] at hc;obtain⟨s1,s2,rfl,g1,_,_⟩:=List.filter_eq_cons_iff.1 hc;refine⟨s1,s2,rfl,fun y hy e=> ?_⟩;have k1:=(Ph y z).1 ((Gn.1 h.sorted).2.2 y hy z (by simp));have k2:¬z.ttl<y.ttl:=fun t=>k1 (.inr ⟨e.symm,t⟩);have k3:z.ttl≤y.ttl:=by
   rcases C4.1 ((hm y).1 (by simp[hy])) with w|w
   ·have:=q1 y w e;omega
   ·rcases Ck.1 w with rfl|w
    ·exact Jw6 _
    ·exact q2 y w e
  exact g1 y hy ((Dv9 z y).2 ⟨e.symm,by omega⟩)
end Go.X.G
/- Merging in place, in plain words: where two sorted lists may be cut. -/
namespace Go.X.G
open Go Go.X
def Ob {α:Type} {le:α→α→Bool} (ht:TP le) {l:List α} (h:l.Pairwise fun x y=>le x y=true) {i j:Nat} {x y:α} (hij:i≤j) (hi:l[i]? =some x) (hj:l[j]? =some y):le x y=true:=by
 rcases Nat.lt_or_eq_of_le hij with h1|h1
 ·obtain⟨a1,a2⟩:=Bp.1 hi;obtain⟨b1,b2⟩:=Bp.1 hj;have:=Pw.1 h i j a1 b1 h1;rw[a2,b2] at this;exact this
 ·subst h1;rw[hi] at hj;injection hj with hj;subst hj;exact ht.refl x
def W1 {α:Type} {le:α→α→Bool} (ht:TP le) {A B:List α} (hA:A.Pairwise fun x y=>le x y=true) (hB:B.Pairwise fun x y=>le x y=true) (i j:Nat)
  (h1:∀x y,i≠0→A[i - 1]? =some x→B[j]? =some y→le x y=true) (h2:∀x y,j≠0→A[i]? =some x→B[j - 1]? =some y→le x y=false) (hi:i≤A.length) (hj:j≤B.length):
  mrg le A B=mrg le (A.take i) (B.take j)++mrg le (A.drop i) (B.drop j):=by
 conv=>lhs;rw[←C9 i A,←C9 j B]
 refine Ng le _ _ _ _ (fun x hx y hy=> ?_) (fun x hx y hy=> ?_)
 ·obtain⟨p,hp⟩:=Eh hx;obtain⟨q,hq⟩:=Eh hy;have hpl:p<i:=by have:=(Bp.1 hp).1;rw[Cq] at this;omega
  rw[List.getElem?_take_of_lt hpl] at hp;rw[Ch] at hq;have hql:=(Bp.1 hq).1;have a1:A[i - 1]? =some A[i - 1]:=B3 (by omega);have b1:B[j]? =some B[j]:=B3 (by omega);have s1:=Ob ht hA (i:=p) (j:=i - 1) (by omega) hp a1;have s2:=Ob ht hB (i:=j) (j:=j+q) (by omega) b1 hq;exact ht.tr _ _ _ s1 (ht.tr _ _ _ (h1 _ _ (by omega) a1 b1) s2)
 ·obtain⟨p,hp⟩:=Eh hx;obtain⟨q,hq⟩:=Eh hy;rw[Ch] at hp;have hpl:=(Bp.1 hp).1;have hql:q<j:=by have:=(Bp.1 hq).1;rw[Cq] at this;omega
  rw[List.getElem?_take_of_lt hql] at hq;have a1:A[i]? =some A[i]:=B3 (by omega);have b1:B[j - 1]? =some B[j - 1]:=B3 (by omega);have s1:=Ob ht hA (i:=i) (j:=i+p) (by omega) a1 hp;have s2:=Ob ht hB (i:=q) (j:=j - 1) (by omega) hq b1;rcases Bm (le x y) with q1|q1
  ·have:=h2 _ _ (by omega) a1 b1;rw[ht.tr _ _ _ s1 (ht.tr _ _ _ q1 s2)] at this;cases this
  ·exact q1
end Go.X.G
/- Rows of records that are turned in place: swaps and rotations. -/
namespace Go.X.G
open Go Go.X
def sl {α:Type} (s:List α) (i j:Nat):List α:=(s.take j).drop i
def swapR {α:Type} (s:List α) (a b:Nat):Nat→List α
 |0=>s
 |k+1=>match s[a+k]?,s[b+k]? with
  |some x,some y=>(swapR s a b k|>.set (a+k) y).set (b+k) x
  |_,_=>swapR s a b k
def Qf {α:Type} (s:List α) (a b:Nat):∀k,(swapR s a b k).length=s.length
 |0=>rfl
 |k+1=>by
  unfold swapR;split
  ·simp[Qf s a b k]
  ·exact Qf s a b k
def Qg {α:Type} (s:List α) (a b:Nat):∀(k i:Nat),a+k≤b→b+k≤s.length→
  (swapR s a b k)[i]? =if a≤i∧i<a+k then s[i - a+b]? else if b≤i∧i<b+k then s[i - b+a]? else s[i]?
 |0,i,_,_=>by unfold swapR;rw[if_neg (by omega),if_neg (by omega)]
 |k+1,i,h1,h2=>by
  have ih:=Qg s a b k i (by omega) (by omega);have hl:=Qf s a b k;unfold swapR;have ha:s[a+k]? =some s[a+k]:=B3 (by omega);have hb:s[b+k]? =some s[b+k]:=B3 (by omega);rw[ha,hb];simp only;rw[En,En];by_cases e1:b+k=i
  ·subst e1;rw[if_pos rfl,if_pos (by rw[I8,hl];omega),if_neg (by omega),if_pos (by omega),show b+k - b+a=a+k by omega,ha]
  ·rw[if_neg e1];by_cases e2:a+k=i
   ·subst e2;rw[if_pos rfl,if_pos (by rw[hl];omega),if_pos (by omega),show a+k - a+b=b+k by omega,hb]
   ·rw[if_neg e2,ih];by_cases c1:a≤i∧i<a+k
    ·rw[if_pos c1,if_pos (by omega)]
    ·by_cases c2:b≤i∧i<b+k
     ·rw[if_neg c1,if_pos c2,if_neg (show¬(a≤i∧i<a+(k+1)) by omega),if_pos (show b≤i∧i<b+(k+1) by omega)]
     ·rw[if_neg c1,if_neg c2,if_neg (show¬(a≤i∧i<a+(k+1)) by omega),if_neg (show¬(b≤i∧i<b+(k+1)) by omega)]
end Go.X.G
/- Rotations, in plain words. -/
namespace Go.X.G
open Go Go.X
def Bt4 {α:Type} (X A M B Y:List α) (h:A.length=B.length):swapR (X++A++M++B++Y) X.length (X.length+A.length+M.length) A.length=X++B++M++A++Y:=by
 apply List.ext_getElem?;intro i;rw[Qg _ _ _ _ _ (by omega) (by simp;omega)];simp only[List.getElem?_append,B0]
 repeat' split
 all_goals first
  |(exfalso;omega)
  |rfl
  |(congr 1;omega)
end Go.X.G
/- Rows of records that are turned in place: the library's functions. -/
namespace Go.X.G
open Go Go.X
def my (s:List Rec) (a b n:Nat) (g:Nat) (caps:List PV) (h1:a+n≤b) (h2:b+n≤s.length) (hs:s.length≤1000000):S Ts 1048581 [B6 s,.i .i64 (a:Int),.i .i64 (b:Int),.i .i64 (n:Int),.f g caps]=some [B6 (swapR s a b n)]:=by
 refine Gm9 (N:=n+1) rfl ?_;have key:Ct3.ev S (n+1) [B6 s,.i .i64 (a:Int),.i .i64 (b:Int),.i .i64 (n:Int),.f g caps]=some (.yld 0 [B6 (swapR s a b n)]):=by
  refine Gh n (fun i=>[.i .i64 (i:Int),B6 (swapR s a b i)]) (fun _=> .yld 0 [B6 (swapR s a b n)]) (by simp(disch:=omega)only[swapR,EVT,Az,simprocAttr]) (by omega) (fun i hi=> ?_) ?_
  ·left;refine⟨?_,rfl⟩;have hl:=Qf s a b i;have ga:=Qg s a b i (a+i) (by omega) (by omega);have gb:=Qg s a b i (b+i) (by omega) (by omega);rw[if_neg (by omega),if_neg (by omega)] at ga gb;have ha:s[a+i]? =some s[a+i]:=B3 (by omega);have hb:s[b+i]? =some s[b+i]:=B3 (by omega);rw[ha] at ga;rw[hb] at gb;have e:swapR s a b (i+1)=((swapR s a b i).set (a+i) s[b+i]).set (b+i) s[a+i]:=by
    conv=>lhs;unfold swapR
    rw[ha,hb]
   rw[e];generalize s[a+i]=x at*;generalize s[b+i]=y at*;generalize swapR s a b i=t at*;have ti1:((a:Int)+(i:Int)).toNat=a+i:=by omega
   have ti2:((b:Int)+(i:Int)).toNat=b+i:=by omega
   have g3:(t.set (a+i) y)[b+i]? =some y:=by rw[Bn1 (by omega)];exact gb
   have hlt:(t.set (a+i) y).length=s.length:=by rw[I8,hl]
   simp(disch:=first|omega|(rw[I8];omega))only[Br1,ti1,ti2,ga,gb,g3,EVT,Az,simprocAttr]
  ·refine⟨?_,rfl⟩;simp(disch:=omega)only[Br1,EVT,Az,simprocAttr]
 simp(disch:=omega)only[Br1,key,EVT,Az,simprocAttr]
end Go.X.G
/- Rotations: the library's function. -/
namespace Go.X.G
open Go Go.X
def My (X A M B Y:List Rec) (a b n:Int) (g:Nat) (caps:List PV) (ha:a=X.length) (hb:b=X.length+A.length+M.length) (hn:n=A.length) (h:A.length=B.length) (hs:(X++A++M++B++Y).length≤1000000):S Ts 1048581 [B6 (X++A++M++B++Y),.i .i64 a,.i .i64 b,.i .i64 n,.f g caps]=some [B6 (X++B++M++A++Y)]:=by subst ha;subst hn;have h1:=my (X++A++M++B++Y) X.length (X.length+A.length+M.length) A.length g caps (by omega) (by simp only[B0];omega) hs;rw[Bt4 X A M B Y h] at h1;rw[hb];simpa using h1
def Cq3 (X A B Y:List Rec) (a m b:Int) (g:Nat) (caps:List PV) (ha:a=X.length) (hm:m=X.length+A.length) (hb:b=X.length+A.length+B.length) (hA:A≠[]) (hB:B≠[]) (hs:(X++A++B++Y).length≤1000000):
  S o5 1048581 [B6 (X++A++B++Y),.i .i64 a,.i .i64 m,.i .i64 b,.f g caps]=some [B6 (X++B++A++Y)]:=by
 have hA':0<A.length:=Cr.2 hA;have hB':0<B.length:=Cr.2 hB;have hs2:=hs;simp only[B0] at hs2;refine Gn6 (N:=(X++A++B++Y).length+1) rfl ?_;have key:=I4 (fn:=S) (N:=(X++A++B++Y).length+1) (η:=[B6 (X++A++B++Y),.i .i64 a,.i .i64 m,.i .i64 b,.f g caps]) (id:=1) (init:=[.bin .sub (.v 2) (.v 1),.bin .sub (.v 3) (.v 2),.v 0]) (body:=Av1) (α:=List Rec×List Rec×List Rec×List Rec)
  (fun x=>[.i .i64 (x.2.1.length:Int),.i .i64 (x.2.2.1.length:Int),B6 (x.1++x.2.1++x.2.2.1++x.2.2.2)])
  (fun o=>∃X' A' B' Y':List Rec,o= .yld 0 [.i .i64 (A'.length:Int),B6 (X'++A'++B'++Y')]∧A'.length=B'.length∧(X'.length:Int)+A'.length=m∧X'++B'++A'++Y'=X++B++A++Y∧(X'++A'++B'++Y').length≤1000000)
  (fun x=>0<x.2.1.length∧0<x.2.2.1.length∧(x.1.length:Int)+x.2.1.length=m∧x.1++x.2.2.1++x.2.1++x.2.2.2=X++B++A++Y)
  (fun x=>x.2.1.length+x.2.2.1.length) (X,A,B,Y) ?_ ⟨hA',hB',by simp only;omega,rfl⟩ (by simp only[B0];omega) ?_
 ·obtain⟨o,ho,X',A',B',Y',rfl,e1,e2,e3,e4⟩:=key;have hsw:=My X' A' [] B' Y' (m - A'.length) m A'.length g caps (by omega) (by simp;omega) rfl e1 (by simpa using e4);simp only[E6] at hsw;rw[e3] at hsw;have ht:Ct7.ev S ((X++A++B++Y).length+1) [B6 (X++A++B++Y),.i .i64 a,.i .i64 m,.i .i64 b,.f g caps]=_:=ho;have hl:(X'++A'++B'++Y').length=(X++B++A++Y).length:=by rw[←e3];simp only[B0];omega
  have hl2:A'.length≤1000000:=by simp only[B0] at e4;omega
  generalize X'++A'++B'++Y'=t at*;generalize X++A++B++Y=s at*;generalize X++B++A++Y=u at*;simp(disch:=omega)only[Ax9,ht,hsw,Fb,Mq,EVT,Az,simprocAttr]
 ·generalize X++A++B++Y=s at*;have e1:b - m=(B.length:Int):=by omega
  have e2:m - a=(A.length:Int):=by omega
  simp(disch:=omega)only[e1,e2,EVT,Az,simprocAttr]
 ·rintro⟨X',A',B',Y'⟩ ⟨h1,h2,h3,h4⟩;simp only at h1 h2 h3 h4;have hl:(X'++A'++B'++Y').length≤1000000:=by have:=congrArg List.length h4;simp only[B0] at this ⊢;omega
  have hl':=hl;simp only[B0] at hl';by_cases hij:A'.length=B'.length
  ·right;refine⟨.yld 0 [.i .i64 (A'.length:Int),B6 (X'++A'++B'++Y')],?_,rfl,X',A',B',Y',rfl,hij,h3,h4,hl⟩;generalize X'++A'++B'++Y'=t at*;generalize X++A++B++Y=s at*;have hij':(A'.length:Int)=(B'.length:Int):=by omega
   simp(disch:=omega)only[Ax9,hij',EVT,Az,simprocAttr]
  ·left;have hij':¬(A'.length:Int)=(B'.length:Int):=by omega
   by_cases hgt:B'.length<A'.length
   ·have hgt':(B'.length:Int)<(A'.length:Int):=by omega
    have eA:A'.take B'.length++A'.drop B'.length=A':=C9 _ _;have l1:(A'.take B'.length).length=B'.length:=by rw[Cq];omega
    have l2:(A'.drop B'.length).length=A'.length - B'.length:=Dv;have hsw:=My X' (A'.take B'.length) (A'.drop B'.length) B' Y' (m - A'.length) m B'.length g caps (by omega) (by omega) (by omega) (by omega) (by rw[Cy X',eA];exact hl);rw[Cy X',eA] at hsw;refine⟨(X'++B',A'.drop B'.length,A'.take B'.length,Y'),?_,⟨by simp only;omega,by simp only;omega,by simp only[B0];omega,?_⟩,by simp only;omega⟩
    ·simp only;rw[l1,l2];have e1:((A'.length - B'.length:Nat):Int)=(A'.length:Int) - (B'.length:Int):=by omega
     rw[e1];generalize X'++B'++A'.drop B'.length++A'.take B'.length++Y'=u at*;generalize X'++A'++B'++Y'=t at*;generalize X++A++B++Y=s at*;simp(disch:=omega)only[Ax9,hij',hgt',hsw,Fb,Mq,EVT,Az,simprocAttr]
    ·simp only;rw[←h4,Cy (X'++B'),eA]
   ·have hgt':¬(B'.length:Int)<(A'.length:Int):=by omega
    have eB:B'.take (B'.length - A'.length)++B'.drop (B'.length - A'.length)=B':=C9 _ _;have l1:(B'.take (B'.length - A'.length)).length=B'.length - A'.length:=by rw[Cq];omega
    have l2:(B'.drop (B'.length - A'.length)).length=A'.length:=by rw[Dv];omega
    have hsw:=My X' A' (B'.take (B'.length - A'.length)) (B'.drop (B'.length - A'.length)) Y' (m - A'.length) (m+B'.length - A'.length) A'.length g caps (by omega) (by omega) (by omega) (by omega) (by rw[Cy (X'++A'),eB];exact hl);rw[Cy (X'++A'),eB] at hsw;have ea:X'++B'.drop (B'.length - A'.length)++B'.take (B'.length - A'.length)++A'++Y'=X'++B'.drop (B'.length - A'.length)++B'.take (B'.length - A'.length)++(A'++Y'):=by simp
    refine⟨(X',B'.drop (B'.length - A'.length),B'.take (B'.length - A'.length),A'++Y'),?_,⟨by simp only;omega,by simp only;omega,by simp only;omega,?_⟩,by simp only;omega⟩
    ·simp only;rw[l1,l2,←ea];have e1:((B'.length - A'.length:Nat):Int)=(B'.length:Int) - (A'.length:Int):=by omega
     rw[e1];generalize X'++B'.drop (B'.length - A'.length)++B'.take (B'.length - A'.length)++A'++Y'=u at*;generalize X'++A'++B'++Y'=t at*;generalize X++A++B++Y=s at*;simp(disch:=omega)only[Ax9,hij',hgt',hsw,Fb,Mq,EVT,Az,simprocAttr]
    ·simp only;rw[←h4,Cy X' (B'.take _),eB];simp
end Go.X.G
/- Sorting by blocks, in plain words. -/
namespace Go.X.G
open Go Go.X
structure Blk {α:Type} (le:α→α→Bool) (bs:Nat) (r l:List α):Prop where
 len:r.length=l.length
 st:∀k,Stab le ((r.drop (k*bs)).take bs) ((l.drop (k*bs)).take bs)
def U9 {α:Type} (le:α→α→Bool):Stab le ([]:List α) []:=⟨.nil,fun _=>rfl⟩
def xz {α:Type} (le:α→α→Bool) (x:α):Stab le [x] [x]:=⟨by simp,fun _=>rfl⟩
def Blk.nil {α:Type} (le:α→α→Bool) (bs:Nat):Blk le bs ([]:List α) []:=⟨rfl,fun k=>by rw[List.drop_nil,List.take_nil];exact U9 le⟩
def Blk.one {α:Type} {le:α→α→Bool} {bs:Nat} {r l:List α} (h:Stab le r l) (hl:r.length=l.length) (hb:r.length≤bs):Blk le bs r l:=⟨hl,fun k=>by
 cases k with
 |zero=>
  simp only[Nat.zero_mul,Gq];rw[Ef hb,Ef (by omega)];exact h
 |succ k=>
  have:r.length≤(k+1)*bs:=by rw[Nat.succ_mul];omega
  rw[L8 this,L8 (by omega),List.take_nil];exact U9 le⟩
def td {α:Type} (X Y:List α) (n m:Nat) (h:n=X.length+m):(X++Y).drop n=Y.drop m:=by rw[List.drop_append,L8 (by omega),Dp];congr 1;omega
def Blk.app {α:Type} {le:α→α→Bool} {bs q:Nat} {X LX Y LY:List α} (hX:X.length=q*bs) (h1:Blk le bs X LX) (h2:Blk le bs Y LY):Blk le bs (X++Y) (LX++LY):=by
 have hL:=h1.len;refine⟨by rw[B0,B0,h1.len,h2.len],fun k=> ?_⟩;by_cases hk:k<q
 ·have e:(k+1)*bs≤q*bs:=C3 _ hk;rw[Nat.succ_mul] at e;rw[List.drop_append_of_le_length (by omega),List.drop_append_of_le_length (by omega),List.take_append_of_le_length (by rw[Dv];omega),List.take_append_of_le_length (by rw[Dv];omega)];exact h1.st k
 ·have e:(k - q)*bs+q*bs=k*bs:=by rw[←Ds];congr 1;omega
  rw[td X Y (k*bs) ((k - q)*bs) (by omega),td LX LY (k*bs) ((k - q)*bs) (by omega)];exact h2.st (k - q)
def Blk.all {α:Type} {le:α→α→Bool} {bs:Nat} {r l:List α} (h:Blk le bs r l) (hb:r.length≤bs):Stab le r l:=by have:=h.st 0;have hl:=h.len;simp only[Nat.zero_mul,Gq] at this;rwa[Ef hb,Ef (by omega)] at this
def Blk.head {α:Type} {le:α→α→Bool} {bs:Nat} {r l:List α} (h:Blk le bs r l):Stab le (r.take bs) (l.take bs):=by simpa using h.st 0
def Blk.tail {α:Type} {le:α→α→Bool} {bs:Nat} {r l:List α} (h:Blk le bs r l):Blk le bs (r.drop bs) (l.drop bs):=⟨by simp[h.len],fun k=>by rw[D9,D9];have:=h.st (k+1);rw[Nat.succ_mul,Dm7] at this;exact this⟩
def Ez1 {α:Type} {le:α→α→Bool} (ht:TP le) {R1 R2 l:List α} {x:α} (h:Stab le (R1++R2) l) (h1:∀y∈R1,le y x=true) (h2:∀y∈R2,le y x=false):Stab le (R1++x::R2) (l++[x]):=by
 obtain⟨hs,hc⟩:=h;refine⟨?_,fun z=> ?_⟩
 ·rw[Gn] at hs ⊢;refine⟨hs.1,Cf.2 ⟨fun y hy=>(ht.tot x y).resolve_right (by rw[h2 y hy];simp),hs.2.1⟩,fun a ha b hb=> ?_⟩;rcases Ck.1 hb with rfl|hb
  ·exact h1 a ha
  ·exact hs.2.2 a ha b hb
 ·have:=hc z;rw[Ff] at this;rw[Ff,Ff,←this,M7];by_cases hz:eqv le z x=true
  ·have hno:R2.filter (eqv le z)=[]:=by rw[Is];intro w hw hzw;unfold eqv at hz hzw;simp only[Br] at hz hzw;have:=ht.tr _ _ _ hzw.2 hz.1;rw[h2 w hw] at this;cases this
   rw[hno,if_pos hz];simp[hz]
  ·rw[if_neg hz];simp[hz]
def xg {α:Type} {le:α→α→Bool} (ht:TP le) {R:List α} {w x:α} (h:(R++[w]).Pairwise fun a b=>le a b=true) (hx:le w x=true):∀y∈R++[w],le y x=true:=by
 intro y hy;rcases C4.1 hy with hy|hy
 ·exact ht.tr _ _ _ ((Gn.1 h).2.2 y hy w (by simp)) hx
 ·have:y=w:=by simpa using hy
  rw[this];exact hx
def W0 {α:Type} (le:α→α→Bool):∀(a b:List α),(mrg le a b).length=a.length+b.length
 |[],b=>by simp[mrg]
 |x::a,[]=>by simp[mrg]
 |x::a,y::b=>by
  unfold mrg;split
  ·simp only[Cw,W0 le a (y::b)];omega
  ·simp only[Cw,W0 le (x::a) b];omega
termination_by a b=>a.length+b.length
end Go.X.G
/- Merging in place: the library's function. -/
namespace Go.X.G
open Go Go.X
def Gw (x:Int):bin .shr (.i .u64 x) (.i .u64 1)=some (.i .u64 (x / 2)):=by
 simp only[bin,Rt];rw[if_neg (by decide)];have:(2:Int) ^ min (1:Int).toNat IntKind.u64.bits=2:=by decide
 rw[this,Int.fdiv_eq_ediv_of_nonneg _ (by decide)]
def Ff9 {α:Type} (P Q:List α) (x y:α):((P++x::y::Q).set P.length y).set (P.length+1) x=P++y::x::Q:=by rw[Ov _ _ (B7 _),cr,List.set_cons_zero,Ov _ _ (by omega),show P.length+1 - P.length=1 by omega];rfl
def sq {α:Type} (P Q:List α) (x:α):(P++x::Q)[P.length]? =some x:=by simp
def zg {α:Type} (P Q:List α) (x y:α):(P++x::y::Q)[P.length+1]? =some y:=by simp
structure Cmp (g:Nat) (caps:List PV) (c:Rec→Rec→Int) (P:Rec→Prop):Prop where
 ok:∀x y,P x→P y→S g 2 (x.pv::y.pv::caps)=some [.i .i64 (c x y)]
def leC (c:Rec→Rec→Int) (x y:Rec):Bool:= !decide (c y x<0)
def Eh4 {c:Rec→Rec→Int} {x y:Rec}:leC c x y=true↔¬c y x<0:=by simp[leC]
def Eh5 {c:Rec→Rec→Int} {x y:Rec}:leC c x y=false↔c y x<0:=by simp[leC]
section
variable {g:Nat} {caps:List PV} {c:Rec→Rec→Int} {P:Rec→Prop}
def Iv2 (h:Cmp g caps c P) (X B Y:List Rec) (x:Rec) (s:List Rec) (hsd:s=X++x::(B++Y)) (a m b:Int) (ha:a=X.length) (hm:m=a+1) (hb:b=m+B.length) (hs:s.length≤1000000) (hP:∀y∈s,P y) (N:Nat) (hN:B.length<N):
  ∃p:Nat,Dj0.ev S N [B6 s,.i .i64 a,.i .i64 m,.i .i64 b,.f g caps]=some (.yld 0 [.i .i64 (m+p)])∧p≤B.length∧(∀y,p≠0→B[p - 1]? =some y→c y x<0)∧∀y,B[p]? =some y→¬c y x<0:=by
 have hl:s.length=X.length+1+B.length+Y.length:=by rw[hsd];simp;omega
 have hx:s[X.length]? =some x:=by rw[hsd];exact sq _ _ _
 have hB:∀k y,B[k]? =some y→s[X.length+1+k]? =some y:=fun k y hk=>by have:=(Bp.1 hk).1;rw[hsd,Cz (by omega),show X.length+1+k - X.length=k+1 by omega,F0,Cn this,hk]
 have hPx:P x:=hP x (by rw[hsd];simp);have key:=I4 (fn:=S) (N:=N) (η:=[B6 s,.i .i64 a,.i .i64 m,.i .i64 b,.f g caps]) (id:=1) (init:=[.v 2,.v 3]) (body:=Av2) (α:=Nat×Nat)
  (fun w=>[.i .i64 (m+w.1),.i .i64 (m+w.2)])
  (fun o=>∃p:Nat,o= .yld 0 [.i .i64 (m+p)]∧p≤B.length∧(∀y,p≠0→B[p - 1]? =some y→c y x<0)∧∀y,B[p]? =some y→¬c y x<0)
  (fun w=>w.1≤w.2∧w.2≤B.length∧(∀y,w.1≠0→B[w.1 - 1]? =some y→c y x<0)∧∀y,B[w.2]? =some y→¬c y x<0)
  (fun w=>w.2 - w.1) (0,B.length) ?_ ?_ (by simp only;omega) ?_
 ·obtain⟨o,h1,p,rfl,h2⟩:=key;exact⟨p,h1,h2⟩
 ·subst hb;simp(disch:=omega)only[EVT,Az,simprocAttr];simp
 ·refine⟨by simp,by simp,fun y h0=>absurd rfl h0,fun y hy=> ?_⟩;simp at hy
 ·rintro⟨p,q⟩ ⟨h1,h2,h3,h4⟩;simp only at h1 h2 h3 h4;by_cases hpq:p<q
  ·left;have hk:(p+q) / 2<B.length:=by omega
   have hy:=B3 hk;generalize B[(p+q) / 2]=y at hy;have hsy:=hB _ y hy;have hPy:P y:=hP y (Cc hsy);have hc:=h.ok y x hPy hPx;have hlt:m+(p:Int)<m+(q:Int):=by omega
   have e1:(m+(p:Int)+(m+(q:Int))) / 2=m+(((p+q) / 2:Nat):Int):=by omega
   have e2:(m+(((p+q) / 2:Nat):Int)).toNat=X.length+1+(p+q) / 2:=by omega
   have e3:a.toNat=X.length:=by omega
   by_cases hcy:c y x<0
   ·refine⟨((p+q) / 2+1,q),?_,⟨by simp only;omega,h2,fun z _ hz=> ?_,h4⟩,by simp only;omega⟩
    ·have e4:m+(((p+q) / 2+1:Nat):Int)=m+(((p+q) / 2:Nat):Int)+1:=by omega
     simp only[e4];generalize (p+q) / 2=k at*;simp(disch:=omega)only[Gs,hlt,Gw,e1,e2,e3,hsy,hx,hc,hcy,EVT,Az,simprocAttr]
    ·simp only[Nq] at hz;rw[hy] at hz;injection hz with hz;subst hz;exact hcy
   ·refine⟨(p,(p+q) / 2),?_,⟨by simp only;omega,by simp only;omega,h3,fun z hz=> ?_⟩,by simp only;omega⟩
    ·simp only;generalize (p+q) / 2=k at*;simp(disch:=omega)only[Gs,hlt,Gw,e1,e2,e3,hsy,hx,hc,hcy,EVT,Az,simprocAttr]
    ·simp only at hz;rw[hy] at hz;injection hz with hz;subst hz;exact hcy
  ·right;have e:p=q:=by omega
   subst e;have hlt:¬m+(p:Int)<m+(p:Int):=by omega
   refine⟨.yld 0 [.i .i64 (m+p)],?_,rfl,p,rfl,h2,h3,h4⟩;simp(disch:=omega)only[Gs,hlt,EVT,Az,simprocAttr]
def Iv4 (L L':List Rec) (i:Nat) (x y:Rec) (g0:L[i]? =some x) (g1:L[i+1]? =some y) (sw:(L.set i y).set (i+1) x=L') (k e:Int) (hk:k=i) (he:k<e - 1) (he2:e≤1000000) (hL:L.length≤1000000) (w0 w1 w2 w3 w4:PV) (N:Nat):
  jg.ev S N [w0,w1,w2,w3,w4,.i .i64 e,.i .i64 k,B6 L]=some (.yld 1 [.i .i64 (k+1),B6 L']):=by
 have hi:=(Bp.1 g1).1;have ti0:k.toNat=i:=by omega
 have ti1:(k+1).toNat=i+1:=by omega
 have g2:(L.set i y)[i+1]? =some y:=by rw[Bn1 (by omega)];exact g1
 simp(disch:=first|omega|(rw[I8];omega))only[Gs,he,ti0,ti1,g0,g1,g2,sw,EVT,Az,simprocAttr]
def Iv3 (L L':List Rec) (i:Nat) (x y:Rec) (g0:L[i]? =some x) (g1:L[i+1]? =some y) (sw:(L.set (i+1) x).set i y=L') (k e:Int) (hk:k=i+1) (he:e<k) (he2:0≤e) (hL:L.length≤1000000) (w0 w1 w2 w3 w4:PV) (N:Nat):
  jf.ev S N [w0,w1,w2,w3,w4,.i .i64 e,.i .i64 k,B6 L]=some (.yld 1 [.i .i64 (k - 1),B6 L']):=by
 have hi:=(Bp.1 g1).1;have ti0:(k - 1).toNat=i:=by omega
 have ti1:k.toNat=i+1:=by omega
 have g2:(L.set (i+1) x)[i]? =some x:=by rw[Bn1 (by omega)];exact g0
 simp(disch:=first|omega|(rw[I8];omega))only[Gs,he,ti0,ti1,g0,g1,g2,sw,EVT,Az,simprocAttr]
def Iv1 (X B Y:List Rec) (x:Rec) (s:List Rec) (hsd:s=X++x::(B++Y)) (a m b:Int) (w:PV) (p:Nat) (ha:a=X.length) (hm:m=a+1) (hp:p≤B.length) (hs:s.length≤1000000) (N:Nat) (hN:B.length<N) (w1 w2 w3:PV):
  Cs7.ev S N [B6 s,.i .i64 a,w1,w2,w3,.i .i64 (m+p)]=some (.yld 0 [B6 (X++(B.take p++x::B.drop p)++Y)]):=by
 have hl:s.length=X.length+1+B.length+Y.length:=by rw[hsd];simp;omega
 refine Gh p (fun t=>[.i .i64 (a+t),B6 ((X++B.take t)++x::(B.drop t++Y))]) (fun _=> .yld 0 [B6 (X++(B.take p++x::B.drop p)++Y)]) ?_ (by omega) (fun t ht=> ?_) ?_
 ·simp(disch:=omega)only[EVT,Az,simprocAttr];rw[hsd];simp
 ·left;refine⟨?_,rfl⟩;have hlt:t<B.length:=by omega
  have hy:=B3 hlt;have hd:B.drop t=B[t]::B.drop (t+1):=D8 hlt;have htk:B.take (t+1)=B.take t++[B[t]]:=by rw[Dm,hy];rfl
  have e0:X++B.take (t+1)++x::(B.drop (t+1)++Y)=X++B.take t++B[t]::x::(B.drop (t+1)++Y):=by rw[htk];simp only[Cy,Dh,Dp]
  show jg.ev S N ([B6 s,.i .i64 a,w1,w2,w3,.i .i64 (m+p)]++[.i .i64 (a+t),B6 ((X++B.take t)++x::(B.drop t++Y))])=some (.yld 1 [.i .i64 (a+((t+1:Nat):Int)),B6 ((X++B.take (t+1))++x::(B.drop (t+1)++Y))]);rw[e0,hd,Dh];generalize B[t]=y at*;have lP:(X++B.take t).length=X.length+t:=by rw[B0,Cq];omega
  have sw:=Ff9 (X++B.take t) (B.drop (t+1)++Y) x y;have g0:=sq (X++B.take t) (y::(B.drop (t+1)++Y)) x;have g1:=zg (X++B.take t) (B.drop (t+1)++Y) x y;have lL:(X++B.take t++x::y::(B.drop (t+1)++Y)).length=s.length:=by rw[hl];simp only[B0,Cw,Cq,Dv];omega
  rw[lP] at sw g0 g1;have e5:a+((t+1:Nat):Int)=a+(t:Int)+1:=by omega
  rw[e5];exact Iv4 _ _ (X.length+t) x y g0 g1 sw (a+t) (m+p) (by omega) (by omega) (by omega) (by omega) _ _ _ _ _ N
 ·refine⟨?_,rfl⟩;have hlt2:¬a+(p:Int)<m+(p:Int) - 1:=by omega
  have e0:X++B.take p++x::(B.drop p++Y)=X++(B.take p++x::B.drop p)++Y:=by simp
  rw[e0];simp(disch:=omega)only[Gs,hlt2,EVT,Az,simprocAttr]
def Iv0 (h:Cmp g caps c P) (X A Y:List Rec) (x:Rec) (s:List Rec) (hsd:s=X++(A++x::Y)) (a m:Int) (w:PV) (ha:a=X.length) (hm:m=a+A.length) (hs:s.length≤1000000) (hP:∀y∈s,P y) (N:Nat) (hN:A.length<N):
  ∃p:Nat,Cs4.ev S N [B6 s,.i .i64 a,.i .i64 m,w,.f g caps]=some (.yld 0 [.i .i64 (a+p)])∧p≤A.length∧(∀y,p≠0→A[p - 1]? =some y→¬c x y<0)∧∀y,A[p]? =some y→c x y<0:=by
 have hl:s.length=X.length+A.length+1+Y.length:=by rw[hsd];simp;omega
 have hx:s[X.length+A.length]? =some x:=by rw[hsd,←Cy,←B0];exact sq _ _ _
 have hA:∀k y,A[k]? =some y→s[X.length+k]? =some y:=fun k y hk=>by have:=(Bp.1 hk).1;rw[hsd,Cz (by omega),show X.length+k - X.length=k by omega,Cn this,hk]
 have hPx:P x:=hP x (by rw[hsd];simp);have key:=I4 (fn:=S) (N:=N) (η:=[B6 s,.i .i64 a,.i .i64 m,w,.f g caps]) (id:=1) (init:=[.v 1,.v 2]) (body:=Aq7) (α:=Nat×Nat)
  (fun w=>[.i .i64 (a+w.1),.i .i64 (a+w.2)])
  (fun o=>∃p:Nat,o= .yld 0 [.i .i64 (a+p)]∧p≤A.length∧(∀y,p≠0→A[p - 1]? =some y→¬c x y<0)∧∀y,A[p]? =some y→c x y<0)
  (fun w=>w.1≤w.2∧w.2≤A.length∧(∀y,w.1≠0→A[w.1 - 1]? =some y→¬c x y<0)∧∀y,A[w.2]? =some y→c x y<0)
  (fun w=>w.2 - w.1) (0,A.length) ?_ ?_ (by simp only;omega) ?_
 ·obtain⟨o,h1,p,rfl,h2⟩:=key;exact⟨p,h1,h2⟩
 ·subst hm;simp(disch:=omega)only[EVT,Az,simprocAttr];simp
 ·refine⟨by simp,by simp,fun y h0=>absurd rfl h0,fun y hy=> ?_⟩;simp at hy
 ·rintro⟨p,q⟩ ⟨h1,h2,h3,h4⟩;simp only at h1 h2 h3 h4;by_cases hpq:p<q
  ·left;have hk:(p+q) / 2<A.length:=by omega
   have hy:=B3 hk;generalize A[(p+q) / 2]=y at hy;have hsy:=hA _ y hy;have hPy:P y:=hP y (Cc hsy);have hc:=h.ok x y hPx hPy;have hlt:a+(p:Int)<a+(q:Int):=by omega
   have e1:(a+(p:Int)+(a+(q:Int))) / 2=a+(((p+q) / 2:Nat):Int):=by omega
   have e2:(a+(((p+q) / 2:Nat):Int)).toNat=X.length+(p+q) / 2:=by omega
   have e3:m.toNat=X.length+A.length:=by omega
   by_cases hcy:c x y<0
   ·refine⟨(p,(p+q) / 2),?_,⟨by simp only;omega,by simp only;omega,h3,fun z hz=> ?_⟩,by simp only;omega⟩
    ·simp only;generalize (p+q) / 2=k at*;simp(disch:=omega)only[Gs,hlt,Gw,e1,e2,e3,hsy,hx,hc,hcy,EVT,Az,simprocAttr]
    ·simp only at hz;rw[hy] at hz;injection hz with hz;subst hz;exact hcy
   ·refine⟨((p+q) / 2+1,q),?_,⟨by simp only;omega,h2,fun z _ hz=> ?_,h4⟩,by simp only;omega⟩
    ·have e4:a+(((p+q) / 2+1:Nat):Int)=a+(((p+q) / 2:Nat):Int)+1:=by omega
     simp only[e4];generalize (p+q) / 2=k at*;simp(disch:=omega)only[Gs,hlt,Gw,e1,e2,e3,hsy,hx,hc,hcy,EVT,Az,simprocAttr]
    ·simp only[Nq] at hz;rw[hy] at hz;injection hz with hz;subst hz;exact hcy
  ·right;have e:p=q:=by omega
   subst e;have hlt:¬a+(p:Int)<a+(p:Int):=by omega
   refine⟨.yld 0 [.i .i64 (a+p)],?_,rfl,p,rfl,h2,h3,h4⟩;simp(disch:=omega)only[Gs,hlt,EVT,Az,simprocAttr]
def Iq9 (X A Y:List Rec) (x:Rec) (s:List Rec) (hsd:s=X++(A++x::Y)) (a m:Int) (p:Nat) (ha:a=X.length) (hm:m=a+A.length) (hp:p≤A.length) (hs:s.length≤1000000) (N:Nat) (hN:A.length<N) (w1 w2 w3:PV):
  Cs3.ev S N [B6 s,w1,.i .i64 m,w2,w3,.i .i64 (a+p)]=some (.yld 0 [B6 (X++(A.take p++x::A.drop p)++Y)]):=by
 have hl:s.length=X.length+A.length+1+Y.length:=by rw[hsd];simp;omega
 refine Gh (A.length - p) (fun t=>[.i .i64 (m - t),B6 ((X++A.take (A.length - t))++x::(A.drop (A.length - t)++Y))]) (fun _=> .yld 0 [B6 (X++(A.take p++x::A.drop p)++Y)]) ?_ (by omega) (fun t ht=> ?_) ?_
 ·simp(disch:=omega)only[EVT,Az,simprocAttr];rw[hsd];simp
 ·left;refine⟨?_,rfl⟩;obtain⟨u,hu⟩:∃u,A.length - t=u+1:=⟨A.length - t - 1,by omega⟩;have hlt:u<A.length:=by omega
  have hy:=B3 hlt;have hd:A.drop u=A[u]::A.drop (u+1):=D8 hlt;have htk:A.take (u+1)=A.take u++[A[u]]:=by rw[Dm,hy];rfl
  have e1:A.length - (t+1)=u:=by omega
  have e0:X++A.take (u+1)++x::(A.drop (u+1)++Y)=X++A.take u++A[u]::x::(A.drop (u+1)++Y):=by rw[htk];simp only[Cy,Dh,Dp]
  show jf.ev S N ([B6 s,w1,.i .i64 m,w2,w3,.i .i64 (a+p)]++[.i .i64 (m - t),B6 ((X++A.take (A.length - t))++x::(A.drop (A.length - t)++Y))])=some (.yld 1 [.i .i64 (m - ((t+1:Nat):Int)),B6 ((X++A.take (A.length - (t+1)))++x::(A.drop (A.length - (t+1))++Y))]);rw[hu,e1,e0,hd,Dh];generalize A[u]=y at*;have lP:(X++A.take u).length=X.length+u:=by rw[B0,Cq];omega
  have sw0:((X++A.take u++y::x::(A.drop (u+1)++Y)).set (X.length+u+1) y).set (X.length+u) x=X++A.take u++x::y::(A.drop (u+1)++Y):=by rw[←lP,List.set_comm _ _ (by omega)];exact Ff9 (X++A.take u) (A.drop (u+1)++Y) y x
  have g0:=sq (X++A.take u) (x::(A.drop (u+1)++Y)) y;have g1:=zg (X++A.take u) (A.drop (u+1)++Y) y x;have lL:(X++A.take u++y::x::(A.drop (u+1)++Y)).length=s.length:=by rw[hl];simp only[B0,Cw,Cq,Dv];omega
  rw[lP] at g0 g1;have e5:m - ((t+1:Nat):Int)=m - (t:Int) - 1:=by omega
  rw[e5];exact Iv3 _ _ (X.length+u) y x g0 g1 sw0 (m - t) (a+p) (by omega) (by omega) (by omega) (by omega) _ _ _ _ _ N
 ·refine⟨?_,rfl⟩;have hlt2:¬a+(p:Int)<m - ((A.length - p:Nat):Int):=by omega
  have e1:A.length - (A.length - p)=p:=by omega
  have e0:X++A.take p++x::(A.drop p++Y)=X++(A.take p++x::A.drop p)++Y:=by simp
  rw[e1,e0];simp(disch:=omega)only[Gs,hlt2,EVT,Az,simprocAttr]
end
end Go.X.G
/- Merging in place: the library's function, the Py. -/
namespace Go.X.G
open Go Go.X
section
variable {g:Nat} {caps:List PV} {c:Rec→Rec→Int} {P:Rec→Prop}
def Iq8 (hC:Cmp g caps c P) (X A B Y:List Rec) (s:List Rec) (hsd:s=X++(A++(B++Y))) (a m b mid:Int) (h i0 j0:Nat) (ha:a=X.length) (hm:m=a+A.length) (hb:b=m+B.length) (hM:(a+b) / 2=mid) (hmid:mid=a+h)
  (h1:i0≤j0) (h2:j0≤A.length) (h3:j0≤h) (h4:h≤i0+B.length) (hs:s.length≤1000000) (hP:∀y∈s,P y) (N:Nat) (hN:A.length<N):
  ∃i:Nat,Cs2.ev S N [B6 s,.i .i64 a,.i .i64 m,.i .i64 b,.f g caps,.i .i64 (a+i0),.i .i64 (a+j0)]=some (.yld 0 [.i .i64 (a+i)])∧i0≤i∧i≤j0∧
   (∀x y,i≠i0→A[i - 1]? =some x→B[h - i]? =some y→¬c y x<0)∧∀x y,i≠j0→A[i]? =some x→B[h - 1 - i]? =some y→c y x<0:=by
 have hl:s.length=X.length+A.length+B.length+Y.length:=by rw[hsd];simp;omega
 have hA:∀k y,A[k]? =some y→s[X.length+k]? =some y:=fun k y hk=>by have:=(Bp.1 hk).1;rw[hsd,Cz (by omega),show X.length+k - X.length=k by omega,Cn this,hk]
 have hB:∀k y,B[k]? =some y→s[X.length+A.length+k]? =some y:=fun k y hk=>by have:=(Bp.1 hk).1;rw[hsd,Cz (by omega),Cz (by omega),show X.length+A.length+k - X.length - A.length=k by omega,Cn this,hk]
 have key:=I4 (fn:=S) (N:=N) (η:=[B6 s,.i .i64 a,.i .i64 m,.i .i64 b,.f g caps,.i .i64 (a+i0),.i .i64 (a+j0)]) (id:=1) (init:=[.v 5,.v 6]) (body:=Aq6) (α:=Nat×Nat)
  (fun w=>[.i .i64 (a+w.1),.i .i64 (a+w.2)])
  (fun o=>∃i:Nat,o= .yld 0 [.i .i64 (a+i)]∧i0≤i∧i≤j0∧(∀x y,i≠i0→A[i - 1]? =some x→B[h - i]? =some y→¬c y x<0)∧∀x y,i≠j0→A[i]? =some x→B[h - 1 - i]? =some y→c y x<0)
  (fun w=>w.1≤w.2∧i0≤w.1∧w.2≤j0∧(∀x y,w.1≠i0→A[w.1 - 1]? =some x→B[h - w.1]? =some y→¬c y x<0)∧∀x y,w.2≠j0→A[w.2]? =some x→B[h - 1 - w.2]? =some y→c y x<0)
  (fun w=>w.2 - w.1) (i0,j0) ?_ ?_ (by simp only;omega) ?_
 ·obtain⟨o,h1,p,rfl,h2⟩:=key;exact⟨p,h1,h2⟩
 ·simp(disch:=omega)only[EVT,Az,simprocAttr]
 ·exact⟨h1,B7 _,B7 _,fun x y h0=>absurd rfl h0,fun x y h0=>absurd rfl h0⟩
 ·rintro⟨p,q⟩ ⟨g1,g2,g3,g4,g5⟩;simp only at g1 g2 g3 g4 g5;by_cases hpq:p<q
  ·left;have hk:(p+q) / 2<A.length:=by omega
   have hx:=B3 hk;have hk2:h - 1 - (p+q) / 2<B.length:=by omega
   have hy:=B3 hk2;generalize A[(p+q) / 2]=x at hx;generalize B[h - 1 - (p+q) / 2]=y at hy;have hsx:=hA _ x hx;have hsy:=hB _ y hy;have hPx:P x:=hP x (Cc hsx);have hPy:P y:=hP y (Cc hsy);have hc:=hC.ok y x hPy hPx;have hlt:a+(p:Int)<a+(q:Int):=by omega
   have e1:(a+(p:Int)+(a+(q:Int))) / 2=a+(((p+q) / 2:Nat):Int):=by omega
   have e2:(a+(((p+q) / 2:Nat):Int)).toNat=X.length+(p+q) / 2:=by omega
   have e3:(mid+m - 1 - (a+(((p+q) / 2:Nat):Int))).toNat=X.length+A.length+(h - 1 - (p+q) / 2):=by omega
   have hkh:(p+q) / 2<h:=by omega
   by_cases hcy:c y x<0
   ·refine⟨(p,(p+q) / 2),?_,⟨by simp only;omega,g2,by simp only;omega,g4,fun u v _ hu hv=> ?_⟩,by simp only;omega⟩
    ·simp only;generalize (p+q) / 2=k at*;simp(disch:=omega)only[Gs,hlt,Gw,hM,e1,e2,e3,hsy,hsx,hc,hcy,EVT,Az,simprocAttr]
    ·simp only at hu hv;rw[hx] at hu;injection hu with hu;subst hu;rw[hy] at hv;injection hv with hv;subst hv;exact hcy
   ·refine⟨((p+q) / 2+1,q),?_,⟨by simp only;omega,by simp only;omega,g3,fun u v _ hu hv=> ?_,g5⟩,by simp only;omega⟩
    ·have e4:a+(((p+q) / 2+1:Nat):Int)=a+(((p+q) / 2:Nat):Int)+1:=by omega
     simp only[e4];generalize (p+q) / 2=k at*;simp(disch:=omega)only[Gs,hlt,Gw,hM,e1,e2,e3,hsy,hsx,hc,hcy,EVT,Az,simprocAttr]
    ·simp only[Nq] at hu hv;rw[show h - ((p+q) / 2+1)=h - 1 - (p+q) / 2 by omega] at hv;rw[hx] at hu;injection hu with hu;subst hu;rw[hy] at hv;injection hv with hv;subst hv;exact hcy
  ·right;have e:p=q:=by omega
   subst e;have hlt:¬a+(p:Int)<a+(p:Int):=by omega
   refine⟨.yld 0 [.i .i64 (a+p)],?_,rfl,p,rfl,g2,g3,g4,g5⟩;simp(disch:=omega)only[Gs,hlt,EVT,Az,simprocAttr]
def Fp1 {le:Rec→Rec→Bool} (ht:TP le) {B:List Rec} (hB:B.Pairwise fun x y=>le x y=true) (x:Rec) (p:Nat) (hp:p≤B.length) (h1:∀y,p≠0→B[p - 1]? =some y→le x y=false) (h2:∀y,B[p]? =some y→le x y=true):mrg le [x] B=B.take p++x::B.drop p:=by have e1:=W1 ht (A:=[x]) (B:=B) (by simp) hB 0 p (fun u v h=>absurd rfl h) (fun u v h0 hu hv=>by simp at hu;subst hu;exact h1 v h0 hv) (by simp) hp;have e2:=W1 ht (A:=[x]) (B:=B.drop p) (by simp) (hB.sublist (List.drop_sublist p B)) 1 0 (fun u v _ hu hv=>by simp at hu;subst hu;rw[Ch] at hv;exact h2 v hv) (fun u v h=>absurd rfl h) (by simp) (by simp);rw[e1];simp only[List.take_zero,Gq,List.take_succ_cons,List.drop_succ_cons,Nh] at e2 ⊢;rw[e2];simp[mrg]
def Fp0 {le:Rec→Rec→Bool} (ht:TP le) {A:List Rec} (hA:A.Pairwise fun x y=>le x y=true) (x:Rec) (p:Nat) (hp:p≤A.length) (h1:∀y,p≠0→A[p - 1]? =some y→le y x=true) (h2:∀y,A[p]? =some y→le y x=false):mrg le A [x]=A.take p++x::A.drop p:=by have e1:=W1 ht (A:=A) (B:=[x]) hA (by simp) p 0 (fun u v h0 hu hv=>by simp at hv;subst hv;exact h1 u h0 hu) (fun u v h=>absurd rfl h) hp (by simp);have e2:=W1 ht (A:=A.drop p) (B:=[x]) (hA.sublist (List.drop_sublist p A)) (by simp) 0 1 (fun u v h=>absurd rfl h) (fun u v _ hu hv=>by simp at hv;subst hv;rw[Ch] at hu;exact h2 u hu) (by simp) (by simp);rw[e1];simp only[List.take_zero,Gq,List.take_succ_cons,List.drop_succ_cons,Nh] at e2 ⊢;rw[e2];simp[mrg]
set_option maxHeartbeats 2000000 in
def Mx (hC:Cmp g caps c P) (ht:TP (leC c)):∀(n:Nat) (X A B Y:List Rec) (a m b:Int),A.length+B.length≤n→A≠[]→B≠[]→(A.Pairwise fun x y=>leC c x y=true)→(B.Pairwise fun x y=>leC c x y=true)→
  a=X.length→m=a+A.length→b=m+B.length→(X++A++B++Y).length≤1000000→(∀y∈X++A++B++Y,P y)→
  S T1 1048581 [B6 (X++A++B++Y),.i .i64 a,.i .i64 m,.i .i64 b,.f g caps]=some [B6 (X++mrg (leC c) A B++Y)]
 |0,X,A,B,Y,a,m,b,hn,hA,_,_,_,_,_,_,_,_=>absurd (C5 (by omega)) hA
 |n+1,X,A,B,Y,a,m,b,hn,hA,hB,sA,sB,ha,hm,hb,hs,hP=>by
  have hA':0<A.length:=Cr.2 hA;have hB':0<B.length:=Cr.2 hB;have hs2:=hs;simp only[B0] at hs2;obtain⟨N,hN⟩:∃N,N=A.length+B.length+1:=⟨_,rfl⟩;refine Gp7 (N:=N) rfl ?_;by_cases c1:A.length=1
  ·-- one ahead
   obtain⟨x,rfl⟩:=List.length_eq_one_iff.1 c1;have hsd:X++[x]++B++Y=X++x::(B++Y):=by simp
   obtain⟨p,k1,k2,k3,k4⟩:=Iv2 hC X B Y x (X++[x]++B++Y) hsd a m b ha (by simpa using hm) hb hs hP N (by omega);have k5:=Iv1 X B Y x (X++[x]++B++Y) hsd a m b .u p ha (by simpa using hm) k2 hs N (by omega) (.i .i64 m) (.i .i64 b) (.f g caps);have e:=Fp1 ht sB x p k2 (fun y h0 hy=>Eh5.2 (k3 y h0 hy)) (fun y hy=>Eh4.2 (k4 y hy));rw[e];have q1:m - a=1:=by simp at hm;omega
   generalize X++[x]++B++Y=s at*;generalize X++(List.take p B++x::List.drop p B)++Y=u at*;simp(disch:=omega)only[Gs,q1,k1,k5,EVT,Az,simprocAttr]
  ·by_cases c2:B.length=1
   ·obtain⟨x,rfl⟩:=List.length_eq_one_iff.1 c2;have hsd:X++A++[x]++Y=X++(A++x::Y):=by simp
    obtain⟨p,k1,k2,k3,k4⟩:=Iv0 hC X A Y x (X++A++[x]++Y) hsd a m (.i .i64 b) ha hm hs hP N (by omega);have k5:=Iq9 X A Y x (X++A++[x]++Y) hsd a m p ha hm k2 hs N (by omega) (.i .i64 a) (.i .i64 b) (.f g caps);have e:=Fp0 ht sA x p k2 (fun y h0 hy=>Eh4.2 (k3 y h0 hy)) (fun y hy=>Eh5.2 (k4 y hy));rw[e];have q1:¬m - a=1:=by omega
    have q2:b - m=1:=by simp at hb;omega
    generalize X++A++[x]++Y=s at*;generalize X++(List.take p A++x::List.drop p A)++Y=u at*;simp(disch:=omega)only[Gs,q1,q2,k1,k5,EVT,Az,simprocAttr]
   ·-- two parts of more
    have q1:¬m - a=1:=by omega
    have q2:¬b - m=1:=by omega
    obtain⟨h,hh⟩:∃h,h=(A.length+B.length) / 2:=⟨_,rfl⟩;obtain⟨mid,hM⟩:∃mid,(a+b) / 2=mid:=⟨_,rfl⟩;have hmid:mid=a+h:=by omega
    obtain⟨i0,j0,hc15,h1,h2,h3,h4,hi0,hj0⟩:∃i0 j0:Nat,jb.ev S N [B6 (X++A++B++Y),.i .i64 a,.i .i64 m,.i .i64 b,.f g caps]=some (.yld 0 [.i .i64 (a+i0),.i .i64 (a+j0)])∧i0≤j0∧j0≤A.length∧j0≤h∧h≤i0+B.length∧(i0=0∨h - i0=B.length)∧(j0=h∨j0=A.length):=by
     by_cases hgt:h<A.length
     ·refine⟨h - B.length,h,?_,by omega,by omega,by omega,by omega,by omega,.inl rfl⟩;have t1:mid<m:=by omega
      have t2:mid+m - b=a+((h - B.length:Nat):Int):=by omega
      rw[←t2,←hmid];generalize X++A++B++Y=s at*;simp(disch:=omega)only[Gs,Gw,hM,t1,EVT,Az,simprocAttr]
     ·refine⟨0,A.length,?_,by omega,by omega,by omega,by omega,.inl rfl,.inr rfl⟩;have t1:¬mid<m:=by omega
      generalize X++A++B++Y=s at*;simp(disch:=omega)only[Gs,Gw,hM,t1,hm,EVT,Az,simprocAttr];simp
    have hsd:X++A++B++Y=X++(A++(B++Y)):=by simp
    obtain⟨i,k1,k2,k3,k4,k5⟩:=Iq8 hC X A B Y (X++A++B++Y) hsd a m b mid h i0 j0 ha hm hb hM hmid h1 h2 h3 h4 hs hP N (by omega);have cut:=W1 ht sA sB i (h - i) (fun x y h0 hx hy=>Eh4.2 (k4 x y (fun e=>by
      rcases hi0 with q|q
      ·omega
      ·have:=(Bp.1 hy).1;omega) hx hy)) (fun x y h0 hx hy=>Eh5.2 (k5 x y (fun e=>by
      rcases hj0 with q|q
      ·omega
      ·have:=(Bp.1 hx).1;omega) hx (by rw[show h - 1 - i=h - i - 1 by omega];exact hy))) (by omega) (by omega)
    have eA:A.take i++A.drop i=A:=C9 _ _;have eB:B.take (h - i)++B.drop (h - i)=B:=C9 _ _;have lA1:(A.take i).length=i:=by rw[Cq];omega
    have lA2:(A.drop i).length=A.length - i:=Dv;have lB1:(B.take (h - i)).length=h - i:=by rw[Cq];omega
    have lB2:(B.drop (h - i)).length=B.length - (h - i):=Dv;have sA1:=sA.sublist (List.take_sublist i A);have sA2:=sA.sublist (List.drop_sublist i A);have sB1:=sB.sublist (List.take_sublist (h - i) B);have sB2:=sB.sublist (List.drop_sublist (h - i) B);generalize A.take i=A1 at*;generalize A.drop i=A2 at*;generalize B.take (h - i)=B1 at*;generalize B.drop (h - i)=B2 at*;have e0:X++A++B++Y=X++A1++A2++B1++(B2++Y):=by rw[←eA,←eB];simp
    have mem1:∀y,y∈X++A1++B1++(A2++B2++Y)→P y:=fun y hy=>hP y (by rw[e0];simp only[C4] at hy ⊢;grind);have len1:(X++A1++B1++(A2++B2++Y)).length≤1000000:=by simp only[B0] at hs2 ⊢;omega
    have lm1:=W0 (leC c) A1 B1;have mem2:∀y,y∈(X++mrg (leC c) A1 B1)++A2++B2++Y→P y:=fun y hy=>mem1 y (by simp only[C4,mrg_mem] at hy ⊢;grind)
    have len2:((X++mrg (leC c) A1 B1)++A2++B2++Y).length≤1000000:=by simp only[B0,lm1] at hs2 ⊢;omega
    have s1:(T.blk 0 jz Rr).ev S N [B6 (X++A++B++Y),.i .i64 a,.i .i64 m,.i .i64 b,.f g caps,.i .i64 (a+i0),.i .i64 (a+j0),.i .i64 (a+i)]=
      Rr.ev S N [B6 (X++A++B++Y),.i .i64 a,.i .i64 m,.i .i64 b,.f g caps,.i .i64 (a+i0),.i .i64 (a+j0),.i .i64 (a+i),B6 (X++A1++B1++(A2++B2++Y))]:=by
     by_cases t:A2=[]∨B1=[]
     ·have t1:¬(a+(i:Int)<m∧m<mid+m - (a+i)):=by
       rcases t with t|t
       ·rw[t] at lA2;simp at lA2;omega
       ·rw[t] at lB1;simp at lB1;omega
      have e1:X++A++B++Y=X++A1++B1++(A2++B2++Y):=by rw[e0];rcases t with t|t<;>subst t<;>simp
      rw[←e1];generalize X++A++B++Y=s at*;by_cases t2:a+(i:Int)<m
      ·have t3:¬m<mid+m - (a+i):=fun q=>t1 ⟨t2,q⟩;simp(disch:=omega)only[Gs,Gw,hM,t2,t3,EVT,Az,simprocAttr]
      ·simp(disch:=omega)only[Gs,Gw,hM,t2,EVT,Az,simprocAttr]
     ·have t':A2≠[]∧B1≠[]:=by grind
      have p1:=Cr.2 t'.1;have p2:=Cr.2 t'.2;have hr:=Cq3 (X++A1) A2 B1 (B2++Y) (a+i) m (mid+m - (a+i)) g caps (by simp only[B0];omega) (by simp only[B0];omega) (by simp only[B0];omega) t'.1 t'.2 (by rw[←e0];exact hs);have t2:a+(i:Int)<m:=by omega
      have t3:m<mid+m - (a+i):=by omega
      rw[←e0] at hr;have e1:X++A1++B1++A2++(B2++Y)=X++A1++B1++(A2++B2++Y):=by simp
      rw[e1] at hr;generalize X++A1++B1++(A2++B2++Y)=s1 at*;generalize X++A++B++Y=s at*;simp(disch:=omega)only[Gs,Gw,hM,t2,t3,hr,Fb,Mq,EVT,Az,simprocAttr]
    have s2:(T.blk 0 jy Rs).ev S N [B6 (X++A++B++Y),.i .i64 a,.i .i64 m,.i .i64 b,.f g caps,.i .i64 (a+i0),.i .i64 (a+j0),.i .i64 (a+i),B6 (X++A1++B1++(A2++B2++Y))]=
      Rs.ev S N [B6 (X++A++B++Y),.i .i64 a,.i .i64 m,.i .i64 b,.f g caps,.i .i64 (a+i0),.i .i64 (a+j0),.i .i64 (a+i),B6 (X++A1++B1++(A2++B2++Y)),B6 ((X++mrg (leC c) A1 B1)++A2++B2++Y)]:=by
     by_cases t:A1=[]∨B1=[]
     ·have t1:¬(a<a+(i:Int)∧a+(i:Int)<mid):=by
       rcases t with t|t
       ·rw[t] at lA1;simp at lA1;omega
       ·rw[t] at lB1;simp at lB1;omega
      have e1:X++A1++B1++(A2++B2++Y)=(X++mrg (leC c) A1 B1)++A2++B2++Y:=by rcases t with t|t<;>subst t<;>simp[mrg,Nh]
      rw[←e1];generalize X++A1++B1++(A2++B2++Y)=s1 at*;generalize X++A++B++Y=s at*;by_cases t2:a<a+(i:Int)
      ·have t3:¬a+(i:Int)<mid:=fun q=>t1 ⟨t2,q⟩;simp(disch:=omega)only[Gs,Gw,hM,t2,t3,EVT,Az,simprocAttr]
      ·simp(disch:=omega)only[Gs,Gw,hM,t2,EVT,Az,simprocAttr]
     ·have t':A1≠[]∧B1≠[]:=by grind
      have p1:=Cr.2 t'.1;have p2:=Cr.2 t'.2;have hr:=Mx hC ht n X A1 B1 (A2++B2++Y) a (a+i) mid (by omega) t'.1 t'.2 sA1 sB1 ha (by omega) (by omega) len1 mem1;have t2:a<a+(i:Int):=by omega
      have t3:a+(i:Int)<mid:=by omega
      have e1:X++mrg (leC c) A1 B1++(A2++B2++Y)=(X++mrg (leC c) A1 B1)++A2++B2++Y:=by simp
      rw[e1] at hr;generalize (X++mrg (leC c) A1 B1)++A2++B2++Y=s2 at*;generalize X++A1++B1++(A2++B2++Y)=s1 at*;generalize X++A++B++Y=s at*;simp(disch:=omega)only[Gs,Gw,hM,t2,t3,hr,Fb,Mq,EVT,Az,simprocAttr]
    have s3:Rs.ev S N [B6 (X++A++B++Y),.i .i64 a,.i .i64 m,.i .i64 b,.f g caps,.i .i64 (a+i0),.i .i64 (a+j0),.i .i64 (a+i),B6 (X++A1++B1++(A2++B2++Y)),B6 ((X++mrg (leC c) A1 B1)++A2++B2++Y)]=
      some (.ret [B6 (X++mrg (leC c) A B++Y)]):=by
     have e9:X++mrg (leC c) A B++Y=(X++mrg (leC c) A1 B1)++mrg (leC c) A2 B2++Y:=by rw[cut];simp
     rw[e9];by_cases t:A2=[]∨B2=[]
     ·have t1:¬(mid<mid+m - (a+i)∧mid+m - (a+(i:Int))<b):=by
       rcases t with t|t
       ·rw[t] at lA2;simp at lA2;omega
       ·rw[t] at lB2;simp at lB2;omega
      have e1:(X++mrg (leC c) A1 B1)++A2++B2++Y=(X++mrg (leC c) A1 B1)++mrg (leC c) A2 B2++Y:=by rcases t with t|t<;>subst t<;>simp[mrg,Nh]
      rw[←e1];generalize (X++mrg (leC c) A1 B1)++A2++B2++Y=s2 at*;generalize X++A1++B1++(A2++B2++Y)=s1 at*;generalize X++A++B++Y=s at*;by_cases t2:mid<mid+m - (a+(i:Int))
      ·have t3:¬mid+m - (a+(i:Int))<b:=fun q=>t1 ⟨t2,q⟩;simp(disch:=omega)only[Gs,Gw,hM,t2,t3,EVT,Az,simprocAttr]
      ·simp(disch:=omega)only[Gs,Gw,hM,t2,EVT,Az,simprocAttr]
     ·have t':A2≠[]∧B2≠[]:=by grind
      have p1:=Cr.2 t'.1;have p2:=Cr.2 t'.2;have hr:=Mx hC ht n (X++mrg (leC c) A1 B1) A2 B2 Y mid (mid+m - (a+i)) b (by omega) t'.1 t'.2 sA2 sB2 (by simp only[B0,lm1];omega) (by omega) (by omega) len2 mem2;have t2:mid<mid+m - (a+(i:Int)):=by omega
      have t3:mid+m - (a+(i:Int))<b:=by omega
      generalize (X++mrg (leC c) A1 B1)++mrg (leC c) A2 B2++Y=s3 at*;generalize (X++mrg (leC c) A1 B1)++A2++B2++Y=s2 at*;generalize X++A1++B1++(A2++B2++Y)=s1 at*;generalize X++A++B++Y=s at*;simp(disch:=omega)only[Gs,Gw,hM,t2,t3,hr,Fb,Mq,EVT,Az,simprocAttr]
    have f2:Rr.ev S N [B6 (X++A++B++Y),.i .i64 a,.i .i64 m,.i .i64 b,.f g caps,.i .i64 (a+i0),.i .i64 (a+j0),.i .i64 (a+i),B6 (X++A1++B1++(A2++B2++Y))]=some (.ret [B6 (X++mrg (leC c) A B++Y)]):=s2.trans s3;have f1:=s1.trans f2;clear s1 s2 s3 f2 mem1 mem2 cut k4 k5;generalize X++mrg (leC c) A B++Y=s3 at*;generalize X++A++B++Y=s at*;simp(disch:=omega)only[Gs,q1,q2,Gw,hM,hc15,k1,f1,EVT,Az,simprocAttr]
end
end Go.X.G
/- Stable sorting: the library's functions. -/
namespace Go.X.G
open Go Go.X
section
variable {g:Nat} {caps:List PV} {c:Rec→Rec→Int} {P:Rec→Prop}
def Jq1 (hC:Cmp g caps c P) (L L':List Rec) (i:Nat) (x y:Rec) (g0:L[i]? =some y) (g1:L[i+1]? =some x) (sw:(L.set (i+1) y).set i x=L') (k e:Int) (hk:k=i+1) (he:e<k) (he2:0≤e) (hx:P x) (hy:P y) (hlt:c x y<0) (hL:L.length≤1000000) (w0 w2 w4 w5:PV) (N:Nat):
  N6.ev S N [w0,.i .i64 e,w2,.f g caps,w4,w5,.i .i64 k,B6 L]=some (.yld 3 [.i .i64 (k - 1),B6 L']):=by
 have hi:=(Bp.1 g1).1;have ti0:(k - 1).toNat=i:=by omega
 have ti1:k.toNat=i+1:=by omega
 have g2:(L.set (i+1) y)[i]? =some y:=by rw[Bn1 (by omega)];exact g0
 have hc:=hC.ok x y hx hy;simp(disch:=first|omega|(rw[I8];omega))only[Tf,Iz,N5,he,ti0,ti1,g0,g1,g2,sw,hc,hlt,EVT,Az,simprocAttr]
def Dk8 (hC:Cmp g caps c P) (L:List Rec) (i:Nat) (x y:Rec) (g0:L[i]? =some y) (g1:L[i+1]? =some x) (k e:Int) (hk:k=i+1) (he:e<k) (hx:P x) (hy:P y) (hlt:¬c x y<0) (hL:L.length≤1000000) (w0 w2 w4 w5:PV) (N:Nat):
  N6.ev S N [w0,.i .i64 e,w2,.f g caps,w4,w5,.i .i64 k,B6 L]=some (.yld 2 [B6 L]):=by
 have hi:=(Bp.1 g1).1;have ti0:(k - 1).toNat=i:=by omega
 have ti1:k.toNat=i+1:=by omega
 have hc:=hC.ok x y hx hy;simp(disch:=omega)only[Tf,Iz,N5,he,ti0,ti1,g0,g1,hc,hlt,EVT,Az,simprocAttr]
def El6 (L:List Rec) (k e:Int) (he:¬e<k) (w0 w2 w3 w4 w5:PV) (N:Nat):
  N6.ev S N [w0,.i .i64 e,w2,w3,w4,w5,.i .i64 k,B6 L]=some (.yld 2 [B6 L]):=by
 simp(disch:=omega)only[Tf,Iz,N5,he,EVT,Az,simprocAttr]
def Jq0 (hC:Cmp g caps c P) (ht:TP (leC c)) (X R Y:List Rec) (x:Rec) (hR:R.Pairwise fun a b=>leC c a b=true) (hP:∀y∈X++R++x::Y,P y) (hs:(X++R++x::Y).length≤1000000) (a k:Int) (ha:a=X.length) (hk:k=a+R.length) (w0 w2:PV) (N:Nat) (hN:R.length<N):
  ∃R1 R2,R=R1++R2∧(∀y∈R1,leC c y x=true)∧(∀y∈R2,leC c y x=false)∧
   Cs8.ev S N [w0,.i .i64 a,w2,.f g caps,.i .i64 k,B6 (X++R++x::Y)]=some (.yld 2 [B6 (X++(R1++x::R2)++Y)]):=by
 have hx:P x:=hP x (by simp);have hs2:=hs;simp only[B0,Cw] at hs2;have key:=I4 (fn:=S) (N:=N) (η:=[w0,.i .i64 a,w2,.f g caps,.i .i64 k,B6 (X++R++x::Y)]) (id:=3) (init:=[.v 4,.v 5]) (body:=N6) (α:=List Rec×List Rec)
  (fun w=>[.i .i64 (a+w.1.length),B6 (X++w.1++x::(w.2++Y))])
  (fun o=>∃R1 R2,R=R1++R2∧(∀y∈R1,leC c y x=true)∧(∀y∈R2,leC c y x=false)∧o= .yld 2 [B6 (X++(R1++x::R2)++Y)])
  (fun w=>R=w.1++w.2∧∀y∈w.2,leC c y x=false) (fun w=>w.1.length) (R,[]) ?_ ⟨by simp,by simp⟩ hN ?_
 ·obtain⟨o,h1,R1,R2,h2,h3,h4,rfl⟩:=key;exact⟨R1,R2,h2,h3,h4,h1⟩
 ·subst hk;simp only[Dp];generalize X++R++x::Y=s at*;simp(disch:=omega)only[EVT,Az,simprocAttr]
 ·rintro⟨R1,R2⟩ ⟨h1,h2⟩;simp only at h1 h2;have hlen:=congrArg List.length h1;simp only[B0] at hlen;rcases List.eq_nil_or_concat R1 with rfl|⟨R0,y,rfl⟩
  ·right;refine⟨_,El6 _ _ a (by simp) _ _ _ _ _ N,rfl,[],R2,h1,by simp,h2,?_⟩;simp
  ·rw[List.concat_eq_append] at*;simp only[B0,Cw,Cl] at hlen;have hy:P y:=hP y (by rw[h1];simp);have lP:(X++R0).length=X.length+R0.length:=B0;have g0:=sq (X++R0) (x::(R2++Y)) y;have g1:=zg (X++R0) (R2++Y) y x;rw[lP] at g0 g1;have e0:X++(R0++[y])++x::(R2++Y)=X++R0++y::x::(R2++Y):=by simp
   have lL:(X++R0++y::x::(R2++Y)).length≤1000000:=by simp only[B0,Cw];omega
   by_cases hlt:c x y<0
   ·left;have sw0:((X++R0++y::x::(R2++Y)).set (X.length+R0.length+1) y).set (X.length+R0.length) x=X++R0++x::(y::R2++Y):=by rw[←lP,List.set_comm _ _ (by omega)];exact Ff9 (X++R0) (R2++Y) y x
    refine⟨(R0,y::R2),?_,⟨by simp only;rw[h1];simp,fun w hw=> ?_⟩,by simp⟩
    ·have:=Jq1 hC _ _ (X.length+R0.length) x y g0 g1 sw0 (a+((R0++[y]).length:Nat)) a (by simp;omega) (by simp;omega) (by omega) hx hy hlt lL w0 w2 (.i .i64 k) (B6 (X++R++x::Y)) N;have e1:a+((R0++[y]).length:Nat) - 1=a+(R0.length:Int):=by simp;omega
     rw[e1] at this;show N6.ev S N [w0,.i .i64 a,w2,.f g caps,.i .i64 k,B6 (X++R++x::Y),.i .i64 (a+((R0++[y]).length:Nat)),B6 (X++(R0++[y])++x::(R2++Y))]=_;rw[e0];exact this
    ·rcases Ck.1 hw with rfl|hw
     ·exact Eh5.2 hlt
     ·exact h2 w hw
   ·right;have hle:leC c y x=true:=Eh4.2 hlt;refine⟨_,?_,rfl,R0++[y],R2,h1,xg ht (by rw[h1] at hR;exact(Gn.1 hR).1) hle,h2,rfl⟩;have:=Dk8 hC _ (X.length+R0.length) x y g0 g1 (a+((R0++[y]).length:Nat)) a (by simp;omega) (by simp;omega) hx hy hlt lL w0 w2 (.i .i64 k) (B6 (X++R++x::Y)) N;show N6.ev S N [w0,.i .i64 a,w2,.f g caps,.i .i64 k,B6 (X++R++x::Y),.i .i64 (a+((R0++[y]).length:Nat)),B6 (X++(R0++[y])++x::(R2++Y))]=_;rw[e0,this,←e0];simp
def bq (hC:Cmp g caps c P) (ht:TP (leC c)) (X A Y:List Rec) (a b:Int) (ha:a=X.length) (hb:b=a+A.length) (hP:∀y∈X++A++Y,P y) (hs:(X++A++Y).length≤1000000):
  ∃R,Stab (leC c) R A∧R.length=A.length∧S Z7 1048580 [B6 (X++A++Y),.i .i64 a,.i .i64 b,.f g caps]=some [B6 (X++R++Y)]:=by
 have hs2:=hs;simp only[B0] at hs2;cases A with
 |nil=>
  refine⟨[],U9 _,rfl,?_⟩;refine Fk1 (N:=2) rfl ?_;simp only[Cl] at hb;have h1:¬a+1<b:=by omega
  have key:zw.ev S 2 [B6 (X++[]++Y),.i .i64 a,.i .i64 b,.f g caps]=some (.yld 0 [B6 (X++[]++Y)]):=by
   generalize X++[]++Y=s at*;refine Gh 0 (fun _=>[.i .i64 (a+1),B6 s]) (fun _=> .yld 0 [B6 s]) ?_ (by omega) (fun i hi=>absurd hi (by omega)) ⟨?_,rfl⟩
   ·simp(disch:=omega)only[EVT,Az,simprocAttr]
   ·simp(disch:=omega)only[Tf,Iz,N5,h1,EVT,Az,simprocAttr]
  generalize X++[]++Y=s at*;simp(disch:=omega)only[Tf,Iz,N5,key,EVT,Az,simprocAttr]
 |cons x0 A=>
  obtain⟨N,hN⟩:∃N,N=A.length+3:=⟨_,rfl⟩;simp only[Cw] at hb hs2;have key:=I4 (fn:=S) (N:=N) (η:=[B6 (X++x0::A++Y),.i .i64 a,.i .i64 b,.f g caps]) (id:=1) (init:=[.bin .add (.v 1) (.c (.i .i64 1)),.v 0]) (body:=jl) (α:=List Rec×List Rec×List Rec)
   (fun w=>[.i .i64 (a+w.1.length),B6 (X++w.1++(w.2.2++Y))])
   (fun o=>∃R,Stab (leC c) R (x0::A)∧R.length=(x0::A).length∧o= .yld 0 [B6 (X++R++Y)])
   (fun w=>x0::A=w.2.1++w.2.2∧Stab (leC c) w.1 w.2.1∧w.1.length=w.2.1.length) (fun w=>w.2.2.length) ([x0],[x0],A) ?_ ⟨rfl,xz _ _,rfl⟩ (by simp only;omega) ?_
  ·obtain⟨o,h1,R,h2,h3,rfl⟩:=key;refine⟨R,h2,h3,?_⟩;refine Fk1 (N:=N) rfl ?_;have h4:zw.ev S N [B6 (X++x0::A++Y),.i .i64 a,.i .i64 b,.f g caps]=_:=h1;clear h1;generalize X++x0::A++Y=s at*;generalize X++R++Y=u at*;simp(disch:=omega)only[Tf,Iz,N5,h4,EVT,Az,simprocAttr]
  ·simp only[Cw,Cl];have e:X++[x0]++(A++Y)=X++x0::A++Y:=by simp
   rw[e];have e1:a+((0+1:Nat):Int)=a+1:=by omega
   rw[e1];generalize X++x0::A++Y=s at*;simp(disch:=omega)only[EVT,Az,simprocAttr]
  ·rintro⟨R,D,Z⟩ ⟨h1,h2,h3⟩;simp only at h1 h2 h3;have hlen:=congrArg List.length h1;simp only[B0,Cw] at hlen;cases Z with
   |nil=>
    right;rw[E6] at h1;subst h1;refine⟨_,?_,rfl,R,h2,h3,rfl⟩;have hlt:¬a+(R.length:Int)<b:=by simp only[Cw] at h3;omega
    simp only[Dp];generalize X++x0::A++Y=s at*;have hu:(X++R++Y).length≤1000000:=by simp only[B0];omega
    generalize X++R++Y=u at*;simp(disch:=omega)only[Tf,Iz,N5,hlt,EVT,Az,simprocAttr]
   |cons x Z=>
    left;simp only[Cw] at hlen;have hmem:∀y∈X++R++x::(Z++Y),P y:=fun y hy=>hP y (by
     rw[h1];have:=h2.mem ht y;simp only[C4,Ck] at hy ⊢
     grind)
    have hlen2:(X++R++x::(Z++Y)).length≤1000000:=by simp only[B0,Cw];omega
    obtain⟨R1,R2,rfl,k1,k2,k3⟩:=Jq0 hC ht X R (Z++Y) x h2.sorted hmem hlen2 a (a+R.length) ha rfl (B6 (X++x0::A++Y)) (.i .i64 b) N (by omega);refine⟨(R1++x::R2,D++[x],Z),?_,⟨by simp only;rw[h1];simp,Ez1 ht h2 k1 k2,by simp at h3 ⊢;omega⟩,by simp⟩;have e1:a+((R1++x::R2).length:Nat)=a+((R1++R2).length:Nat)+1:=by simp;omega
    have hlt:a+((R1++R2).length:Nat)<b:=by omega
    show jl.ev S N [B6 (X++x0::A++Y),.i .i64 a,.i .i64 b,.f g caps,.i .i64 (a+((R1++R2).length:Nat)),B6 (X++(R1++R2)++x::(Z++Y))]=some (.yld 1 [.i .i64 (a+((R1++x::R2).length:Nat)),B6 (X++(R1++x::R2)++(Z++Y))]);rw[e1];have hb2:(R1++R2).length≤1000000:=by simp only[B0] at hlen2 ⊢;omega
    generalize (R1++R2).length=n at*;generalize X++(R1++R2)++x::(Z++Y)=s1 at*;generalize X++(R1++x::R2)++(Z++Y)=s2 at*;generalize X++x0::A++Y=s at*;simp(disch:=omega)only[Tf,Iz,N5,hlt,k3,EVT,Az,simprocAttr]
end
end Go.X.G
/- Stable sorting: the Py. -/
namespace Go.X.G
open Go Go.X
def ux {α:Type} {le:α→α→Bool} (ht:TP le) {bs:Nat} {Y LY:List α} (h:Blk le bs Y LY) (hl:Y.length≤2*bs) (hb:bs<Y.length):Stab le (mrg le (Y.take bs) (Y.drop bs)) LY:=by have h1:=h.head;have h2:=(h.tail).all (by rw[Dv];omega);have:=Stab.mrg ht h1 h2;rwa[C9] at this
def Blk.pre {α:Type} {le:α→α→Bool} {bs k:Nat} {Y LY:List α} (h:Blk le bs Y LY):Blk le bs (Y.take (k*bs)) (LY.take (k*bs)):=by
 refine⟨by simp[h.len],fun j=> ?_⟩;rw[List.drop_take,List.drop_take,Bm9,Bm9];by_cases hj:j<k
 ·have e:(j+1)*bs≤k*bs:=C3 _ hj;rw[Nat.succ_mul] at e;rw[Lw (by omega)];exact h.st j
 ·have e:k*bs≤j*bs:=C3 _ (by omega);rw[show k*bs - j*bs=0 by omega,Nat.min_eq_right (by omega),List.take_zero,List.take_zero];exact U9 le
section
variable {g:Nat} {caps:List PV} {c:Rec→Rec→Int} {P:Rec→Prop}
def Iq5 (hC:Cmp g caps c P) (ht:TP (leC c)) (l:List Rec) (hP:∀y∈l,P y) (hs:l.length≤1000000) (N:Nat) (hN:l.length+2<N):
  ∃(X LX Y:List Rec) (q:Nat),Dk0.ev S N [B6 l,.i .i64 l.length,.f g caps]=some (.yld 0 [.i .i64 X.length,B6 (X++Y)])∧l=LX++Y∧X.length=q*20∧Y.length<20∧Blk (leC c) 20 X LX∧∀y∈X++Y,P y:=by
 have key:=I4 (fn:=S) (N:=N) (η:=[B6 l,.i .i64 l.length,.f g caps]) (id:=1) (init:=[.c (.i .i64 0),.c (.i .i64 20),.v 0]) (body:=Av5) (α:=List Rec×List Rec×List Rec×Nat)
  (fun w=>[.i .i64 (w.1.length:Int),.i .i64 ((w.1.length:Int)+20),B6 (w.1++w.2.2.1)])
  (fun o=>∃(X LX Y:List Rec) (q:Nat),o= .yld 0 [.i .i64 X.length,B6 (X++Y)]∧l=LX++Y∧X.length=q*20∧Y.length<20∧Blk (leC c) 20 X LX∧∀y∈X++Y,P y)
  (fun w=>l=w.2.1++w.2.2.1∧w.1.length=w.2.2.2*20∧Blk (leC c) 20 w.1 w.2.1∧∀y∈w.1++w.2.2.1,P y) (fun w=>w.2.2.1.length) ([],[],l,0) ?_ ⟨rfl,by simp,Blk.nil _ _,by simpa using hP⟩ (by simp only;omega) ?_
 ·obtain⟨o,h1,X,LX,Y,q,rfl,h2⟩:=key;exact⟨X,LX,Y,q,h1,h2⟩
 ·simp(disch:=omega)only[EVT,Az,simprocAttr]
  try simp
 ·rintro⟨X,LX,Y,q⟩ ⟨h1,h2,h3,h4⟩;simp only at h1 h2 h3 h4;have hlen:=congrArg List.length h1;simp only[B0] at hlen;have hXL:=h3.len;by_cases hge:20≤Y.length
  ·left;have eY:Y.take 20++Y.drop 20=Y:=C9 _ _;have l1:(Y.take 20).length=20:=by rw[Cq];omega
   have l2:(Y.drop 20).length=Y.length - 20:=Dv;have eXY:X++Y.take 20++Y.drop 20=X++Y:=by rw[Cy,eY]
   obtain⟨R,k1,k2,k3⟩:=bq hC ht X (Y.take 20) (Y.drop 20) (X.length:Int) ((X.length:Int)+20) rfl (by omega) (by rw[eXY];exact h4) (by rw[eXY,B0];omega);rw[eXY] at k3;refine⟨(X++R,LX++Y.take 20,Y.drop 20,q+1),?_,⟨by simp only;rw[h1,Cy,eY],by simp only[B0];omega,Blk.app h2 h3 (Blk.one k1 k2 (by omega)),fun y hy=>h4 y ?_⟩,by simp only;omega⟩
   ·have e1:((X++R).length:Int)=(X.length:Int)+20:=by simp only[B0];omega
    have hge':(X.length:Int)+20≤(l.length:Int):=by omega
    simp only;rw[e1];generalize X++R++Y.drop 20=s1 at*;generalize X++Y=s0 at*;simp(disch:=omega)only[Tg,hge',k3,Fb,Mq,EVT,Az,simprocAttr]
   ·have:=k1.mem ht y;simp only[C4] at hy;rcases hy with(hy|hy)|hy
    ·simp[hy]
    ·exact Dq _ (Eg (this.1 hy))
    ·exact Dq _ (H8 hy)
  ·right;have hge':¬(X.length:Int)+20≤(l.length:Int):=by omega
   refine⟨.yld 0 [.i .i64 X.length,B6 (X++Y)],?_,rfl,X,LX,Y,q,rfl,h1,h2,by omega,h3,h4⟩;simp only;generalize X++Y=s0 at*;simp(disch:=omega)only[Tg,hge',EVT,Az,simprocAttr]
def Iq4 (hC:Cmp g caps c P) (ht:TP (leC c)) (l r:List Rec) (bs:Nat) (hbs:0<bs) (hbs2:bs<l.length) (hr:Blk (leC c) bs r l) (hP:∀y∈r,P y) (hs:l.length≤1000000) (w0:PV) (w3 w4 w5:PV) (N:Nat) (hN:l.length+2<N):
  ∃(X LX Y LY:List Rec) (q:Nat),Cs5.ev S N [w0,.i .i64 l.length,.f g caps,w3,w4,w5,.i .i64 bs,B6 r]=some (.yld 2 [.i .i64 X.length,B6 (X++Y)])∧l=LX++LY∧X.length=q*(2*bs)∧Y.length<2*bs∧Blk (leC c) (2*bs) X LX∧Blk (leC c) bs Y LY∧∀y∈X++Y,P y:=by
 have key:=I4 (fn:=S) (N:=N) (η:=[w0,.i .i64 l.length,.f g caps,w3,w4,w5,.i .i64 bs,B6 r]) (id:=3) (init:=[.c (.i .i64 0),.bin .mul (.c (.i .i64 2)) (.v 6),.v 7]) (body:=Aq8) (α:=(List Rec×List Rec)×(List Rec×List Rec)×Nat)
  (fun w=>[.i .i64 (w.1.1.length:Int),.i .i64 ((w.1.1.length:Int)+2*bs),B6 (w.1.1++w.2.1.1)])
  (fun o=>∃(X LX Y LY:List Rec) (q:Nat),o= .yld 2 [.i .i64 X.length,B6 (X++Y)]∧l=LX++LY∧X.length=q*(2*bs)∧Y.length<2*bs∧Blk (leC c) (2*bs) X LX∧Blk (leC c) bs Y LY∧∀y∈X++Y,P y)
  (fun w=>l=w.1.2++w.2.1.2∧w.1.1.length=w.2.2*(2*bs)∧Blk (leC c) (2*bs) w.1.1 w.1.2∧Blk (leC c) bs w.2.1.1 w.2.1.2∧∀y∈w.1.1++w.2.1.1,P y) (fun w=>w.2.1.1.length) (([],[]),(r,l),0) ?_ ⟨rfl,by simp,Blk.nil _ _,hr,by simpa using hP⟩ (by have:=hr.len;simp only;omega) ?_
 ·obtain⟨o,h1,X,LX,Y,LY,q,rfl,h2⟩:=key;exact⟨X,LX,Y,LY,q,h1,h2⟩
 ·simp(disch:=omega)only[EVT,Az,simprocAttr];simp
 ·rintro⟨⟨X,LX⟩,⟨Y,LY⟩,q⟩ ⟨h1,h2,h3,h4,h5⟩;simp only at h1 h2 h3 h4 h5;have hlen:=congrArg List.length h1;simp only[B0] at hlen;have hXL:=h3.len;have hYL:=h4.len;by_cases hge:2*bs≤Y.length
  ·left;have eY:Y.take (2*bs)++Y.drop (2*bs)=Y:=C9 _ _;have l1:(Y.take (2*bs)).length=2*bs:=by rw[Cq];omega
   have l2:(Y.drop (2*bs)).length=Y.length - 2*bs:=Dv;have hp:=h4.pre (k:=2);have hz:Blk (leC c) bs (Y.drop (2*bs)) (LY.drop (2*bs)):=by have:=h4.tail.tail;rwa[D9,D9,show bs+bs=2*bs by omega] at this
   have hst:=ux ht hp (by omega) (by omega);have sA:((Y.take (2*bs)).take bs).Pairwise fun x y=>leC c x y=true:=hp.head.sorted;have sB:((Y.take (2*bs)).drop bs).Pairwise fun x y=>leC c x y=true:=(hp.tail.all (by rw[Dv];omega)).sorted;have lA:((Y.take (2*bs)).take bs).length=bs:=by rw[Cq];omega
   have lB:((Y.take (2*bs)).drop bs).length=bs:=by rw[Dv];omega
   have eAB:(Y.take (2*bs)).take bs++(Y.take (2*bs)).drop bs=Y.take (2*bs):=C9 _ _;generalize (Y.take (2*bs)).take bs=A at*;generalize (Y.take (2*bs)).drop bs=B at*;have eXY:X++A++B++Y.drop (2*bs)=X++Y:=by rw[Cy X,eAB,Cy,eY]
   have hm:=Mx hC ht (A.length+B.length) X A B (Y.drop (2*bs)) (X.length:Int) ((X.length:Int)+bs) ((X.length:Int)+2*bs) (B7 _) (by intro e;rw[e] at lA;simp at lA;omega) (by intro e;rw[e] at lB;simp at lB;omega) sA sB rfl (by omega) (by omega) (by rw[eXY,B0];omega) (by rw[eXY];exact h5);rw[eXY] at hm;have lM:=W0 (leC c) A B;have eL:LY.take (2*bs)++LY.drop (2*bs)=LY:=C9 _ _;refine⟨((X++mrg (leC c) A B,LX++LY.take (2*bs)),(Y.drop (2*bs),LY.drop (2*bs)),q+1),?_,⟨by simp only;rw[h1,Cy,eL],by simp only[B0];rw[Nat.succ_mul];omega,Blk.app h2 h3 (Blk.one hst (by rw[lM,Cq];omega) (by omega)),hz,fun y hy=>h5 y ?_⟩,by simp only;omega⟩
   ·have e1:((X++mrg (leC c) A B).length:Int)=(X.length:Int)+2*bs:=by simp only[B0];omega
    have hge':(X.length:Int)+2*(bs:Int)≤(l.length:Int):=by omega
    simp only;rw[e1];generalize X++mrg (leC c) A B++Y.drop (2*bs)=s1 at*;generalize X++Y=s0 at*;simp(disch:=omega)only[Tg,hge',hm,Fb,Mq,EVT,Az,simprocAttr]
   ·rw[←eXY];simp only[C4,mrg_mem] at hy ⊢
    grind
  ·right;have hge':¬(X.length:Int)+2*(bs:Int)≤(l.length:Int):=by omega
   refine⟨.yld 2 [.i .i64 X.length,B6 (X++Y)],?_,rfl,X,LX,Y,LY,q,rfl,h1,h2,by omega,h3,h4,h5⟩;simp only;generalize X++Y=s0 at*;simp(disch:=omega)only[Tg,hge',EVT,Az,simprocAttr]
def Iq6 (hC:Cmp g caps c P) (ht:TP (leC c)) (l r:List Rec) (bs:Nat) (hbs:0<bs) (hbs2:bs<l.length) (hr:Blk (leC c) bs r l) (hP:∀y∈r,P y) (hs:l.length≤1000000) (w0 w3 w4 w5:PV) (N:Nat) (hN:l.length+2<N):
  ∃r',Blk (leC c) (2*bs) r' l∧(∀y∈r',P y)∧jh.ev S N [w0,.i .i64 l.length,.f g caps,w3,w4,w5,.i .i64 bs,B6 r]=some (.yld 1 [.i .i64 ((2*bs:Nat):Int),B6 r']):=by
 obtain⟨X,LX,Y,LY,q,k,h1,h2,h3,h4,h5,h6⟩:=Iq4 hC ht l r bs hbs hbs2 hr hP hs w0 w3 w4 w5 N hN;have hlen:=congrArg List.length h1;simp only[B0] at hlen;have hXL:=h4.len;have hYL:=h5.len;have hlt:(bs:Int)<(l.length:Int):=by omega
 have e2:((2*bs:Nat):Int)=(bs:Int)*2:=by omega
 rw[e2];by_cases hge:bs<Y.length
 ·have eY:Y.take bs++Y.drop bs=Y:=C9 _ _;have hst:=ux ht h5 (by omega) hge;have sA:=h5.head.sorted;have sB:=(h5.tail.all (by rw[Dv];omega)).sorted;have lA:(Y.take bs).length=bs:=by rw[Cq];omega
  have lB:(Y.drop bs).length=Y.length - bs:=Dv;generalize Y.take bs=A at*;generalize Y.drop bs=B at*;have eXY:X++A++B++[]=X++Y:=by rw[E6,Cy,eY]
  have hm:=Mx hC ht (A.length+B.length) X A B [] (X.length:Int) ((X.length:Int)+bs) (l.length:Int) (B7 _) (by intro e;rw[e] at lA;simp at lA;omega) (by intro e;rw[e] at lB;simp at lB;omega) sA sB rfl (by omega) (by omega) (by rw[eXY,B0];omega) (by rw[eXY];exact h6);rw[eXY,E6] at hm;have lM:=W0 (leC c) A B;refine⟨X++mrg (leC c) A B,by rw[h1];exact Blk.app h2 h4 (Blk.one hst (by omega) (by omega)),fun y hy=>h6 y (by
   rw[←eXY];simp only[C4,mrg_mem] at hy ⊢
   grind),?_⟩
  have hge':(X.length:Int)+(bs:Int)<(l.length:Int):=by omega
  generalize X++mrg (leC c) A B=s1 at*;generalize X++Y=s0 at*;simp(disch:=omega)only[Tg,hlt,hge',k,hm,Fb,Mq,EVT,Az,simprocAttr]
 ·refine⟨X++Y,by rw[h1];exact Blk.app h2 h4 (Blk.one (h5.all (by omega)) hYL (by omega)),h6,?_⟩;have hge':¬(X.length:Int)+(bs:Int)<(l.length:Int):=by omega
  generalize X++Y=s0 at*;simp(disch:=omega)only[Tg,hlt,hge',k,EVT,Az,simprocAttr]
def Cj2 (hC:Cmp g caps c P) (ht:TP (leC c)) (l:List Rec) (hP:∀y∈l,P y) (hs:l.length≤1000000):
  ∃r,Stab (leC c) r l∧r.length=l.length∧S qc 1048579 [B6 l,.i .i64 l.length,.f g caps]=some [B6 r]:=by
 obtain⟨N,hN⟩:∃N,N=l.length+3:=⟨_,rfl⟩;obtain⟨X,LX,Y,q,k0,h1,h2,h3,h4,h5⟩:=Iq5 hC ht l hP hs N (by omega);have hlen:=congrArg List.length h1;simp only[B0] at hlen;have hXL:=h4.len;obtain⟨R,i1,i2,i3⟩:=bq hC ht X Y [] (X.length:Int) (l.length:Int) rfl (by omega) (by simpa using h5) (by simp;omega);simp only[E6] at i3;have hB:Blk (leC c) 20 (X++R) l:=by rw[h1];exact Blk.app h2 h4 (Blk.one i1 i2 (by omega))
 have hP':∀y∈X++R,P y:=fun y hy=>h5 y (by
  have:=i1.mem ht y;simp only[C4] at hy ⊢
  grind)
 have key:=I4 (fn:=S) (N:=N) (η:=[B6 l,.i .i64 l.length,.f g caps,.i .i64 X.length,B6 (X++Y),B6 (X++R)]) (id:=1) (init:=[.c (.i .i64 20),.v 5]) (body:=jh) (α:=Nat×List Rec)
  (fun w=>[.i .i64 (w.1:Int),B6 w.2])
  (fun o=>∃r,Stab (leC c) r l∧r.length=l.length∧o= .yld 0 [B6 r])
  (fun w=>0<w.1∧Blk (leC c) w.1 w.2 l∧∀y∈w.2,P y) (fun w=>l.length - w.1) (20,X++R) ?_ ⟨by simp,hB,hP'⟩ (by simp only;omega) ?_
 ·obtain⟨o,k1,r,k2,k3,rfl⟩:=key;refine⟨r,k2,k3,?_⟩;refine Gt4 (N:=N) rfl ?_;have k4:Ct0.ev S N [B6 l,.i .i64 l.length,.f g caps,.i .i64 X.length,B6 (X++Y),B6 (X++R)]=_:=k1;clear k1;generalize X++Y=s0 at*;generalize X++R=s1 at*;simp(disch:=omega)only[Tg,k0,i3,k4,Fb,Mq,EVT,Az,simprocAttr]
 ·generalize X++Y=s0 at*;generalize X++R=s1 at*;simp(disch:=omega)only[EVT,Az,simprocAttr]
 ·rintro⟨bs,r⟩ ⟨g1,g2,g3⟩;simp only at g1 g2 g3;have hr:=g2.len;by_cases hlt:bs<l.length
  ·left;obtain⟨r',k1,k2,k3⟩:=Iq6 hC ht l r bs g1 hlt g2 g3 hs (B6 l) (.i .i64 X.length) (B6 (X++Y)) (B6 (X++R)) N (by omega);exact⟨(2*bs,r'),k3,⟨by simp only;omega,k1,k2⟩,by simp only;omega⟩
  ·right;have hlt':¬(bs:Int)<(l.length:Int):=by omega
   refine⟨.yld 0 [B6 r],?_,rfl,r,g2.all (by omega),hr,rfl⟩;generalize X++Y=s0 at*;generalize X++R=s1 at*;simp(disch:=omega)only[Tg,hlt',EVT,Az,simprocAttr]
def R5 (hC:Cmp g caps c P) (ht:TP (leC c)) (l:List Rec) (hP:∀y∈l,P y) (hs:l.length≤1000000):
  ∃r,Stab (leC c) r l∧r.length=l.length∧S Cm6 1048578 [B6 l,.f g caps]=some [B6 r]:=by
 obtain⟨r,h1,h2,h3⟩:=Cj2 hC ht l hP hs;refine⟨r,h1,h2,?_⟩;refine Iz4 (N:=1) rfl ?_;simp(disch:=omega)only[Ht0,h3,Fb,Mq,EVT,Az,simprocAttr]
end
end Go.X.G
/- Records compacted: the library's function. -/
namespace Go.X.G
open Go Go.X
def Aw8 (l:List Rec) (g:Nat) (caps:List PV) (eq2:Rec→Rec→Bool) (h:∀x∈l,∀y∈l,S g 2 (x.pv::y.pv::caps)=some [.b (eq2 x y)]) (hl:l.length≤1000000):S Cm5 1048578 [B6 l,.f g caps]=some [B6 (cpt eq2 l)]:=by
 refine Iz2 (N:=l.length+2) rfl ?_;by_cases h2:(l.length:Int)<2
 ·have e:cpt eq2 l=l:=by
   match l,h2 with
   |[],_=>rfl
   |[x],_=>rfl
   |_::_::_,h=>simp at h;omega
  rw[e];simp(disch:=omega)only[dv,h2,EVT,Az,simprocAttr]
 ·-- the inner Ht, from a place where two neighbours are equal
  have inner:∀k:Nat,1≤k→k<l.length→cpt eq2 (l.take (k+1))=l.take k→∃s:List Rec,s.length=l.length∧s.take (cpt eq2 l).length=cpt eq2 l∧Fq5.ev S (l.length+2) [B6 l,.f g caps,.i .i64 (k:Int),B6 l,.b true]=some (.yld 2 [.i .i64 ((cpt eq2 l).length:Int),B6 s]):=by
   intro k hk1 hk hcp;have key:=I4 (fn:=S) (N:=l.length+2) (η:=[B6 l,.f g caps,.i .i64 (k:Int),B6 l,.b true]) (id:=3) (init:=[(.v 2),(.c (.i .i64 (1))),(.v 3)]) (body:=Dg4) (α:=Nat×Nat×List Rec)
    (fun a=>[.i .i64 (a.1:Int),.i .i64 (a.2.1:Int),B6 a.2.2])
    (fun o=>∃s:List Rec,s.length=l.length∧s.take (cpt eq2 l).length=cpt eq2 l∧o= .yld 2 [.i .i64 ((cpt eq2 l).length:Int),B6 s])
    (fun a=>1≤a.2.1∧k+a.2.1≤l.length∧a.1<k+a.2.1∧a.2.2.length=l.length∧a.2.2.take a.1=cpt eq2 (l.take (k+a.2.1))∧(cpt eq2 (l.take (k+a.2.1))).length=a.1∧a.2.2.drop (k+a.2.1 - 1)=l.drop (k+a.2.1 - 1))
    (fun a=>l.length - a.2.1) (k,1,l) (by simp(disch:=omega)only[EVT,Az,simprocAttr])
    ⟨by simp,by simp;omega,by simp,rfl,by simp only;rw[hcp],by simp only;rw[hcp,Cq];omega,rfl⟩ (by simp only;omega) ?_
   ·obtain⟨o,h3,s,h4,h5,rfl⟩:=key;exact⟨s,h4,h5,h3⟩
   ·rintro⟨i,j,s⟩ ⟨a1,a2,a3,a4,a5,a6,a7⟩;simp only at a1 a2 a3 a4 a5 a6 a7;by_cases hj:k+j<l.length
    ·left;have c1:s[k+j]? =l[k+j]? :=by have:=congrArg (fun q=>q[1]?) a7;simp only[Ch] at this;rwa[show k+j - 1+1=k+j by omega] at this
     have c0:s[k+j - 1]? =l[k+j - 1]? :=by have:=congrArg (fun q=>q[0]?) a7;simpa only[Ch,E1] using this
     have g1:l[k+j]? =some (l[k+j]'hj):=B3 hj;have g0:l[k+j - 1]? =some (l[k+j - 1]'(by omega)):=B3 (by omega);have tk:l.take (k+(j+1))=l.take (k+j)++[l[k+j]'hj]:=by rw[show k+(j+1)=(k+j)+1 by omega,Dm,g1];rfl
     have ne:l.take (k+j)≠[]:=by intro h;have:=congrArg List.length h;rw[Cq,Cl] at this;omega
     have gl:(l.take (k+j)).getLast ne=l[k+j - 1]'(by omega):=by rw[K2];simp only[Ax1,Cq];congr 1;omega
     have cs:=O0 eq2 (l[k+j]'hj) (l.take (k+j)) ne;rw[←tk,gl] at cs;have hc:=h (l[k+j]'hj) (Em _) (l[k+j - 1]'(by omega)) (Em _);generalize l[k+j]'hj=x at*;generalize l[k+j - 1]'(by omega)=y at*;have hjj:(j:Int)<(s.length:Int) - (k:Int):=by omega
     have i1:Hy 16 (B6 s) (.i .i64 ((k:Int)+(j:Int)))=some x.pv:=by rw[K8 _ _ _ (by omega),show ((k:Int)+(j:Int)).toNat=k+j by omega,c1,g1];rfl
     have i0:Hy 16 (B6 s) (.i .i64 ((k:Int)+((j:Int) - 1)))=some y.pv:=by rw[K8 _ _ _ (by omega),show ((k:Int)+((j:Int) - 1)).toNat=k+j - 1 by omega,c0,g0];rfl
     have ls:Ix 16 (B6 s) (.i .i64 (k:Int)) (.i .i64 (s.length:Int))=some (B6 (s.drop k)):=by rw[Hm _ _ _ _ _ (by omega) (by omega) (by omega)];simp
     have e1:(s.drop k)[j]? =some x:=by rw[Ch,c1,g1]
     have e0:(s.drop k)[j - 1]? =some y:=by rw[Ch,show k+(j - 1)=k+j - 1 by omega,c0,g0]
     have si:∃w,s[i]? =some w:=⟨_,B3 (by omega)⟩;obtain⟨w,si⟩:=si;have ej:((j:Int) - 1).toNat=j - 1:=by omega
     by_cases hxy:eq2 x y=true
     ·refine⟨(i,j+1,s),?_,⟨by simp,by simp only;omega,by simp only;omega,a4,?_,?_,?_⟩,by simp only;omega⟩
      ·simp(disch:=omega)only[dv,hjj,i1,i0,ls,e1,e0,ej,hc,hxy,EVT,Az,simprocAttr]
      ·simp only;rw[cs,a5];simp[hxy]
      ·simp only;rw[cs,B0,a6];simp[hxy]
      ·simp only;rw[show k+(j+1) - 1=(k+j - 1)+1 by omega,←D9,←D9,a7]
     ·refine⟨(i+1,j+1,s.set i x),?_,⟨by simp,by simp only;omega,by simp only;omega,by simpa using a4,?_,?_,?_⟩,by simp only;omega⟩
      ·simp(disch:=omega)only[dv,hjj,i1,i0,ls,e1,e0,ej,si,hc,hxy,EVT,Az,simprocAttr]
      ·simp only;rw[cs,Dm,List.getElem?_set_self (by omega),List.take_set_of_le (by omega),a5];simp[hxy]
      ·simp only;rw[cs,B0,a6];simp[hxy]
      ·simp only;rw[show k+(j+1) - 1=(k+j - 1)+1 by omega,U4 (by omega),←D9,←D9,a7]
    ·right;have ek:k+j=l.length:=by omega
     rw[ek,Ex] at a5 a6;have hjj:¬(j:Int)<(s.length:Int) - (k:Int):=by omega
     refine⟨.yld 2 [.i .i64 (i:Int),B6 s],?_,rfl,s,a4,by rw[a6];exact a5,by rw[a6]⟩;simp(disch:=omega)only[dv,hjj,EVT,Az,simprocAttr]
  have key:Fw0.ev S (l.length+2) [B6 l,.f g caps]=some (if cpt eq2 l=l then .yld 0 [B6 l] else .ret [B6 (cpt eq2 l)]):=by
   have:=I4 (fn:=S) (N:=l.length+2) (η:=[B6 l,.f g caps]) (id:=1) (init:=[(.c (.i .i64 (1))),(.v 0)]) (body:=Dg7) (α:=Nat)
    (fun k=>[.i .i64 (k:Int),B6 l]) (fun o=>o=if cpt eq2 l=l then .yld 0 [B6 l] else .ret [B6 (cpt eq2 l)])
    (fun k=>1≤k∧k≤l.length∧cpt eq2 (l.take k)=l.take k) (fun k=>l.length - k) 1 (by simp(disch:=omega)only[EVT,Az,simprocAttr])
    ⟨B7 1,by omega,by cases l with
     |nil=>simp at h2
     |cons x r=>rfl⟩ (by omega) ?_
   ·obtain⟨o,h3,h4⟩:=this;rw[←h4];exact h3
   ·rintro k ⟨k1,k2,k3⟩;by_cases hk:k<l.length
    ·have g1:l[k]? =some l[k]:=B3 hk;have g0:l[k - 1]? =some (l[k - 1]'(by omega)):=B3 (by omega);have tk:l.take (k+1)=l.take k++[l[k]]:=by rw[Dm,g1];rfl
     have ne:l.take k≠[]:=by intro h;have:=congrArg List.length h;rw[Cq,Cl] at this;omega
     have gl:(l.take k).getLast ne=l[k - 1]'(by omega):=by rw[K2];simp only[Ax1,Cq];congr 1;omega
     have cs:=O0 eq2 l[k] (l.take k) ne;rw[←tk,gl,k3] at cs;have hkk:(k:Int)<(l.length:Int):=by omega
     have i1:Hy 16 (B6 l) (.i .i64 (k:Int))=some (l[k]).pv:=by rw[K8 _ _ _ (by omega),show ((k:Int)).toNat=k by omega,g1];rfl
     have i0:Hy 16 (B6 l) (.i .i64 ((k:Int) - 1))=some (l[k - 1]'(by omega)).pv:=by rw[K8 _ _ _ (by omega),show ((k:Int) - 1).toNat=k - 1 by omega,g0];rfl
     have hc:=h l[k] (Em _) (l[k - 1]'(by omega)) (Em _);by_cases hxy:eq2 l[k] (l[k - 1]'(by omega))=true
     ·right;have cs':cpt eq2 (l.take (k+1))=l.take k:=by rw[cs];simp[hxy]
      obtain⟨s,s1,s2,s3⟩:=inner k k1 hk cs';have hlt:cpt eq2 l≠l:=by
       intro h;have q:(cpt eq2 l).length≤(cpt eq2 (l.take (k+1))).length+(l.drop (k+1)).length:=by
        have:∀(b a:List Rec),a≠[]→(cpt eq2 (a++b)).length≤(cpt eq2 a).length+b.length:=by
         intro b
         induction b with
         |nil=>intro a _;simp
         |cons x r ih=>
          intro a ha;have h1:=ih (a++[x]) (by simp);rw[O0 _ _ _ ha] at h1;rw[show a++x::r=a++[x]++r by simp];refine Dy h1 ?_;rw[B0];split<;>simp<;>omega
        have h3:=this (l.drop (k+1)) (l.take (k+1)) (by intro h;have:=congrArg List.length h;rw[Cq,Cl] at this;omega);rwa[C9] at h3
       rw[h,cs',Cq,Dv] at q;omega
      have hlen:=i7 eq2 l;refine⟨.ret [B6 (cpt eq2 l)],?_,rfl,by rw[if_neg hlt]⟩;generalize cpt eq2 l=fl at*;have ls:Ix 16 (B6 l) (.i .i64 (k:Int)) (.i .i64 (l.length:Int))=some (B6 (l.drop k)):=by rw[Hm _ _ _ _ _ (by omega) (by omega) (by omega)];simp
      have hsl1:Ix 16 (B6 s) (.i .i64 ((fl.length:Nat):Int)) (.i .i64 (s.length:Int))=some (B6 (s.drop fl.length)):=by rw[Hm _ _ _ _ _ (by omega) (by omega) (by omega)];simp
      have hsl2:Ix 16 (B6 s) (.i .i64 0) (.i .i64 ((fl.length:Nat):Int))=some (B6 fl):=by rw[Hm _ _ _ _ _ (by omega) (by omega) (by omega)];simp[s2]
      have hrep:Lg 16 (.i .i64 ((s.length:Int) - (fl.length:Int))) Ax3=some (B6 (List.replicate (s.length - fl.length) zr)):=by rw[Ah0 _ (by omega) (by omega)];congr 3;omega
      have happ:Ip 16 (B6 fl) (B6 (List.replicate (s.length - fl.length) zr))=some (B6 (fl++List.replicate (s.length - fl.length) zr)):=Ic _ _ (by simp;omega);have hsl3:Ix 16 (B6 (fl++List.replicate (s.length - fl.length) zr)) (.i .i64 0) (.i .i64 ((fl.length:Nat):Int))=some (B6 fl):=by rw[Hm _ _ _ _ _ (by omega) (by omega) (by simp;omega)];simp
      simp(disch:=omega)only[dv,hkk,i1,i0,hc,hxy,ls,s3,hsl1,hsl2,hrep,happ,hsl3,EVT,Az,simprocAttr]
     ·left;refine⟨k+1,?_,⟨by omega,by omega,?_⟩,by omega⟩
      ·simp(disch:=omega)only[dv,hkk,i1,i0,hc,hxy,EVT,Az,simprocAttr]
      ·rw[cs,tk];simp[hxy]
    ·right;have e:k=l.length:=by omega
     subst e;rw[Ex] at k3;refine⟨_,?_,?_,rfl⟩
     ·rw[if_pos k3];simp(disch:=omega)only[dv,EVT,Az,simprocAttr]
     ·rw[if_pos k3];rfl
  by_cases hh:cpt eq2 l=l
  ·rw[if_pos hh] at key;rw[hh];simp(disch:=omega)only[dv,h2,key,EVT,Az,simprocAttr]
  ·rw[if_neg hh] at key;simp(disch:=omega)only[dv,h2,key,EVT,Az,simprocAttr]
end Go.X.G
/- Lists of records in the program: which are valid, their order, their sorting. -/
namespace Go.X.G
open Go Go.X
def Dh8 (r:Rec) (h:r.wf):S Cp3 1 [r.pv]=some [.b (Sz r)]:=by
 refine If3 (N:=1) rfl ?_;have g:r.name.length≤9223372036854775807:=h.name;have h1:=Dx r.name g;have h2:=Ev r.typ;have h3:=Zm r.typ r.data h.data;unfold Sz;by_cases k0:0≤r.ttl<;>by_cases k1:r.ttl≤2147483647
 all_goals rcases ch3 (vld r.name) (knw r.typ) (F9 r.typ r.data) with e0|⟨e0,e1⟩|⟨e0,e1,e2⟩|⟨e0,e1,e2⟩
 all_goals simp only[*] at h1 h2 h3
 all_goals simp(disch:=omega)only[Ij2,g7,G0,h1,h2,h3,EVC,xe,EVP,EV,simprocAttr, *]
 all_goals simp
def Fc1 (x:Int):S Z6 1 [.i .i64 x]=some [.b false]:=by refine Gp6 (N:=1) rfl ?_;simp(disch:=omega)only[Gd1,Ab,simprocAttr]
def Dl8 (a b:Int):S ah 2 [.i .i64 a,.i .i64 b]=some [.i .i64 (Ap6 a b)]:=by
 refine Gt3 (N:=1) rfl ?_;have h1:=Fc1 a;have h2:=Fc1 b;unfold Ap6;by_cases k1:a<b
 ·simp(disch:=omega)only[Br8,h1,h2,k1,Ab,simprocAttr]
 ·by_cases k2:b<a
  ·simp(disch:=omega)only[Br8,h1,h2,k1,k2,Ab,simprocAttr]
  ·simp(disch:=omega)only[Br8,h1,h2,k1,k2,Ab,simprocAttr]
def Ah3 (a b:Rec) (ha:a.wf) (hb:b.wf):S Bb5 2 [a.pv,b.pv]=some [.i .i64 (Yv a b)]:=by
 refine Iz0 (N:=1) rfl ?_;have g1:a.name.length≤9223372036854775807:=ha.name;have g2:b.name.length≤9223372036854775807:=hb.name;have h1:=X8 a.name b.name g1 g2;have h2:=Dl8 a.typ b.typ;have h3:=Aw7 a.typ a.data b.data ha.data hb.data;unfold Yv;by_cases k1:Ld a.name b.name=0
 ·by_cases k2:Ap6 a.typ b.typ=0
  ·rw[k1] at h1;rw[k2] at h2;simp(disch:=omega)only[Fc7,g7,G0,h1,h2,h3,Ab,simprocAttr];simp[k1,k2]
  ·rw[k1] at h1;simp(disch:=omega)only[Fc7,h1,h2,k2,Ab,simprocAttr];simp[k1,k2]
 ·simp(disch:=omega)only[Fc7,h1,k1,Ab,simprocAttr]
def Aw4 (a b:Rec) (ha:a.wf) (hb:b.wf):S Bb7 2 [a.pv,b.pv]=some [.i .i64 (Gq8 a b)]:=by
 refine Iz3 (N:=1) rfl ?_;have h1:=Ah3 a b ha hb;have h2:=Dl8 a.ttl b.ttl;unfold Gq8;by_cases k1:Yv a b=0
 ·rw[k1] at h1;simp(disch:=omega)only[Gb9,h1,h2,Ab,simprocAttr];simp[k1]
 ·simp(disch:=omega)only[Gb9,h1,k1,Ab,simprocAttr]
def Hl8:Cmp Bb7 [] Gq8 Rec.wf:=⟨fun x y hx hy=>Aw4 x y hx hy⟩
def Eh6:leC Gq8=leR:=rfl
def Et3 (a b:Rec) (ha:a.wf) (hb:b.wf):S Bb6 2 [a.pv,b.pv]=some [.b (eqF a b)]:=by refine Iz1 (N:=1) rfl ?_;have h1:=Ah3 a b ha hb;simp(disch:=omega)only[Hs9,h1,Ab,simprocAttr]
def Et2 (l:List Rec) (hw:∀r∈l,r.wf) (hl:l.length≤1000000):S Cp1 1 [B6 l]=some [B6 (sortR l)]:=by refine If1 (N:=1) rfl ?_;have h0:=Oq l hl;obtain⟨r,h1,h2,h3⟩:=R5 Hl8 (by rw[Eh6];exact Hn4) l hw hl;rw[Eh6] at h1;have hm:=h1.mem Hn4;have h4:=Aw8 r Bb6 [] eqF (fun x hx y hy=>Et3 x y (hw x ((hm x).1 hx)) (hw y ((hm y).1 hy))) (by omega);rw[Ag4 h1] at h4;simp(disch:=omega)only[Ij1,h0,h3,h4,Fb,Mq,EVT,Az,simprocAttr]
end Go.X.G
/- Delegations and names of a zone, as the program finds them. -/
namespace Go.X.G
open Go Go.X
def Gq3 {z:Zone} {n b:List UInt8} {c:Rec} (hI:b=[]∨under n b=true):(if(Et z c && under n c.name && (decide (b=[])||decide ((lbl c.name).length<(lbl b).length)))=true then c.name else b)=[]∨under n (if(Et z c && under n c.name && (decide (b=[])||decide ((lbl c.name).length<(lbl b).length)))=true then c.name else b)=true:=by
 split
 ·rename_i h;simp only[Br] at h;exact .inr h.1.2
 ·exact hI
def Bn6 (z:Zone) (n:List UInt8) (hz:z.wf) (hl:z.recs.length≤1000000) (hn:n.length≤9223372036854775807):S Bc8 2 [z.pv,.s n]=some [.s (cutN z n),.b (decide (cutN z n≠[]))]:=by
 refine Id6 (N:=z.recs.length+1) rfl ?_;have g1:=hz.origin;unfold Hv at g1;have key:Fx4.ev S (z.recs.length+1) [z.pv,.s n]=some (.yld 0 [.s (wj z n [] z.recs)]):=by
  refine Fc z.recs (fun i (b:List UInt8)=>[.s b,.i .i64 (i:Int)]) (fun i b r=> .yld 0 [.s (wj z n b r)]) (fun i b=>b=[]∨under n b=true) [] rfl (.inl rfl) (by omega) (fun i b c r hd hi hc hI=> ?_) (fun b hI=> ?_)
  ·left;have g2:=(hz.recs.2 c (Cc hc)).name;unfold Hv at g2;refine⟨if Et z c && under n c.name && (decide (b=[])||decide ((lbl c.name).length<(lbl b).length)) then c.name else b,?_,Gq3 hI,rfl⟩;by_cases h1:c.typ=2
   ·by_cases h2:c.name=z.origin
    ·simp(disch:=omega)only[dx,hc,h1,h2,Az,simprocAttr];simp[Et,F8,h2]
    ·have k1:=Ep c.name z.origin g2 g1;have k2:=Ep n c.name hn g2;rcases Bm (under c.name z.origin) with h3|h3
     ·rcases Bm (under n c.name) with h4|h4
      ·by_cases h5:b=[]
       ·rw[h3] at k1;rw[h4] at k2;simp(disch:=omega)only[dx,hc,h1,h2,h3,h4,h5,k1,k2,Az,simprocAttr];simp[Et,F8,h1,h2,h3,h4,h5]
       ·have hb:=hI.resolve_left h5;have e:=Dh7 h4 hb;rw[h3] at k1;rw[h4] at k2;by_cases h6:c.name.length<b.length
        ·have h7:=e.1 h6;have h8:(c.name.length:Int)<(b.length:Int):=by omega
         simp(disch:=omega)only[dx,hc,h1,h2,h3,h4,h5,h8,k1,k2,Az,simprocAttr];simp[Et,F8,h1,h2,h3,h4,h5,h7]
        ·have h7:¬(lbl c.name).length<(lbl b).length:=fun q=>h6 (e.2 q);have h8:¬(c.name.length:Int)<(b.length:Int):=by omega
         simp(disch:=omega)only[dx,hc,h1,h2,h3,h4,h5,h8,k1,k2,Az,simprocAttr];simp[Et,F8,h1,h2,h3,h4,h5,h7]
      ·rw[h3] at k1;rw[h4] at k2;simp(disch:=omega)only[dx,hc,h1,h2,h3,h4,k1,k2,Az,simprocAttr];simp[Et,F8,h1,h2,h3,h4]
     ·rw[h3] at k1;simp(disch:=omega)only[dx,hc,h1,h2,h3,k1,Az,simprocAttr];simp[Et,F8,h1,h2,h3]
   ·simp(disch:=omega)only[dx,hc,h1,Az,simprocAttr];simp[Et,h1]
  ·simp(disch:=omega)only[dx,Az,simprocAttr];simp[wj,Out.goes]
 rw[show wj z n [] z.recs=cutN z n from rfl] at key;simp(disch:=omega)only[dx,key,Az,simprocAttr]
 try simp
def cutsN (z:Zone):List (List UInt8):=setN ((z.recs.filter (Et z)).map Rec.name)
def tg (z:Zone) (x:List UInt8):x∈cutsN z↔∃r∈z.recs,Et z r=true∧r.name=x:=by unfold cutsN;rw[Oc,E2];simp only[C0,and_assoc]
def Ez8 {l:List (List UInt8)} (h:∀x∈l,x.length≤9223372036854775807):∀x∈setN l,x.length≤9223372036854775807:=fun x hx=>h x ((Oc l x).1 hx)
def Dn3 (z:Zone) (hz:z.wf) (hl:z.recs.length≤1000000):S pp 1 [z.pv]=some [Cs (cutsN z)]:=by
 refine Gs4 (N:=z.recs.length+1) rfl ?_;have g1:=hz.origin;unfold Hv at g1;have key:Dj8.ev S (z.recs.length+1) [z.pv]=some (.yld 0 [Cs ([]++(z.recs.filter (Et z)).map Rec.name)]):=by
  refine Fc z.recs (fun i (b:List (List UInt8))=>[Cs b,.i .i64 (i:Int)]) (fun i b r=> .yld 0 [Cs (b++(r.filter (Et z)).map Rec.name)]) (fun i b=>b.length≤i) [] rfl (Dr _) (by omega) (fun i b c r hd hi hc hI=> ?_) (fun b hI=> ?_)
  ·left;have g2:=(hz.recs.2 c (Cc hc)).name;unfold Hv at g2;refine⟨if Et z c then b++[c.name] else b,?_,by split<;>(try rw[B0,Fj])<;>omega,by rcases Bm (Et z c) with q|q<;>simp[q]⟩;by_cases h1:c.typ=2
   ·by_cases h2:c.name=z.origin
    ·simp(disch:=omega)only[Zv,hc,h1,h2,Az,simprocAttr];simp[Et,F8,h2]
    ·have k1:=Ep c.name z.origin g2 g1;rcases Bm (under c.name z.origin) with h3|h3
     ·rw[h3] at k1;simp(disch:=omega)only[Zv,hc,h1,h2,h3,k1,Az,simprocAttr];simp[Et,F8,h1,h2,h3]
     ·rw[h3] at k1;simp(disch:=omega)only[Zv,hc,h1,h2,h3,k1,Az,simprocAttr];simp[Et,F8,h1,h2,h3]
   ·simp(disch:=omega)only[Zv,hc,h1,Az,simprocAttr];simp[Et,h1]
  ·simp(disch:=omega)only[Zv,Az,simprocAttr];simp[Out.goes]
 rw[Dp] at key;have hlen:((z.recs.filter (Et z)).map Rec.name).length≤1000000:=by rw[E5];exact Dy (D1 _ _) hl
 have hw:∀x∈(z.recs.filter (Et z)).map Rec.name,x.length≤9223372036854775807:=fun x hx=>by obtain⟨r,hr,rfl⟩:=E2.1 hx;exact(hz.recs.2 r (C0.1 hr).1).name
 have k1:=j6 _ hlen hw;have k2:=P9 (((z.recs.filter (Et z)).map Rec.name).mergeSort fun x y=> !decide (Ld y x<0)) (by rw[wq];exact hlen);rw[show cpt eqs (((z.recs.filter (Et z)).map Rec.name).mergeSort fun x y=> !decide (Ld y x<0))=cutsN z from rfl] at k2;generalize ((z.recs.filter (Et z)).map Rec.name).mergeSort (fun x y=> !decide (Ld y x<0))=so at*;generalize (z.recs.filter (Et z)).map Rec.name=un at*;simp(disch:=omega)only[Zv,key,k1,k2,Fb,Mq,Az,simprocAttr]
def Cv7 (l:List Rec) (hl:l.length≤1000000) (hw:∀r∈l,r.wf):S pg 1 [B6 l]=some [Cs (setN (l.map Rec.name))]:=by
 refine Gs3 (N:=l.length+1) rfl ?_;have key:Dj7.ev S (l.length+1) [B6 l]=some (.yld 0 [Cs ([]++l.map Rec.name)]):=by
  refine Fc l (fun i (b:List (List UInt8))=>[Cs b,.i .i64 (i:Int)]) (fun i b r=> .yld 0 [Cs (b++r.map Rec.name)]) (fun i b=>b.length≤i) [] rfl (Dr _) (by omega) (fun i b c r hd hi hc hI=> ?_) (fun b hI=> ?_)
  ·left;refine⟨b++[c.name],?_,by simp;omega,by simp⟩;simp(disch:=omega)only[Br6,hc,Az,simprocAttr]
  ·simp(disch:=omega)only[Br6,Az,simprocAttr];simp[Out.goes]
 rw[Dp] at key;have hlen:(l.map Rec.name).length≤1000000:=by rw[E5];exact hl
 have hw:∀x∈l.map Rec.name,x.length≤9223372036854775807:=fun x hx=>by obtain⟨r,hr,rfl⟩:=E2.1 hx;exact(hw r hr).name
 have k1:=j6 _ hlen hw;have k2:=P9 ((l.map Rec.name).mergeSort fun x y=> !decide (Ld y x<0)) (by rw[wq];exact hlen);rw[show cpt eqs ((l.map Rec.name).mergeSort fun x y=> !decide (Ld y x<0))=setN (l.map Rec.name) from rfl] at k2;generalize setN (l.map Rec.name)=se at*;generalize (l.map Rec.name).mergeSort (fun x y=> !decide (Ld y x<0))=so at*;generalize l.map Rec.name=un at*;simp(disch:=omega)only[Br6,key,k1,k2,Fb,Mq,Az,simprocAttr]
def Dl2 (c owner:List UInt8) (hc:c.length≤9223372036854775807) (ho:owner.length≤9223372036854775807):S az 1 [.s c,.s owner]=some [.b (decide (c≠owner) && under owner c)]:=by
 refine Gs2 (N:=1) rfl ?_;have k1:=Ep owner c ho hc;by_cases h:c=owner
 ·simp(disch:=omega)only[Fj2,h,Az,simprocAttr];simp
 ·simp(disch:=omega)only[Fj2,h,k1,Az,simprocAttr];simp
def Bn5 (z:Zone) (acc:List (List UInt8)) (n:List UInt8) (p1 p2 p3 p4 p5 p6:PV) (N:Nat) (hu:under n z.origin=true) (ha:acc.length≤1000000) (hN:1000<N) (hp2:Hy 1 p2 p4=some (.s n)):
  Cs6.ev S N [z.pv,p1,p2,Cs acc,p4,p5,p6]=some (.yld 2 [Cs (acc++upN z.origin n)]):=by
 obtain⟨v1,v2,_⟩:=C8.1 hu;have hlb:=Kl n;have h0:jn ((lbl n).drop 0)=n:=zc v1;have e0:upN z.origin n=(upN z.origin n).take ((lbl n).length - (lbl z.origin).length+1):=by rw[Ef];simp[upN]
 have:=Gh (fn:=S) (N:=N) (η:=[z.pv,p1,p2,Cs acc,p4,p5,p6]) (id:=3) (init:=[(.v 3),(.proj 0 (.idx 1 (.v 2) (.v 4)))]) (body:=Dg3) ((lbl n).length - (lbl z.origin).length) (fun k=>[Cs (acc++(upN z.origin n).take k),.s (jn ((lbl n).drop k))])
  (fun _=> .yld 2 [Cs (acc++upN z.origin n)]) ?_ (by omega) (fun k hk=> ?_) ?_
 ·exact this
 ·rw[h0];simp(disch:=omega)only[hp2,Az,simprocAttr];simp
 ·left;obtain⟨q1,q2⟩:=Bs3 hu hk;have q3:¬jn ((lbl n).drop k)=z.origin:=fun h=>by have:=(Zy hu (Nat.le_of_lt hk)).1 h;omega
  have q4:=Am6 v1 k;have k1:=Tb (jn ((lbl n).drop k)) (by omega);rw[q1,q2] at k1;have q5:(upN z.origin n).take (k+1)=(upN z.origin n).take k++[jn ((lbl n).drop k)]:=by rw[Dm,Sb (Nat.le_of_lt hk)];rfl
  rw[q5,←Cy];have q6:(acc++(upN z.origin n).take k).length≤1000300:=by rw[B0,Cq];omega
  generalize acc++(upN z.origin n).take k=a at*;refine⟨?_,rfl⟩;generalize jn ((lbl n).drop (k+1))=nx at*;generalize jn ((lbl n).drop k)=cu at*;simp(disch:=omega)only[wh,q3,k1,Az,simprocAttr]
 ·have q3:=(Zy hu (B7 _)).2 rfl;have q5:(upN z.origin n)=(upN z.origin n).take ((lbl n).length - (lbl z.origin).length)++[jn ((lbl n).drop ((lbl n).length - (lbl z.origin).length))]:=by have:=Dm (l:=upN z.origin n) (i:=(lbl n).length - (lbl z.origin).length);rw[Sb (B7 _)] at this;rw[←e0] at this;exact this
  rw[q3] at q5 ⊢;have q6:(acc++(upN z.origin n).take ((lbl n).length - (lbl z.origin).length)).length≤1000300:=by rw[B0,Cq];omega
  refine⟨?_,rfl⟩
  conv=>rhs;rw[q5,←Cy]
  generalize acc++(upN z.origin n).take ((lbl n).length - (lbl z.origin).length)=a at*;simp(disch:=omega)only[wh,Az,simprocAttr]
def Er1 (z:Zone) (owner:List UInt8):((cutsN z).any fun c=>decide (c≠owner) && under owner c)=Sj z owner:=by
 rw[D6];unfold Sj;simp only[Db,Br,decide_eq_true_eq,tg];constructor
 ·rintro⟨x,⟨r,hr,h1,rfl⟩,h2,h3⟩;exact⟨r,hr,⟨h1,h2⟩,h3⟩
 ·rintro⟨r,hr,⟨h1,h2⟩,h3⟩;exact⟨r.name,⟨r,hr,h1,rfl⟩,h2,h3⟩
def J0 (z:Zone) (n:List UInt8):Bool:=under n z.origin && !Sj z n
def lv (z:Zone) (hz:z.wf) (hl:z.recs.length≤1000):S Bb2 1 [z.pv]=some [Cs (namesN z)]:=by
 refine Iy1 (N:=z.recs.length+1001) rfl ?_;have g1:=hz.origin;unfold Hv at g1;have k1:=Dn3 z hz (by omega);have k2:=Cv7 z.recs (by omega) (fun r hr=>hz.recs.2 r hr);have hol:(setN (z.recs.map Rec.name)).length≤z.recs.length:=by have:=dr (z.recs.map Rec.name);rwa[E5] at this
 have how:∀x∈setN (z.recs.map Rec.name),x.length≤9223372036854775807:=Ez8 fun x hx=>by obtain⟨r,hr,rfl⟩:=E2.1 hx;exact(hz.recs.2 r hr).name
 have hcl:(cutsN z).length≤1000000:=by have:=dr ((z.recs.filter (Et z)).map Rec.name);rw[E5] at this;have h2:=D1 (Et z) z.recs;show (setN ((z.recs.filter (Et z)).map Rec.name)).length≤1000000;omega
 have hcw:∀x∈cutsN z,x.length≤9223372036854775807:=fun x hx=>by obtain⟨r,hr,_,rfl⟩:=(tg z x).1 hx;exact(hz.recs.2 r hr).name
 have hmem:∀x,x∈((setN (z.recs.map Rec.name)).filter (J0 z)).flatMap (upN z.origin)↔Fy1 z x:=by
  intro x;unfold Fy1 J0;simp only[List.mem_flatMap,C0,Oc,E2,Br,Cm];constructor
  ·rintro⟨o,⟨⟨r,hr,rfl⟩,h1,h2⟩,h3⟩;obtain⟨h4,h5⟩:=(Pb h1).1 h3;exact⟨r,hr,h1,h2,h4,h5⟩
  ·rintro⟨r,hr,h1,h2,h4,h5⟩;exact⟨r.name,⟨⟨r,hr,rfl⟩,h1,h2⟩,(Pb h1).2 ⟨h4,h5⟩⟩
 generalize hO:setN (z.recs.map Rec.name)=O at*;have key:Fv7.ev S (z.recs.length+1001) [z.pv,Cs (cutsN z),Cs O]=some (.yld 0 [Cs ([]++(O.filter (J0 z)).flatMap (upN z.origin))]):=by
  refine Fc O (fun i (b:List (List UInt8))=>[Cs b,.i .i64 (i:Int)]) (fun i b r=> .yld 0 [Cs (b++(r.filter (J0 z)).flatMap (upN z.origin))]) (fun i b=>b.length≤256*i) [] rfl (Dr _) (by omega) (fun i b c r hd hi hc hI=> ?_) (fun b hI=> ?_)
  ·left;have g2:=how c (Cc hc);have k3:=Ep c z.origin g2 g1;have hid:=Er1 z c;rcases Bm (under c z.origin) with h1|h1
   ·have k4:=M5 (cutsN z) az [.s c] _ hcl (fun x hx=>Dl2 x c (hcw x hx) g2);rw[hid] at k4;rw[h1] at k3;rcases Bm (Sj z c) with h2|h2
    ·refine⟨b,?_,by omega,by simp[J0,h1,h2]⟩;rw[h2] at k4;generalize cutsN z=cz at*;simp(disch:=omega)only[wh,hc,k3,k4,Az,simprocAttr]
    ·have hu:=w6 z.origin c;refine⟨b++upN z.origin c,?_,by rw[B0];omega,by simp[J0,h1,h2]⟩;rw[h2] at k4;have k5:∀p5 p6,Cs6.ev S (z.recs.length+1001) [z.pv,Cs (cutsN z),Cs O,Cs b,.i .i64 (i:Int),p5,p6]=some (.yld 2 [Cs (b++upN z.origin c)]):=fun p5 p6=>Bn5 z b c _ _ (Cs b) _ p5 p6 _ h1 (by omega) (by omega) (by rw[On _ _ _ (by omega)];simp[hc]);generalize b++upN z.origin c=b' at*;generalize cutsN z=cz at*;simp(disch:=omega)only[wh,hc,k3,k4,k5,Az,simprocAttr]
   ·refine⟨b,?_,by omega,by simp[J0,h1]⟩;rw[h1] at k3;generalize cutsN z=cz at*;simp(disch:=omega)only[wh,hc,k3,Az,simprocAttr]
  ·generalize cutsN z=cz at*;simp(disch:=omega)only[wh,Az,simprocAttr];simp[Out.goes]
 rw[Dp] at key;have hxl:((O.filter (J0 z)).flatMap (upN z.origin)).length≤256*O.length:=by
  have:∀l:List (List UInt8),(l.flatMap (upN z.origin)).length≤256*l.length:=by
   intro l
   induction l with
   |nil=>simp
   |cons x r ih=>
    have:=w6 z.origin x;rw[Hk,B0,Cw];omega
  refine Dy (this _) ?_;have:=D1 (J0 z) O;omega
 have hxw:∀x∈(O.filter (J0 z)).flatMap (upN z.origin),x.length≤9223372036854775807:=fun x hx=>by obtain⟨r,hr,_,_,h4,_⟩:=(hmem x).1 hx;have:=Js (C8.1 h4).2.1;omega
 have he:setN ((O.filter (J0 z)).flatMap (upN z.origin))=namesN z:=Eg1 z _ hmem;generalize (O.filter (J0 z)).flatMap (upN z.origin)=un at*;have k6:=j6 un (by omega) hxw;have k7:=P9 (un.mergeSort fun x y=> !decide (Ld y x<0)) (by rw[wq];omega);rw[show cpt eqs (un.mergeSort fun x y=> !decide (Ld y x<0))=setN un from rfl,he] at k7;generalize un.mergeSort (fun x y=> !decide (Ld y x<0))=so at*;generalize namesN z=nz at*;generalize cutsN z=cz at*;simp(disch:=omega)only[wh,k1,k2,key,k6,k7,Fb,Mq,Az,simprocAttr]
end Go.X.G
/- Zones in the program: what is asked of the records of one name. -/
namespace Go.X.G
open Go Go.X
abbrev ltC:List UInt8×Int→List UInt8×Int→Prop:=fun p q=>ltB p.1 q.1∨(p.1=q.1∧p.2<q.2)
def to_C:TO ltC:=Dm3.prod Gh1
def ltQ (a b:Ques):Prop:=ltC (a.name,a.typ) (b.name,b.typ)
def to_Q:TO ltQ where
 irr:=fun a=>to_C.irr _
 tr:=fun a b c=>to_C.tr _ _ _
 tri:=fun a b=>by
  rcases to_C.tri (a.name,a.typ) (b.name,b.typ) with h|h|h
  ·exact .inl h
  ·injection h with h1 h2;refine .inr (.inl ?_);cases a;cases b;simp only at h1 h2;rw[h1,h2]
  ·exact .inr (.inr h)
def Aj9 (a b:Ques):Int:=if(Op.bytesLess a.name b.name||(decide (a.name=b.name) && decide (a.typ<b.typ)))=true then -1 else if a=b then 0 else 1
def Ib (a b:Ques):Aj9 a b<0↔ltQ a b:=by
 unfold Aj9 ltQ ltC;simp only;have e:(Op.bytesLess a.name b.name||(decide (a.name=b.name) && decide (a.typ<b.typ)))=true↔(ltB a.name b.name∨a.name=b.name∧a.typ<b.typ):=by simp only[Cj,Br,decide_eq_true_eq,X3]
 by_cases h:ltB a.name b.name∨a.name=b.name∧a.typ<b.typ
 ·rw[if_pos (e.2 h)];simp[h]
 ·rw[if_neg (fun q=>h (e.1 q))];simp only[h,iff_false];split<;>omega
def Aj7 (a b:Ques):S Yp 2 [a.pv,b.pv]=some [.i .i64 (Aj9 a b)]:=by
 refine Iz6 (N:=1) rfl ?_;unfold Aj9;rcases Bm (Op.bytesLess a.name b.name) with h1|h1
 ·simp(disch:=omega)only[Bp4,h1,Az,simprocAttr];simp
 ·by_cases h2:a.name=b.name
  ·by_cases h3:a.typ<b.typ
   ·rw[h2] at h1;simp(disch:=omega)only[Bp4,h1,h2,h3,Az,simprocAttr];simp
   ·rw[h2] at h1;by_cases h4:a=b
    ·simp(disch:=omega)only[Bp4,h1,h2,h3,Az,simprocAttr];simp[h4]
    ·simp(disch:=omega)only[Bp4,h1,h2,h3,h4,Az,simprocAttr];simp[h4]
  ·have h4:¬a=b:=fun e=>h2 (by rw[e]);simp(disch:=omega)only[Bp4,h1,h2,h4,Az,simprocAttr];simp[h4]
def J5 (l:List Ques):PV:= .l 2 (l.map Ques.pv)
def J9 (l:List Ques):G8 (J5 l)=some (.i .i64 (l.length:Int)):=by simp[J5,G8]
def Mh (l:List Ques) (k:IntKind) (z:Int) (h:0≤z):Hy 2 (J5 l) (.i k z)=(l[z.toNat]?).map Ques.pv:=by simp[J5,Xj _ _ _ _ h]
def Eg8 (x:Ques):Lz 2 [x.pv]=some (J5 [x]):=rfl
def Dh4 (l:List Ques) (x:Ques) (h:l.length+1≤1073741824):Ip 2 (J5 l) (J5 [x])=some (J5 (l++[x])):=by have:=X6 2 (l.map Ques.pv) [x.pv] (by simpa using h);simpa [J5] using this
def Ah2:PV→PV→Int
 | .a [.s a,.i _ t],.a [.s b,.i _ u]=>Aj9 ⟨a,t⟩ ⟨b,u⟩
 |_,_=>0
def Et1 (l:List Ques) (hl:l.length≤1000000):S ym 1048578 [J5 l,.f Yp []]=some [J5 (l.mergeSort fun x y=> !decide (Aj9 y x<0))]:=by
 have hm:∀x∈l.map Ques.pv,∃a∈l,x=a.pv:=fun x hx=>by obtain⟨a,h1,h2⟩:=E2.1 hx;exact⟨a,h1,h2.symm⟩
 have hc:∀a b:Ques,Ah2 a.pv b.pv=Aj9 a b:=fun a b=>rfl;have h:=Ag5 (tab:=tab) (xs:=Ft2) (ss:=Yz) (f:=ym) (s:=Fj9) Gh9 Gl5 (g:=Yp) (caps:=[]) (l:=l.map Ques.pv) (by decide) (by simp;omega)
  (fun x hx=>by obtain⟨a,_,rfl⟩:=hm x hx;rfl) Ah2
  (fun x hx y hy=>by obtain⟨a,ha,rfl⟩:=hm x hx;obtain⟨b,hb,rfl⟩:=hm y hy;exact Aj7 a b)
  (fun x hx=>by obtain⟨a,_,rfl⟩:=hm x hx;rw[hc,Ib];exact to_Q.irr a)
  (fun x hx y hy z hz h1 h2=>by obtain⟨a,_,rfl⟩:=hm x hx;obtain⟨b,_,rfl⟩:=hm y hy;obtain⟨c,_,rfl⟩:=hm z hz;rw[hc] at*;exact(Ib a c).2 (to_Q.tr _ _ _ ((Ib a b).1 h1) ((Ib b c).1 h2)))
  (fun x hx y hy z hz h1 h2=>by obtain⟨a,_,rfl⟩:=hm x hx;obtain⟨b,_,rfl⟩:=hm y hy;obtain⟨c,_,rfl⟩:=hm z hz;rw[hc] at*;exact fun h3=>to_Q.ntr (fun q=>h1 ((Ib a b).2 q)) (fun q=>h2 ((Ib b c).2 q)) ((Ib a c).1 h3))
  (fun x hx y hy h1 h2=>by
   obtain⟨a,_,rfl⟩:=hm x hx;obtain⟨b,_,rfl⟩:=hm y hy;rw[hc] at*;rcases to_Q.tri a b with q|q|q
   ·exact absurd ((Ib a b).2 q) h1
   ·rw[q]
   ·exact absurd ((Ib b a).2 q) h2)
 have e:(l.map Ques.pv).mergeSort (fun x y=> !decide (Ah2 y x<0))=(l.mergeSort fun x y=> !decide (Aj9 y x<0)).map Ques.pv:=(Hr2 (r:=fun x y=> !decide (Aj9 y x<0)) (s:=fun x y=> !decide (Ah2 y x<0)) (f:=Ques.pv) fun a _ b _=>rfl).symm;rw[e] at h;exact h
def d6 (p:Option Ques) (n:Nat):List Ques→Bool
 |[]=>false
 |k::r=>if 64<(if p=some k then n+1 else 1) then true else d6 (some k) (if p=some k then n+1 else 1) r
def d5:∀(l:List Ques) (p:Ques) (n:Nat),(p::l).Pairwise (fun a b=>¬ltQ b a)→n≤64→(d6 (some p) n l=true↔(∃k,k≠p∧64<l.count k)∨64<n+l.count p)
 |[],p,n,_,hn=>by simp[d6];omega
 |k::r,p,n,hs,hn=>by
  obtain⟨h1,h2⟩:=Cf.1 hs;by_cases e:p=k
  ·subst e;by_cases hg:64<n+1
   ·simp only[d6,if_true,hg];refine⟨fun _=> .inr ?_,fun _=>trivial⟩;rw[H9];omega
   ·simp only[d6,if_true,hg,if_false];rw[d5 r p (n+1) h2 (by omega),H9];constructor
    ·rintro (⟨q,q1,q2⟩|q)
     ·exact .inl ⟨q,q1,by rw[Hd (fun e=>q1 e.symm)];exact q2⟩
     ·exact .inr (by omega)
    ·rintro (⟨q,q1,q2⟩|q)
     ·exact .inl ⟨q,q1,by rw[Hd (fun e=>q1 e.symm)] at q2;exact q2⟩
     ·exact .inr (by omega)
  ·have e':¬(some p=some k):=fun q=>e (by injection q);simp only[d6,if_neg e',show¬64<1 by omega,if_false];rw[d5 r k 1 h2 (by omega)];have hlt:ltQ p k:=by
    rcases to_Q.tri p k with q|q|q
    ·exact q
    ·exact absurd q e
    ·exact absurd q (h1 k (.head _))
   have hno:∀y∈k::r,y≠p:=fun y hy q=>by
    subst q;rcases Ck.1 hy with q|hy
    ·exact e q
    ·exact(Cf.1 h2).1 y hy hlt
   have h0:(k::r).count p=0:=Hr3.2 fun hm=>hno p hm rfl;have h0r:r.count p=0:=Hr3.2 fun hm=>hno p (.tail _ hm) rfl;rw[h0];constructor
   ·rintro (⟨q,q1,q2⟩|q)
    ·refine .inl ⟨q,fun w=>by rw[w,h0r] at q2;omega,?_⟩;rw[Hd (fun w=>q1 w.symm)];exact q2
    ·refine .inl ⟨k,fun w=>e w.symm,?_⟩;rw[H9];omega
   ·rintro (⟨q,q1,q2⟩|q)
    ·by_cases w:q=k
     ·subst w;rw[H9] at q2;exact .inr (by omega)
     ·rw[Hd (fun v=>w v.symm)] at q2;exact .inl ⟨q,w,q2⟩
    ·omega
def Eb2 (l:List Ques) (hs:l.Pairwise (fun a b=>¬ltQ b a)):d6 none 0 l=true↔∃k,64<l.count k:=by
 cases l with
 |nil=>simp[d6]
 |cons k r=>
  have e:¬((none:Option Ques)=some k):=by simp
  simp only[d6,if_neg e,show¬64<1 by omega,if_false];rw[d5 r k 1 hs (by omega)];constructor
  ·rintro (⟨q,q1,q2⟩|q)
   ·exact⟨q,by rw[Hd (fun w=>q1 w.symm)];exact q2⟩
   ·exact⟨k,by rw[H9];omega⟩
  ·rintro⟨q,q2⟩;by_cases w:q=k
   ·subst w;rw[H9] at q2;exact .inr (by omega)
   ·rw[Hd (fun v=>w v.symm)] at q2;exact .inl ⟨q,w,q2⟩
def kyQ (r:Rec):Ques:=⟨r.name,r.typ⟩
def Uk (l:List Rec):Bool:=d6 none 0 ((l.map kyQ).mergeSort fun x y=> !decide (Aj9 y x<0))
def i9 (n:List UInt8) (t:Int):∀l:List Rec,(l.map kyQ).count ⟨n,t⟩=(findR l n t).length
 |[]=>rfl
 |r::l=>by
  have ih:=i9 n t l;unfold findR at ih ⊢;rw[G1,M7];by_cases h:isK n t r=true
  ·rw[if_pos h];unfold isK at h;simp only[Br,decide_eq_true_eq] at h;have:kyQ r=⟨n,t⟩:=by unfold kyQ;rw[h.1,h.2]
   rw[this,H9,ih,Cw]
  ·rw[if_neg h];have:kyQ r≠⟨n,t⟩:=fun e=>h (by unfold kyQ at e;injection e with e1 e2;unfold isK;simp[e1,e2])
   rw[Hd this,ih]
def Fn8 (l:List Ques):(l.mergeSort fun x y=> !decide (Aj9 y x<0)).Pairwise (fun a b=>¬ltQ b a):=by
 have:=List.pairwise_mergeSort (le:=fun x y:Ques=> !decide (Aj9 y x<0)) (fun a b c h1 h2=>by
  simp only[Cm,decide_eq_false_iff_not,Ib] at h1 h2 ⊢;exact to_Q.ntr h2 h1) (fun a b=>by
  simp only[Cj,Cm,decide_eq_false_iff_not,Ib];rcases to_Q.tri a b with h|h|h
  ·exact .inl (to_Q.asym h)
  ·subst h;exact .inl (to_Q.irr a)
  ·exact .inr (to_Q.asym h)) l
 refine this.imp fun {a b} h=> ?_;simpa only[Cm,decide_eq_false_iff_not,Ib] using h
def Bg6 (l:List Rec):Uk l= !(l.all fun r=>decide ((findR l r.name r.typ).length≤64)):=by
 rw[D6];unfold Uk;rw[Eb2 _ (Fn8 _)];have hc:∀k,((l.map kyQ).mergeSort fun x y=> !decide (Aj9 y x<0)).count k=(l.map kyQ).count k:=fun k=>(List.mergeSort_perm _ _).count_eq k;simp only[hc,Cm,List.all_eq_false,decide_eq_true_eq];constructor
 ·rintro⟨⟨n,t⟩,h⟩;rw[i9] at h;have hp:0<(findR l n t).length:=by omega
  obtain⟨x,hx⟩:=List.length_pos_iff_exists_mem.1 hp;obtain⟨h3,h4⟩:=C0.1 hx;unfold isK at h4;simp only[Br,decide_eq_true_eq] at h4;exact⟨x,h3,by rw[h4.1,h4.2];omega⟩
 ·rintro⟨r,h1,h2⟩;exact⟨kyQ r,by show 64<(l.map kyQ).count ⟨r.name,r.typ⟩;rw[i9];omega⟩
def Bg5 (l:List Rec) (hl:l.length≤1000000):S Cp5 1 [B6 l]=some [.b (Uk l)]:=by
 obtain⟨N,hN⟩:∃N,N=l.length+1:=⟨_,rfl⟩;refine If6 (N:=N) rfl ?_;have k0:Fx7.ev S N [B6 l]=some (.yld 0 [J5 (l.map kyQ)]):=by
  refine F2 l (fun i=>[J5 ((l.take i).map kyQ),.i .i64 (i:Int)]) (fun i r=> .yld 0 [J5 (l.map kyQ)]) rfl (by omega) (fun i c r hd hi hc=> ?_) ?_
  ·left;refine⟨?_,rfl⟩;have e:(l.take (i+1)).map kyQ=(l.take i).map kyQ++[kyQ c]:=by rw[Dm,hc];simp
   have hsub:Jt 0 2 c.pv=some (kyQ c).pv:=rfl;have hlen:((l.take i).map kyQ).length≤1000000:=by rw[E5,Cq];omega
   rw[e];generalize (l.take i).map kyQ=a at*;simp(disch:=omega)only[dy,hc,hsub,Eg8,Dh4,J9,Mh,Az,simprocAttr]
  ·refine⟨?_,rfl⟩;have e:l.take l.length=l:=Ex;simp(disch:=omega)only[dy,e,J9,Mh,Az,simprocAttr]
 have hs:=Et1 (l.map kyQ) (by simpa using hl);have hlen:((l.map kyQ).mergeSort fun x y=> !decide (Aj9 y x<0)).length=l.length:=by simp
 unfold Uk;generalize ((l.map kyQ).mergeSort fun x y=> !decide (Aj9 y x<0))=ks at*;have k1:Fq9.ev S N [B6 l,J5 (l.map kyQ),J5 ks]=some (if d6 none 0 ks=true then .ret [.b true] else .yld 0 []):=by
  refine Fc ks (fun i (g:Nat)=>[.i .i64 (g:Int),.i .i64 (i:Int)]) (fun i g r=>if d6 (if i=0 then none else ks[i - 1]?) g r=true then .ret [.b true] else .yld 0 []) (fun i g=>g≤64) 0 ?_ (by omega) (by omega) (fun i g c r hd hi hc hg=> ?_) (fun g hg=> ?_)
  ·simp(disch:=omega)only[Ab,simprocAttr]
  ·have hp:(if i=0 then none else ks[i - 1]?)=some c↔(0<i∧ks[i - 1]? =some c):=by
    by_cases h:i=0
    ·simp[h]
    ·simp[h];omega
   have hci:(if i+1=0 then none else ks[i+1 - 1]?)=some c:=by rw[if_neg (by omega),Nq,hc]
   have hsub:Jt 0 2 c.pv=some c.pv:=rfl;have eqq:∀x:Ques,M9 false true [.s,(.i .i64)] x.pv c.pv=some (.b (decide (x=c))):=fun x=>Jx0 false x c;by_cases hsame:0<i∧ks[i - 1]? =some c
   ·have hp':=hp.2 hsame;have hi0:(0:Int)<(i:Int):=by omega
    have ei:((i:Int) - 1).toNat=i - 1:=by omega
    have ei2:(i:Int).toNat=i:=by omega
    by_cases hgt:64<g+1
    ·right;have hgt':(64:Int)<(g:Int)+1:=by omega
     have er:d6 (if i=0 then none else ks[i - 1]?) g (c::r)=true:=by rw[hp'];simp[d6,hgt]
     rw[er];refine⟨?_,rfl⟩;simp(disch:=omega)only[dy,hc,hsame.2,hi0,ei,ei2,hgt',J9,Mh,Az,simprocAttr]
    ·left;have hgt':¬(64:Int)<(g:Int)+1:=by omega
     refine⟨g+1,?_,by omega,?_⟩
     ·simp(disch:=omega)only[dy,hc,hsame.2,hi0,ei,ei2,hgt',J9,Mh,Az,simprocAttr]
     ·rw[hp',hci];simp[d6,hgt]
   ·left;have hp':¬(if i=0 then none else ks[i - 1]?)=some c:=fun q=>hsame (hp.1 q);have ei:((i:Int) - 1).toNat=i - 1:=by omega
    have ei2:(i:Int).toNat=i:=by omega
    refine⟨1,?_,by omega,?_⟩
    ·by_cases hi0:0<i
     ·have hi0':(0:Int)<(i:Int):=by omega
      obtain⟨y,hy⟩:∃y,ks[i - 1]? =some y:=⟨_,B3 (by omega)⟩;have hyc:¬y=c:=fun q=>hsame ⟨hi0,by rw[hy,q]⟩;simp(disch:=omega)only[dy,hc,hy,hyc,hi0',ei,ei2,J9,Mh,Az,simprocAttr]
     ·have hi0':¬(0:Int)<(i:Int):=by omega
      simp(disch:=omega)only[dy,hc,hi0',ei2,J9,Mh,Az,simprocAttr]
    ·rw[hci];simp[d6,hp']
  ·refine⟨?_,by simp[d6,Out.goes]⟩;have hlt:¬(ks.length:Int)<(ks.length:Int):=by omega
   simp(disch:=omega)only[dy,hlt,J9,Mh,Az,simprocAttr];simp[d6]
 have hrep:∃p,Lg 2 (.i .i64 (l.length:Int)) (Ques.pv ⟨[],0⟩)=some p:=by
  have h1:(l.length:Int)≤(LIM:Int):=by simp only[LIM];omega
  have h2:(Ques.pv ⟨[],0⟩).cells.length=2:=rfl;simp[Lg,h1,h2]
 obtain⟨p,hrep⟩:=hrep;rcases Bm (d6 none 0 ks) with h|h
 ·rw[h,if_pos rfl] at k1;rw[h];simp(disch:=omega)only[dy,hrep,k0,hs,k1,J9,Fb,Mq,Az,simprocAttr]
 ·rw[h,if_neg (by simp)] at k1;rw[h];simp(disch:=omega)only[dy,hrep,k0,hs,k1,J9,Fb,Mq,Az,simprocAttr]
end Go.X.G
