/- Rows of records that are turned in place: the library's functions. -/
import Derived.Test.YteiaijjlmnacpaaGreatDoorZoneBreaksG11
import Derived.Test.YteiaijjlmnacpaaGreatDoorZoneBreaksG9
open Bool renaming eq_false_or_eq_true→Aq,and_eq_true→Av,false_eq_true→Ad,or_eq_true→Ap,not_eq_true'→A8,eq_iff_iff→Ct,not_eq_false→Ex
open Classical renaming not_not→I7
open List renaming getElem?_eq_some_iff→Aw,getElem?_eq_getElem→Az,length_append→Ab,mem_cons→Am,length_take→An,append_assoc→As,length_cons→A0,pairwise_cons→A3,getElem?_append_right→A5,getElem?_drop→A7,getElem?_append_left→A9,mem_of_getElem?→Bq,all_eq_true→Bw,eq_nil_of_length_eq_zero→Bb,mem_append→Bc,length_pos_iff→Bd,length_nil→Bf,mem_filter→Bh,mem_append_right→Br,take_append_drop→Bs,mem_append_left→B3,length_drop→B6,cons_append→B7,any_eq_true→Ck,nil_append→Cq,take_add_one→Cc,drop_eq_getElem_cons→Cd,length_filter_le→C2,take_length→C4,take_of_length_le→C5,drop_drop→C7,filter_append→Dq,append_nil→Dd,getElem_mem→Dt,mem_map→D6,getElem?_cons_succ→D8,flatMap_cons→Ew,filter_eq_nil_iff→Ed,drop_zero→Eh,pairwise_append→Fj,mem_of_mem_take→Fv,count_cons_of_ne→F1,map_cons→F3,length_map→F8,count_cons_self→Gb,length_set→Hw,mem_of_mem_drop→Ih,getLast_eq_getElem→I5,filter_cons→Kh,drop_of_length_le→Vt,set_append_right→fk,length_singleton→fq,length_mergeSort→fx,getElem_take→nk,take_take→Ac7,getElem?_set_ne→Ac8,drop_set_of_lt→Ff7,map_mergeSort→Hs2,findIdx?_cons→Hs3,count_eq_zero→Hs4
open Nat renaming le_refl→Af,mul_le_mul_right→By,add_mul→B9,zero_le→C6,le_trans→C9,add_zero→Dy,min_eq_left→M5,add_sub_cancel→Vs,sub_self→Dw2,add_comm→Dw4
set_option maxHeartbeats 1000000
set_option linter.unusedVariables false
set_option linter.unusedSimpArgs false
namespace Go.X.G
open Go Go.X
theorem Y8 (s:List Rec) (a b n:Nat) (g:Nat) (caps:List PV) (h1:a+n≤b) (h2:b+n≤s.length) (hs:s.length≤1000000):S Pp 1048581 [Al s, .i .i64 (a:Int), .i .i64 (b:Int), .i .i64 (n:Int), .f g caps]=some [Al (swapR s a b n)]:=by
 refine Gs2 (N:=n+1) rfl ?_;have key:Bc2.ev S (n+1) [Al s, .i .i64 (a:Int), .i .i64 (b:Int), .i .i64 (n:Int), .f g caps]=some (.yld 0 [Al (swapR s a b n)]):=by
  refine Gp n (fun i=>[.i .i64 (i:Int),Al (swapR s a b i)]) (fun _=> .yld 0 [Al (swapR s a b n)]) (by simp (disch:=omega) only [swapR,EVT,EVM,EVC,xe,EVP,EV,simprocAttr]) (by omega) (fun i hi=> ?_) ?_
  ·left;refine ⟨?_,rfl⟩;have hl:=Nv s a b i;have ga:=Nw s a b i (a+i) (by omega) (by omega);have gb:=Nw s a b i (b+i) (by omega) (by omega);rw [if_neg (by omega),if_neg (by omega)] at ga gb;have ha:s[a+i]? =some s[a+i]:=Az (by omega);have hb:s[b+i]? =some s[b+i]:=Az (by omega);rw [ha] at ga;rw [hb] at gb;have e:swapR s a b (i+1)=((swapR s a b i).set (a+i) s[b+i]).set (b+i) s[a+i]:=by
    conv=>lhs;unfold swapR
    rw [ha,hb]
   rw [e];generalize s[a+i]=x at*;generalize s[b+i]=y at*;generalize swapR s a b i=t at*;have ti1:((a:Int)+(i:Int)).toNat=a+i:=by omega
   have ti2:((b:Int)+(i:Int)).toNat=b+i:=by omega
   have g3:(t.set (a+i) y)[b+i]? =some y:=by rw [Ac8 (by omega)];exact gb
   have hlt:(t.set (a+i) y).length=s.length:=by rw [Hw,hl]
   simp (disch:=first|omega|(rw [Hw];omega)) only [Af1,ti1,ti2,ga,gb,g3,EVT,EVM,EVC,xe,EVP,EV,simprocAttr]
  ·refine ⟨?_,rfl⟩;simp (disch:=omega) only [Af1,EVT,EVM,EVC,xe,EVP,EV,simprocAttr]
 simp (disch:=omega) only [Af1,key,EVT,EVM,EVC,xe,EVP,EV,simprocAttr]
end Go.X.G
/- Rotations: the library's function. -/
namespace Go.X.G
open Go Go.X
theorem J2 (X A M B Y:List Rec) (a b n:Int) (g:Nat) (caps:List PV) (ha:a=X.length) (hb:b=X.length+A.length+M.length) (hn:n=A.length) (h:A.length=B.length) (hs:(X++A++M++B++Y).length≤1000000):S Pp 1048581 [Al (X++A++M++B++Y), .i .i64 a, .i .i64 b, .i .i64 n, .f g caps]=some [Al (X++B++M++A++Y)]:=by subst ha;subst hn;have h1:=Y8 (X++A++M++B++Y) X.length (X.length+A.length+M.length) A.length g caps (by omega) (by simp only [Ab];omega) hs;rw [Ah5 X A M B Y h] at h1;rw [hb];simpa using h1
theorem Am5 (X A B Y:List Rec) (a m b:Int) (g:Nat) (caps:List PV) (ha:a=X.length) (hm:m=X.length+A.length) (hb:b=X.length+A.length+B.length) (hA:A≠[]) (hB:B≠[]) (hs:(X++A++B++Y).length≤1000000):
  S ah 1048581 [Al (X++A++B++Y), .i .i64 a, .i .i64 m, .i .i64 b, .f g caps]=some [Al (X++B++A++Y)]:=by
 have hA':0<A.length:=Bd.2 hA;have hB':0<B.length:=Bd.2 hB;have hs2:=hs;simp only [Ab] at hs2;refine Gt0 (N:=(X++A++B++Y).length+1) rfl ?_;have key:=G5 (fn:=S) (N:=(X++A++B++Y).length+1) (η:=[Al (X++A++B++Y), .i .i64 a, .i .i64 m, .i .i64 b, .f g caps]) (id:=1) (init:=[.bin .sub (.v 2) (.v 1), .bin .sub (.v 3) (.v 2), .v 0]) (body:=mq) (α:=List Rec×List Rec×List Rec×List Rec)
  (fun x=>[.i .i64 (x.2.1.length:Int), .i .i64 (x.2.2.1.length:Int),Al (x.1++x.2.1++x.2.2.1++x.2.2.2)])
  (fun o=>∃X' A' B' Y':List Rec,o= .yld 0 [.i .i64 (A'.length:Int),Al (X'++A'++B'++Y')]∧A'.length=B'.length∧(X'.length:Int)+A'.length=m∧X'++B'++A'++Y'=X++B++A++Y∧(X'++A'++B'++Y').length≤1000000)
  (fun x=>0<x.2.1.length∧0<x.2.2.1.length∧(x.1.length:Int)+x.2.1.length=m∧x.1++x.2.2.1++x.2.1++x.2.2.2=X++B++A++Y)
  (fun x=>x.2.1.length+x.2.2.1.length) (X,A,B,Y) ?_ ⟨hA',hB',by simp only;omega,rfl⟩ (by simp only [Ab];omega) ?_
 ·obtain ⟨o,ho,X',A',B',Y',rfl,e1,e2,e3,e4⟩:=key;have hsw:=J2 X' A' [] B' Y' (m - A'.length) m A'.length g caps (by omega) (by simp;omega) rfl e1 (by simpa using e4);simp only [Dd] at hsw;rw [e3] at hsw;have ht:Bc6.ev S ((X++A++B++Y).length+1) [Al (X++A++B++Y), .i .i64 a, .i .i64 m, .i .i64 b, .f g caps]=_:=ho;have hl:(X'++A'++B'++Y').length=(X++B++A++Y).length:=by rw [←e3];simp only [Ab];omega
  have hl2:A'.length≤1000000:=by simp only [Ab] at e4;omega
  generalize X'++A'++B'++Y'=t at*;generalize X++A++B++Y=s at*;generalize X++B++A++Y=u at*;simp (disch:=omega) only [nb,ht,hsw,D9,Ks,EVT,EVM,EVC,xe,EVP,EV,simprocAttr]
 ·generalize X++A++B++Y=s at*;have e1:b - m=(B.length:Int):=by omega
  have e2:m - a=(A.length:Int):=by omega
  simp (disch:=omega) only [e1,e2,EVT,EVM,EVC,xe,EVP,EV,simprocAttr]
 ·rintro ⟨X',A',B',Y'⟩ ⟨h1,h2,h3,h4⟩;simp only at h1 h2 h3 h4;have hl:(X'++A'++B'++Y').length≤1000000:=by have:=congrArg List.length h4;simp only [Ab] at this ⊢;omega
  have hl':=hl;simp only [Ab] at hl';by_cases hij:A'.length=B'.length
  ·right;refine ⟨.yld 0 [.i .i64 (A'.length:Int),Al (X'++A'++B'++Y')],?_,rfl,X',A',B',Y',rfl,hij,h3,h4,hl⟩;generalize X'++A'++B'++Y'=t at*;generalize X++A++B++Y=s at*;have hij':(A'.length:Int)=(B'.length:Int):=by omega
   simp (disch:=omega) only [nb,hij',EVT,EVM,EVC,xe,EVP,EV,simprocAttr]
  ·left;have hij':¬(A'.length:Int)=(B'.length:Int):=by omega
   by_cases hgt:B'.length<A'.length
   ·have hgt':(B'.length:Int)<(A'.length:Int):=by omega
    have eA:A'.take B'.length++A'.drop B'.length=A':=Bs _ _;have l1:(A'.take B'.length).length=B'.length:=by rw [An];omega
    have l2:(A'.drop B'.length).length=A'.length - B'.length:=B6;have hsw:=J2 X' (A'.take B'.length) (A'.drop B'.length) B' Y' (m - A'.length) m B'.length g caps (by omega) (by omega) (by omega) (by omega) (by rw [As X',eA];exact hl);rw [As X',eA] at hsw;refine ⟨(X'++B',A'.drop B'.length,A'.take B'.length,Y'),?_,⟨by simp only;omega,by simp only;omega,by simp only [Ab];omega,?_⟩,by simp only;omega⟩
    ·simp only;rw [l1,l2];have e1:((A'.length - B'.length:Nat):Int)=(A'.length:Int) - (B'.length:Int):=by omega
     rw [e1];generalize X'++B'++A'.drop B'.length++A'.take B'.length++Y'=u at*;generalize X'++A'++B'++Y'=t at*;generalize X++A++B++Y=s at*;simp (disch:=omega) only [nb,hij',hgt',hsw,D9,Ks,EVT,EVM,EVC,xe,EVP,EV,simprocAttr]
    ·simp only;rw [←h4,As (X'++B'),eA]
   ·have hgt':¬(B'.length:Int)<(A'.length:Int):=by omega
    have eB:B'.take (B'.length - A'.length)++B'.drop (B'.length - A'.length)=B':=Bs _ _;have l1:(B'.take (B'.length - A'.length)).length=B'.length - A'.length:=by rw [An];omega
    have l2:(B'.drop (B'.length - A'.length)).length=A'.length:=by rw [B6];omega
    have hsw:=J2 X' A' (B'.take (B'.length - A'.length)) (B'.drop (B'.length - A'.length)) Y' (m - A'.length) (m+B'.length - A'.length) A'.length g caps (by omega) (by omega) (by omega) (by omega) (by rw [As (X'++A'),eB];exact hl);rw [As (X'++A'),eB] at hsw;have ea:X'++B'.drop (B'.length - A'.length)++B'.take (B'.length - A'.length)++A'++Y'=X'++B'.drop (B'.length - A'.length)++B'.take (B'.length - A'.length)++(A'++Y'):=by simp
    refine ⟨(X',B'.drop (B'.length - A'.length),B'.take (B'.length - A'.length),A'++Y'),?_,⟨by simp only;omega,by simp only;omega,by simp only;omega,?_⟩,by simp only;omega⟩
    ·simp only;rw [l1,l2,←ea];have e1:((B'.length - A'.length:Nat):Int)=(B'.length:Int) - (A'.length:Int):=by omega
     rw [e1];generalize X'++B'.drop (B'.length - A'.length)++B'.take (B'.length - A'.length)++A'++Y'=u at*;generalize X'++A'++B'++Y'=t at*;generalize X++A++B++Y=s at*;simp (disch:=omega) only [nb,hij',hgt',hsw,D9,Ks,EVT,EVM,EVC,xe,EVP,EV,simprocAttr]
    ·simp only;rw [←h4,As X' (B'.take _),eB];simp
end Go.X.G
/- Sorting by blocks, in plain words. -/
namespace Go.X.G
open Go Go.X
structure Blk {α:Type} (le:α→α→Bool) (bs:Nat) (r l:List α):Prop where
 len:r.length=l.length
 st:∀k,Stab le ((r.drop (k*bs)).take bs) ((l.drop (k*bs)).take bs)
theorem Qd {α:Type} (le:α→α→Bool):Stab le ([]:List α) []:=⟨.nil,fun _=>rfl⟩
theorem gw {α:Type} (le:α→α→Bool) (x:α):Stab le [x] [x]:=⟨by simp,fun _=>rfl⟩
theorem Blk.nil {α:Type} (le:α→α→Bool) (bs:Nat):Blk le bs ([]:List α) []:=⟨rfl,fun k=>by rw [List.drop_nil,List.take_nil];exact Qd le⟩
theorem Blk.one {α:Type} {le:α→α→Bool} {bs:Nat} {r l:List α} (h:Stab le r l) (hl:r.length=l.length) (hb:r.length≤bs):Blk le bs r l:=⟨hl,fun k=>by
 cases k with
 |zero=>
  simp only [Nat.zero_mul,Eh];rw [C5 hb,C5 (by omega)];exact h
 |succ k=>
  have:r.length≤(k+1)*bs:=by rw [Nat.succ_mul];omega
  rw [Vt this,Vt (by omega),List.take_nil];exact Qd le⟩
theorem dl {α:Type} (X Y:List α) (n m:Nat) (h:n=X.length+m):(X++Y).drop n=Y.drop m:=by rw [List.drop_append,Vt (by omega),Cq];congr 1;omega
theorem Blk.app {α:Type} {le:α→α→Bool} {bs q:Nat} {X LX Y LY:List α} (hX:X.length=q*bs) (h1:Blk le bs X LX) (h2:Blk le bs Y LY):Blk le bs (X++Y) (LX++LY):=by
 have hL:=h1.len;refine ⟨by rw [Ab,Ab,h1.len,h2.len],fun k=> ?_⟩;by_cases hk:k<q
 ·have e:(k+1)*bs≤q*bs:=By _ hk;rw [Nat.succ_mul] at e;rw [List.drop_append_of_le_length (by omega),List.drop_append_of_le_length (by omega),List.take_append_of_le_length (by rw [B6];omega),List.take_append_of_le_length (by rw [B6];omega)];exact h1.st k
 ·have e:(k - q)*bs+q*bs=k*bs:=by rw [←B9];congr 1;omega
  rw [dl X Y (k*bs) ((k - q)*bs) (by omega),dl LX LY (k*bs) ((k - q)*bs) (by omega)];exact h2.st (k - q)
theorem Blk.all {α:Type} {le:α→α→Bool} {bs:Nat} {r l:List α} (h:Blk le bs r l) (hb:r.length≤bs):Stab le r l:=by have:=h.st 0;have hl:=h.len;simp only [Nat.zero_mul,Eh] at this;rwa [C5 hb,C5 (by omega)] at this
theorem Blk.head {α:Type} {le:α→α→Bool} {bs:Nat} {r l:List α} (h:Blk le bs r l):Stab le (r.take bs) (l.take bs):=by simpa using h.st 0
theorem Blk.tail {α:Type} {le:α→α→Bool} {bs:Nat} {r l:List α} (h:Blk le bs r l):Blk le bs (r.drop bs) (l.drop bs):=⟨by simp [h.len],fun k=>by rw [C7,C7];have:=h.st (k+1);rw [Nat.succ_mul,Dw4] at this;exact this⟩
theorem Dg5 {α:Type} {le:α→α→Bool} (ht:TP le) {R1 R2 l:List α} {x:α} (h:Stab le (R1++R2) l) (h1:∀y∈R1,le y x=true) (h2:∀y∈R2,le y x=false):Stab le (R1++x::R2) (l++[x]):=by
 obtain ⟨hs,hc⟩:=h;refine ⟨?_,fun z=> ?_⟩
 ·rw [Fj] at hs ⊢;refine ⟨hs.1,A3.2 ⟨fun y hy=>(ht.tot x y).resolve_right (by rw [h2 y hy];simp),hs.2.1⟩,fun a ha b hb=> ?_⟩;rcases Am.1 hb with rfl|hb
  ·exact h1 a ha
  ·exact hs.2.2 a ha b hb
 ·have:=hc z;rw [Dq] at this;rw [Dq,Dq,←this,Kh];by_cases hz:eqv le z x=true
  ·have hno:R2.filter (eqv le z)=[]:=by rw [Ed];intro w hw hzw;unfold eqv at hz hzw;simp only [Av] at hz hzw;have:=ht.tr _ _ _ hzw.2 hz.1;rw [h2 w hw] at this;cases this
   rw [hno,if_pos hz];simp [hz]
  ·rw [if_neg hz];simp [hz]
theorem gy {α:Type} {le:α→α→Bool} (ht:TP le) {R:List α} {w x:α} (h:(R++[w]).Pairwise fun a b=>le a b=true) (hx:le w x=true):∀y∈R++[w],le y x=true:=by
 intro y hy;rcases Bc.1 hy with hy|hy
 ·exact ht.tr _ _ _ ((Fj.1 h).2.2 y hy w (by simp)) hx
 ·have:y=w:=by simpa using hy
  rw [this];exact hx
theorem Sq {α:Type} (le:α→α→Bool):∀(a b:List α),(mrg le a b).length=a.length+b.length
 |[],b=>by simp [mrg]
 |x::a,[]=>by simp [mrg]
 |x::a,y::b=>by
  unfold mrg;split
  ·simp only [A0,Sq le a (y::b)];omega
  ·simp only [A0,Sq le (x::a) b];omega
termination_by a b=>a.length+b.length
end Go.X.G
/- Merging in place: the library's function. -/
namespace Go.X.G
open Go Go.X
theorem Ep (x:Int):bin .shr (.i .u64 x) (.i .u64 1)=some (.i .u64 (x / 2)):=by
 simp only [bin,Ow];rw [if_neg (by decide)];have:(2:Int) ^ min (1:Int).toNat IntKind.u64.bits=2:=by decide
 rw [this,Int.fdiv_eq_ediv_of_nonneg _ (by decide)]
theorem Fh6 {α:Type} (P Q:List α) (x y:α):((P++x::y::Q).set P.length y).set (P.length+1) x=P++y::x::Q:=by rw [fk _ _ (Af _),Dw2,List.set_cons_zero,fk _ _ (by omega),show P.length+1 - P.length=1 by omega];rfl
theorem c8 {α:Type} (P Q:List α) (x:α):(P++x::Q)[P.length]? =some x:=by simp
theorem jy {α:Type} (P Q:List α) (x y:α):(P++x::y::Q)[P.length+1]? =some y:=by simp
structure Cmp (g:Nat) (caps:List PV) (c:Rec→Rec→Int) (P:Rec→Prop):Prop where
 ok:∀x y,P x→P y→S g 2 (x.pv::y.pv::caps)=some [.i .i64 (c x y)]
def leC (c:Rec→Rec→Int) (x y:Rec):Bool:= !decide (c y x<0)
theorem Dr5 {c:Rec→Rec→Int} {x y:Rec}:leC c x y=true↔¬c y x<0:=by simp [leC]
theorem Dr6 {c:Rec→Rec→Int} {x y:Rec}:leC c x y=false↔c y x<0:=by simp [leC]
section
variable {g:Nat} {caps:List PV} {c:Rec→Rec→Int} {P:Rec→Prop}
theorem Iv3 (h:Cmp g caps c P) (X B Y:List Rec) (x:Rec) (s:List Rec) (hsd:s=X++x::(B++Y)) (a m b:Int) (ha:a=X.length) (hm:m=a+1) (hb:b=m+B.length) (hs:s.length≤1000000) (hP:∀y∈s,P y) (N:Nat) (hN:B.length<N):
  ∃p:Nat,Bc9.ev S N [Al s, .i .i64 a, .i .i64 m, .i .i64 b, .f g caps]=some (.yld 0 [.i .i64 (m+p)])∧p≤B.length∧(∀y,p≠0→B[p - 1]? =some y→c y x<0)∧∀y,B[p]? =some y→¬c y x<0:=by
 have hl:s.length=X.length+1+B.length+Y.length:=by rw [hsd];simp;omega
 have hx:s[X.length]? =some x:=by rw [hsd];exact c8 _ _ _
 have hB:∀k y,B[k]? =some y→s[X.length+1+k]? =some y:=fun k y hk=>by have:=(Aw.1 hk).1;rw [hsd,A5 (by omega),show X.length+1+k - X.length=k+1 by omega,D8,A9 this,hk]
 have hPx:P x:=hP x (by rw [hsd];simp);have key:=G5 (fn:=S) (N:=N) (η:=[Al s, .i .i64 a, .i .i64 m, .i .i64 b, .f g caps]) (id:=1) (init:=[.v 2, .v 3]) (body:=mw) (α:=Nat×Nat)
  (fun w=>[.i .i64 (m+w.1), .i .i64 (m+w.2)])
  (fun o=>∃p:Nat,o= .yld 0 [.i .i64 (m+p)]∧p≤B.length∧(∀y,p≠0→B[p - 1]? =some y→c y x<0)∧∀y,B[p]? =some y→¬c y x<0)
  (fun w=>w.1≤w.2∧w.2≤B.length∧(∀y,w.1≠0→B[w.1 - 1]? =some y→c y x<0)∧∀y,B[w.2]? =some y→¬c y x<0)
  (fun w=>w.2 - w.1) (0,B.length) ?_ ?_ (by simp only;omega) ?_
 ·obtain ⟨o,h1,p,rfl,h2⟩:=key;exact ⟨p,h1,h2⟩
 ·subst hb;simp (disch:=omega) only [EVT,EVM,EVC,xe,EVP,EV,simprocAttr];simp
 ·refine ⟨by simp,by simp,fun y h0=>absurd rfl h0,fun y hy=> ?_⟩;simp at hy
 ·rintro ⟨p,q⟩ ⟨h1,h2,h3,h4⟩;simp only at h1 h2 h3 h4;by_cases hpq:p<q
  ·left;have hk:(p+q) / 2<B.length:=by omega
   have hy:=Az hk;generalize B[(p+q) / 2]=y at hy;have hsy:=hB _ y hy;have hPy:P y:=hP y (Bq hsy);have hc:=h.ok y x hPy hPx;have hlt:m+(p:Int)<m+(q:Int):=by omega
   have e1:(m+(p:Int)+(m+(q:Int))) / 2=m+(((p+q) / 2:Nat):Int):=by omega
   have e2:(m+(((p+q) / 2:Nat):Int)).toNat=X.length+1+(p+q) / 2:=by omega
   have e3:a.toNat=X.length:=by omega
   by_cases hcy:c y x<0
   ·refine ⟨((p+q) / 2+1,q),?_,⟨by simp only;omega,h2,fun z _ hz=> ?_,h4⟩,by simp only;omega⟩
    ·have e4:m+(((p+q) / 2+1:Nat):Int)=m+(((p+q) / 2:Nat):Int)+1:=by omega
     simp only [e4];generalize (p+q) / 2=k at*;simp (disch:=omega) only [Fw,hlt,Ep,e1,e2,e3,hsy,hx,hc,hcy,EVT,EVM,EVC,xe,EVP,EV,simprocAttr]
    ·simp only [Vs] at hz;rw [hy] at hz;injection hz with hz;subst hz;exact hcy
   ·refine ⟨(p,(p+q) / 2),?_,⟨by simp only;omega,by simp only;omega,h3,fun z hz=> ?_⟩,by simp only;omega⟩
    ·simp only;generalize (p+q) / 2=k at*;simp (disch:=omega) only [Fw,hlt,Ep,e1,e2,e3,hsy,hx,hc,hcy,EVT,EVM,EVC,xe,EVP,EV,simprocAttr]
    ·simp only at hz;rw [hy] at hz;injection hz with hz;subst hz;exact hcy
  ·right;have e:p=q:=by omega
   subst e;have hlt:¬m+(p:Int)<m+(p:Int):=by omega
   refine ⟨.yld 0 [.i .i64 (m+p)],?_,rfl,p,rfl,h2,h3,h4⟩;simp (disch:=omega) only [Fw,hlt,EVT,EVM,EVC,xe,EVP,EV,simprocAttr]
theorem Iv5 (L L':List Rec) (i:Nat) (x y:Rec) (g0:L[i]? =some x) (g1:L[i+1]? =some y) (sw:(L.set i y).set (i+1) x=L') (k e:Int) (hk:k=i) (he:k<e - 1) (he2:e≤1000000) (hL:L.length≤1000000) (w0 w1 w2 w3 w4:PV) (N:Nat):
  Yk.ev S N [w0,w1,w2,w3,w4, .i .i64 e, .i .i64 k,Al L]=some (.yld 1 [.i .i64 (k+1),Al L']):=by
 have hi:=(Aw.1 g1).1;have ti0:k.toNat=i:=by omega
 have ti1:(k+1).toNat=i+1:=by omega
 have g2:(L.set i y)[i+1]? =some y:=by rw [Ac8 (by omega)];exact g1
 simp (disch:=first|omega|(rw [Hw];omega)) only [Fw,he,ti0,ti1,g0,g1,g2,sw,EVT,EVM,EVC,xe,EVP,EV,simprocAttr]
theorem Iv4 (L L':List Rec) (i:Nat) (x y:Rec) (g0:L[i]? =some x) (g1:L[i+1]? =some y) (sw:(L.set (i+1) x).set i y=L') (k e:Int) (hk:k=i+1) (he:e<k) (he2:0≤e) (hL:L.length≤1000000) (w0 w1 w2 w3 w4:PV) (N:Nat):
  Yj.ev S N [w0,w1,w2,w3,w4, .i .i64 e, .i .i64 k,Al L]=some (.yld 1 [.i .i64 (k - 1),Al L']):=by
 have hi:=(Aw.1 g1).1;have ti0:(k - 1).toNat=i:=by omega
 have ti1:k.toNat=i+1:=by omega
 have g2:(L.set (i+1) x)[i]? =some x:=by rw [Ac8 (by omega)];exact g0
 simp (disch:=first|omega|(rw [Hw];omega)) only [Fw,he,ti0,ti1,g0,g1,g2,sw,EVT,EVM,EVC,xe,EVP,EV,simprocAttr]
theorem Iv2 (X B Y:List Rec) (x:Rec) (s:List Rec) (hsd:s=X++x::(B++Y)) (a m b:Int) (w:PV) (p:Nat) (ha:a=X.length) (hm:m=a+1) (hp:p≤B.length) (hs:s.length≤1000000) (N:Nat) (hN:B.length<N) (w1 w2 w3:PV):
  Bb6.ev S N [Al s, .i .i64 a,w1,w2,w3, .i .i64 (m+p)]=some (.yld 0 [Al (X++(B.take p++x::B.drop p)++Y)]):=by
 have hl:s.length=X.length+1+B.length+Y.length:=by rw [hsd];simp;omega
 refine Gp p (fun t=>[.i .i64 (a+t),Al ((X++B.take t)++x::(B.drop t++Y))]) (fun _=> .yld 0 [Al (X++(B.take p++x::B.drop p)++Y)]) ?_ (by omega) (fun t ht=> ?_) ?_
 ·simp (disch:=omega) only [EVT,EVM,EVC,xe,EVP,EV,simprocAttr];rw [hsd];simp
 ·left;refine ⟨?_,rfl⟩;have hlt:t<B.length:=by omega
  have hy:=Az hlt;have hd:B.drop t=B[t]::B.drop (t+1):=Cd hlt;have htk:B.take (t+1)=B.take t++[B[t]]:=by rw [Cc,hy];rfl
  have e0:X++B.take (t+1)++x::(B.drop (t+1)++Y)=X++B.take t++B[t]::x::(B.drop (t+1)++Y):=by rw [htk];simp only [As,B7,Cq]
  show Yk.ev S N ([Al s, .i .i64 a,w1,w2,w3, .i .i64 (m+p)]++[.i .i64 (a+t),Al ((X++B.take t)++x::(B.drop t++Y))])=some (.yld 1 [.i .i64 (a+((t+1:Nat):Int)),Al ((X++B.take (t+1))++x::(B.drop (t+1)++Y))]);rw [e0,hd,B7];generalize B[t]=y at*;have lP:(X++B.take t).length=X.length+t:=by rw [Ab,An];omega
  have sw:=Fh6 (X++B.take t) (B.drop (t+1)++Y) x y;have g0:=c8 (X++B.take t) (y::(B.drop (t+1)++Y)) x;have g1:=jy (X++B.take t) (B.drop (t+1)++Y) x y;have lL:(X++B.take t++x::y::(B.drop (t+1)++Y)).length=s.length:=by rw [hl];simp only [Ab,A0,An,B6];omega
  rw [lP] at sw g0 g1;have e5:a+((t+1:Nat):Int)=a+(t:Int)+1:=by omega
  rw [e5];exact Iv5 _ _ (X.length+t) x y g0 g1 sw (a+t) (m+p) (by omega) (by omega) (by omega) (by omega) _ _ _ _ _ N
 ·refine ⟨?_,rfl⟩;have hlt2:¬a+(p:Int)<m+(p:Int) - 1:=by omega
  have e0:X++B.take p++x::(B.drop p++Y)=X++(B.take p++x::B.drop p)++Y:=by simp
  rw [e0];simp (disch:=omega) only [Fw,hlt2,EVT,EVM,EVC,xe,EVP,EV,simprocAttr]
theorem Iv1 (h:Cmp g caps c P) (X A Y:List Rec) (x:Rec) (s:List Rec) (hsd:s=X++(A++x::Y)) (a m:Int) (w:PV) (ha:a=X.length) (hm:m=a+A.length) (hs:s.length≤1000000) (hP:∀y∈s,P y) (N:Nat) (hN:A.length<N):
  ∃p:Nat,Bb3.ev S N [Al s, .i .i64 a, .i .i64 m,w, .f g caps]=some (.yld 0 [.i .i64 (a+p)])∧p≤A.length∧(∀y,p≠0→A[p - 1]? =some y→¬c x y<0)∧∀y,A[p]? =some y→c x y<0:=by
 have hl:s.length=X.length+A.length+1+Y.length:=by rw [hsd];simp;omega
 have hx:s[X.length+A.length]? =some x:=by rw [hsd,←As,←Ab];exact c8 _ _ _
 have hA:∀k y,A[k]? =some y→s[X.length+k]? =some y:=fun k y hk=>by have:=(Aw.1 hk).1;rw [hsd,A5 (by omega),show X.length+k - X.length=k by omega,A9 this,hk]
 have hPx:P x:=hP x (by rw [hsd];simp);have key:=G5 (fn:=S) (N:=N) (η:=[Al s, .i .i64 a, .i .i64 m,w, .f g caps]) (id:=1) (init:=[.v 1, .v 2]) (body:=l8) (α:=Nat×Nat)
  (fun w=>[.i .i64 (a+w.1), .i .i64 (a+w.2)])
  (fun o=>∃p:Nat,o= .yld 0 [.i .i64 (a+p)]∧p≤A.length∧(∀y,p≠0→A[p - 1]? =some y→¬c x y<0)∧∀y,A[p]? =some y→c x y<0)
  (fun w=>w.1≤w.2∧w.2≤A.length∧(∀y,w.1≠0→A[w.1 - 1]? =some y→¬c x y<0)∧∀y,A[w.2]? =some y→c x y<0)
  (fun w=>w.2 - w.1) (0,A.length) ?_ ?_ (by simp only;omega) ?_
 ·obtain ⟨o,h1,p,rfl,h2⟩:=key;exact ⟨p,h1,h2⟩
 ·subst hm;simp (disch:=omega) only [EVT,EVM,EVC,xe,EVP,EV,simprocAttr];simp
 ·refine ⟨by simp,by simp,fun y h0=>absurd rfl h0,fun y hy=> ?_⟩;simp at hy
 ·rintro ⟨p,q⟩ ⟨h1,h2,h3,h4⟩;simp only at h1 h2 h3 h4;by_cases hpq:p<q
  ·left;have hk:(p+q) / 2<A.length:=by omega
   have hy:=Az hk;generalize A[(p+q) / 2]=y at hy;have hsy:=hA _ y hy;have hPy:P y:=hP y (Bq hsy);have hc:=h.ok x y hPx hPy;have hlt:a+(p:Int)<a+(q:Int):=by omega
   have e1:(a+(p:Int)+(a+(q:Int))) / 2=a+(((p+q) / 2:Nat):Int):=by omega
   have e2:(a+(((p+q) / 2:Nat):Int)).toNat=X.length+(p+q) / 2:=by omega
   have e3:m.toNat=X.length+A.length:=by omega
   by_cases hcy:c x y<0
   ·refine ⟨(p,(p+q) / 2),?_,⟨by simp only;omega,by simp only;omega,h3,fun z hz=> ?_⟩,by simp only;omega⟩
    ·simp only;generalize (p+q) / 2=k at*;simp (disch:=omega) only [Fw,hlt,Ep,e1,e2,e3,hsy,hx,hc,hcy,EVT,EVM,EVC,xe,EVP,EV,simprocAttr]
    ·simp only at hz;rw [hy] at hz;injection hz with hz;subst hz;exact hcy
   ·refine ⟨((p+q) / 2+1,q),?_,⟨by simp only;omega,h2,fun z _ hz=> ?_,h4⟩,by simp only;omega⟩
    ·have e4:a+(((p+q) / 2+1:Nat):Int)=a+(((p+q) / 2:Nat):Int)+1:=by omega
     simp only [e4];generalize (p+q) / 2=k at*;simp (disch:=omega) only [Fw,hlt,Ep,e1,e2,e3,hsy,hx,hc,hcy,EVT,EVM,EVC,xe,EVP,EV,simprocAttr]
    ·simp only [Vs] at hz;rw [hy] at hz;injection hz with hz;subst hz;exact hcy
  ·right;have e:p=q:=by omega
   subst e;have hlt:¬a+(p:Int)<a+(p:Int):=by omega
   refine ⟨.yld 0 [.i .i64 (a+p)],?_,rfl,p,rfl,h2,h3,h4⟩;simp (disch:=omega) only [Fw,hlt,EVT,EVM,EVC,xe,EVP,EV,simprocAttr]
theorem Iv0 (X A Y:List Rec) (x:Rec) (s:List Rec) (hsd:s=X++(A++x::Y)) (a m:Int) (p:Nat) (ha:a=X.length) (hm:m=a+A.length) (hp:p≤A.length) (hs:s.length≤1000000) (N:Nat) (hN:A.length<N) (w1 w2 w3:PV):
  Bb2.ev S N [Al s,w1, .i .i64 m,w2,w3, .i .i64 (a+p)]=some (.yld 0 [Al (X++(A.take p++x::A.drop p)++Y)]):=by
 have hl:s.length=X.length+A.length+1+Y.length:=by rw [hsd];simp;omega
 refine Gp (A.length - p) (fun t=>[.i .i64 (m - t),Al ((X++A.take (A.length - t))++x::(A.drop (A.length - t)++Y))]) (fun _=> .yld 0 [Al (X++(A.take p++x::A.drop p)++Y)]) ?_ (by omega) (fun t ht=> ?_) ?_
 ·simp (disch:=omega) only [EVT,EVM,EVC,xe,EVP,EV,simprocAttr];rw [hsd];simp
 ·left;refine ⟨?_,rfl⟩;obtain ⟨u,hu⟩:∃u,A.length - t=u+1:=⟨A.length - t - 1,by omega⟩;have hlt:u<A.length:=by omega
  have hy:=Az hlt;have hd:A.drop u=A[u]::A.drop (u+1):=Cd hlt;have htk:A.take (u+1)=A.take u++[A[u]]:=by rw [Cc,hy];rfl
  have e1:A.length - (t+1)=u:=by omega
  have e0:X++A.take (u+1)++x::(A.drop (u+1)++Y)=X++A.take u++A[u]::x::(A.drop (u+1)++Y):=by rw [htk];simp only [As,B7,Cq]
  show Yj.ev S N ([Al s,w1, .i .i64 m,w2,w3, .i .i64 (a+p)]++[.i .i64 (m - t),Al ((X++A.take (A.length - t))++x::(A.drop (A.length - t)++Y))])=some (.yld 1 [.i .i64 (m - ((t+1:Nat):Int)),Al ((X++A.take (A.length - (t+1)))++x::(A.drop (A.length - (t+1))++Y))]);rw [hu,e1,e0,hd,B7];generalize A[u]=y at*;have lP:(X++A.take u).length=X.length+u:=by rw [Ab,An];omega
  have sw0:((X++A.take u++y::x::(A.drop (u+1)++Y)).set (X.length+u+1) y).set (X.length+u) x=X++A.take u++x::y::(A.drop (u+1)++Y):=by rw [←lP,List.set_comm _ _ (by omega)];exact Fh6 (X++A.take u) (A.drop (u+1)++Y) y x
  have g0:=c8 (X++A.take u) (x::(A.drop (u+1)++Y)) y;have g1:=jy (X++A.take u) (A.drop (u+1)++Y) y x;have lL:(X++A.take u++y::x::(A.drop (u+1)++Y)).length=s.length:=by rw [hl];simp only [Ab,A0,An,B6];omega
  rw [lP] at g0 g1;have e5:m - ((t+1:Nat):Int)=m - (t:Int) - 1:=by omega
  rw [e5];exact Iv4 _ _ (X.length+u) y x g0 g1 sw0 (m - t) (a+p) (by omega) (by omega) (by omega) (by omega) _ _ _ _ _ N
 ·refine ⟨?_,rfl⟩;have hlt2:¬a+(p:Int)<m - ((A.length - p:Nat):Int):=by omega
  have e1:A.length - (A.length - p)=p:=by omega
  have e0:X++A.take p++x::(A.drop p++Y)=X++(A.take p++x::A.drop p)++Y:=by simp
  rw [e1,e0];simp (disch:=omega) only [Fw,hlt2,EVT,EVM,EVC,xe,EVP,EV,simprocAttr]
end
end Go.X.G
/- Merging in place: the library's function, the Mh. -/
namespace Go.X.G
open Go Go.X
section
variable {g:Nat} {caps:List PV} {c:Rec→Rec→Int} {P:Rec→Prop}
theorem Iq9 (hC:Cmp g caps c P) (X A B Y:List Rec) (s:List Rec) (hsd:s=X++(A++(B++Y))) (a m b mid:Int) (h i0 j0:Nat) (ha:a=X.length) (hm:m=a+A.length) (hb:b=m+B.length) (hM:(a+b) / 2=mid) (hmid:mid=a+h)
  (h1:i0≤j0) (h2:j0≤A.length) (h3:j0≤h) (h4:h≤i0+B.length) (hs:s.length≤1000000) (hP:∀y∈s,P y) (N:Nat) (hN:A.length<N):
  ∃i:Nat,Bb1.ev S N [Al s, .i .i64 a, .i .i64 m, .i .i64 b, .f g caps, .i .i64 (a+i0), .i .i64 (a+j0)]=some (.yld 0 [.i .i64 (a+i)])∧i0≤i∧i≤j0∧
   (∀x y,i≠i0→A[i - 1]? =some x→B[h - i]? =some y→¬c y x<0)∧∀x y,i≠j0→A[i]? =some x→B[h - 1 - i]? =some y→c y x<0:=by
 have hl:s.length=X.length+A.length+B.length+Y.length:=by rw [hsd];simp;omega
 have hA:∀k y,A[k]? =some y→s[X.length+k]? =some y:=fun k y hk=>by have:=(Aw.1 hk).1;rw [hsd,A5 (by omega),show X.length+k - X.length=k by omega,A9 this,hk]
 have hB:∀k y,B[k]? =some y→s[X.length+A.length+k]? =some y:=fun k y hk=>by have:=(Aw.1 hk).1;rw [hsd,A5 (by omega),A5 (by omega),show X.length+A.length+k - X.length - A.length=k by omega,A9 this,hk]
 have key:=G5 (fn:=S) (N:=N) (η:=[Al s, .i .i64 a, .i .i64 m, .i .i64 b, .f g caps, .i .i64 (a+i0), .i .i64 (a+j0)]) (id:=1) (init:=[.v 5, .v 6]) (body:=l6) (α:=Nat×Nat)
  (fun w=>[.i .i64 (a+w.1), .i .i64 (a+w.2)])
  (fun o=>∃i:Nat,o= .yld 0 [.i .i64 (a+i)]∧i0≤i∧i≤j0∧(∀x y,i≠i0→A[i - 1]? =some x→B[h - i]? =some y→¬c y x<0)∧∀x y,i≠j0→A[i]? =some x→B[h - 1 - i]? =some y→c y x<0)
  (fun w=>w.1≤w.2∧i0≤w.1∧w.2≤j0∧(∀x y,w.1≠i0→A[w.1 - 1]? =some x→B[h - w.1]? =some y→¬c y x<0)∧∀x y,w.2≠j0→A[w.2]? =some x→B[h - 1 - w.2]? =some y→c y x<0)
  (fun w=>w.2 - w.1) (i0,j0) ?_ ?_ (by simp only;omega) ?_
 ·obtain ⟨o,h1,p,rfl,h2⟩:=key;exact ⟨p,h1,h2⟩
 ·simp (disch:=omega) only [EVT,EVM,EVC,xe,EVP,EV,simprocAttr]
 ·exact ⟨h1,Af _,Af _,fun x y h0=>absurd rfl h0,fun x y h0=>absurd rfl h0⟩
 ·rintro ⟨p,q⟩ ⟨g1,g2,g3,g4,g5⟩;simp only at g1 g2 g3 g4 g5;by_cases hpq:p<q
  ·left;have hk:(p+q) / 2<A.length:=by omega
   have hx:=Az hk;have hk2:h - 1 - (p+q) / 2<B.length:=by omega
   have hy:=Az hk2;generalize A[(p+q) / 2]=x at hx;generalize B[h - 1 - (p+q) / 2]=y at hy;have hsx:=hA _ x hx;have hsy:=hB _ y hy;have hPx:P x:=hP x (Bq hsx);have hPy:P y:=hP y (Bq hsy);have hc:=hC.ok y x hPy hPx;have hlt:a+(p:Int)<a+(q:Int):=by omega
   have e1:(a+(p:Int)+(a+(q:Int))) / 2=a+(((p+q) / 2:Nat):Int):=by omega
   have e2:(a+(((p+q) / 2:Nat):Int)).toNat=X.length+(p+q) / 2:=by omega
   have e3:(mid+m - 1 - (a+(((p+q) / 2:Nat):Int))).toNat=X.length+A.length+(h - 1 - (p+q) / 2):=by omega
   have hkh:(p+q) / 2<h:=by omega
   by_cases hcy:c y x<0
   ·refine ⟨(p,(p+q) / 2),?_,⟨by simp only;omega,g2,by simp only;omega,g4,fun u v _ hu hv=> ?_⟩,by simp only;omega⟩
    ·simp only;generalize (p+q) / 2=k at*;simp (disch:=omega) only [Fw,hlt,Ep,hM,e1,e2,e3,hsy,hsx,hc,hcy,EVT,EVM,EVC,xe,EVP,EV,simprocAttr]
    ·simp only at hu hv;rw [hx] at hu;injection hu with hu;subst hu;rw [hy] at hv;injection hv with hv;subst hv;exact hcy
   ·refine ⟨((p+q) / 2+1,q),?_,⟨by simp only;omega,by simp only;omega,g3,fun u v _ hu hv=> ?_,g5⟩,by simp only;omega⟩
    ·have e4:a+(((p+q) / 2+1:Nat):Int)=a+(((p+q) / 2:Nat):Int)+1:=by omega
     simp only [e4];generalize (p+q) / 2=k at*;simp (disch:=omega) only [Fw,hlt,Ep,hM,e1,e2,e3,hsy,hsx,hc,hcy,EVT,EVM,EVC,xe,EVP,EV,simprocAttr]
    ·simp only [Vs] at hu hv;rw [show h - ((p+q) / 2+1)=h - 1 - (p+q) / 2 by omega] at hv;rw [hx] at hu;injection hu with hu;subst hu;rw [hy] at hv;injection hv with hv;subst hv;exact hcy
  ·right;have e:p=q:=by omega
   subst e;have hlt:¬a+(p:Int)<a+(p:Int):=by omega
   refine ⟨.yld 0 [.i .i64 (a+p)],?_,rfl,p,rfl,g2,g3,g4,g5⟩;simp (disch:=omega) only [Fw,hlt,EVT,EVM,EVC,xe,EVP,EV,simprocAttr]
theorem Fp7 {le:Rec→Rec→Bool} (ht:TP le) {B:List Rec} (hB:B.Pairwise fun x y=>le x y=true) (x:Rec) (p:Nat) (hp:p≤B.length) (h1:∀y,p≠0→B[p - 1]? =some y→le x y=false) (h2:∀y,B[p]? =some y→le x y=true):mrg le [x] B=B.take p++x::B.drop p:=by have e1:=Sv ht (A:=[x]) (B:=B) (by simp) hB 0 p (fun u v h=>absurd rfl h) (fun u v h0 hu hv=>by simp at hu;subst hu;exact h1 v h0 hv) (by simp) hp;have e2:=Sv ht (A:=[x]) (B:=B.drop p) (by simp) (hB.sublist (List.drop_sublist p B)) 1 0 (fun u v _ hu hv=>by simp at hu;subst hu;rw [A7] at hv;exact h2 v hv) (fun u v h=>absurd rfl h) (by simp) (by simp);rw [e1];simp only [List.take_zero,Eh,List.take_succ_cons,List.drop_succ_cons,K8] at e2 ⊢;rw [e2];simp [mrg]
theorem Fp6 {le:Rec→Rec→Bool} (ht:TP le) {A:List Rec} (hA:A.Pairwise fun x y=>le x y=true) (x:Rec) (p:Nat) (hp:p≤A.length) (h1:∀y,p≠0→A[p - 1]? =some y→le y x=true) (h2:∀y,A[p]? =some y→le y x=false):mrg le A [x]=A.take p++x::A.drop p:=by have e1:=Sv ht (A:=A) (B:=[x]) hA (by simp) p 0 (fun u v h0 hu hv=>by simp at hv;subst hv;exact h1 u h0 hu) (fun u v h=>absurd rfl h) hp (by simp);have e2:=Sv ht (A:=A.drop p) (B:=[x]) (hA.sublist (List.drop_sublist p A)) (by simp) 0 1 (fun u v h=>absurd rfl h) (fun u v _ hu hv=>by simp at hv;subst hv;rw [A7] at hu;exact h2 u hu) (by simp) (by simp);rw [e1];simp only [List.take_zero,Eh,List.take_succ_cons,List.drop_succ_cons,K8] at e2 ⊢;rw [e2];simp [mrg]
set_option maxHeartbeats 2000000 in
theorem J1 (hC:Cmp g caps c P) (ht:TP (leC c)):∀(n:Nat) (X A B Y:List Rec) (a m b:Int),A.length+B.length≤n→A≠[]→B≠[]→(A.Pairwise fun x y=>leC c x y=true)→(B.Pairwise fun x y=>leC c x y=true)→
  a=X.length→m=a+A.length→b=m+B.length→(X++A++B++Y).length≤1000000→(∀y∈X++A++B++Y,P y)→
  S Pr 1048581 [Al (X++A++B++Y), .i .i64 a, .i .i64 m, .i .i64 b, .f g caps]=some [Al (X++mrg (leC c) A B++Y)]
 |0,X,A,B,Y,a,m,b,hn,hA,_,_,_,_,_,_,_,_=>absurd (Bb (by omega)) hA
 |n+1,X,A,B,Y,a,m,b,hn,hA,hB,sA,sB,ha,hm,hb,hs,hP=>by
  have hA':0<A.length:=Bd.2 hA;have hB':0<B.length:=Bd.2 hB;have hs2:=hs;simp only [Ab] at hs2;obtain ⟨N,hN⟩:∃N,N=A.length+B.length+1:=⟨_,rfl⟩;refine Gt9 (N:=N) rfl ?_;by_cases c1:A.length=1
  ·-- one ahead
   obtain ⟨x,rfl⟩:=List.length_eq_one_iff.1 c1;have hsd:X++[x]++B++Y=X++x::(B++Y):=by simp
   obtain ⟨p,k1,k2,k3,k4⟩:=Iv3 hC X B Y x (X++[x]++B++Y) hsd a m b ha (by simpa using hm) hb hs hP N (by omega);have k5:=Iv2 X B Y x (X++[x]++B++Y) hsd a m b .u p ha (by simpa using hm) k2 hs N (by omega) (.i .i64 m) (.i .i64 b) (.f g caps);have e:=Fp7 ht sB x p k2 (fun y h0 hy=>Dr6.2 (k3 y h0 hy)) (fun y hy=>Dr5.2 (k4 y hy));rw [e];have q1:m - a=1:=by simp at hm;omega
   generalize X++[x]++B++Y=s at*;generalize X++(List.take p B++x::List.drop p B)++Y=u at*;simp (disch:=omega) only [Fw,q1,k1,k5,EVT,EVM,EVC,xe,EVP,EV,simprocAttr]
  ·by_cases c2:B.length=1
   ·obtain ⟨x,rfl⟩:=List.length_eq_one_iff.1 c2;have hsd:X++A++[x]++Y=X++(A++x::Y):=by simp
    obtain ⟨p,k1,k2,k3,k4⟩:=Iv1 hC X A Y x (X++A++[x]++Y) hsd a m (.i .i64 b) ha hm hs hP N (by omega);have k5:=Iv0 X A Y x (X++A++[x]++Y) hsd a m p ha hm k2 hs N (by omega) (.i .i64 a) (.i .i64 b) (.f g caps);have e:=Fp6 ht sA x p k2 (fun y h0 hy=>Dr5.2 (k3 y h0 hy)) (fun y hy=>Dr6.2 (k4 y hy));rw [e];have q1:¬m - a=1:=by omega
    have q2:b - m=1:=by simp at hb;omega
    generalize X++A++[x]++Y=s at*;generalize X++(List.take p A++x::List.drop p A)++Y=u at*;simp (disch:=omega) only [Fw,q1,q2,k1,k5,EVT,EVM,EVC,xe,EVP,EV,simprocAttr]
   ·-- two parts of more
    have q1:¬m - a=1:=by omega
    have q2:¬b - m=1:=by omega
    obtain ⟨h,hh⟩:∃h,h=(A.length+B.length) / 2:=⟨_,rfl⟩;obtain ⟨mid,hM⟩:∃mid,(a+b) / 2=mid:=⟨_,rfl⟩;have hmid:mid=a+h:=by omega
    obtain ⟨i0,j0,hc15,h1,h2,h3,h4,hi0,hj0⟩:∃i0 j0:Nat,X6.ev S N [Al (X++A++B++Y), .i .i64 a, .i .i64 m, .i .i64 b, .f g caps]=some (.yld 0 [.i .i64 (a+i0), .i .i64 (a+j0)])∧i0≤j0∧j0≤A.length∧j0≤h∧h≤i0+B.length∧(i0=0∨h - i0=B.length)∧(j0=h∨j0=A.length):=by
     by_cases hgt:h<A.length
     ·refine ⟨h - B.length,h,?_,by omega,by omega,by omega,by omega,by omega, .inl rfl⟩;have t1:mid<m:=by omega
      have t2:mid+m - b=a+((h - B.length:Nat):Int):=by omega
      rw [←t2,←hmid];generalize X++A++B++Y=s at*;simp (disch:=omega) only [Fw,Ep,hM,t1,EVT,EVM,EVC,xe,EVP,EV,simprocAttr]
     ·refine ⟨0,A.length,?_,by omega,by omega,by omega,by omega, .inl rfl, .inr rfl⟩;have t1:¬mid<m:=by omega
      generalize X++A++B++Y=s at*;simp (disch:=omega) only [Fw,Ep,hM,t1,hm,EVT,EVM,EVC,xe,EVP,EV,simprocAttr];simp
    have hsd:X++A++B++Y=X++(A++(B++Y)):=by simp
    obtain ⟨i,k1,k2,k3,k4,k5⟩:=Iq9 hC X A B Y (X++A++B++Y) hsd a m b mid h i0 j0 ha hm hb hM hmid h1 h2 h3 h4 hs hP N (by omega);have cut:=Sv ht sA sB i (h - i) (fun x y h0 hx hy=>Dr5.2 (k4 x y (fun e=>by
      rcases hi0 with q|q
      ·omega
      ·have:=(Aw.1 hy).1;omega) hx hy)) (fun x y h0 hx hy=>Dr6.2 (k5 x y (fun e=>by
      rcases hj0 with q|q
      ·omega
      ·have:=(Aw.1 hx).1;omega) hx (by rw [show h - 1 - i=h - i - 1 by omega];exact hy))) (by omega) (by omega)
    have eA:A.take i++A.drop i=A:=Bs _ _;have eB:B.take (h - i)++B.drop (h - i)=B:=Bs _ _;have lA1:(A.take i).length=i:=by rw [An];omega
    have lA2:(A.drop i).length=A.length - i:=B6;have lB1:(B.take (h - i)).length=h - i:=by rw [An];omega
    have lB2:(B.drop (h - i)).length=B.length - (h - i):=B6;have sA1:=sA.sublist (List.take_sublist i A);have sA2:=sA.sublist (List.drop_sublist i A);have sB1:=sB.sublist (List.take_sublist (h - i) B);have sB2:=sB.sublist (List.drop_sublist (h - i) B);generalize A.take i=A1 at*;generalize A.drop i=A2 at*;generalize B.take (h - i)=B1 at*;generalize B.drop (h - i)=B2 at*;have e0:X++A++B++Y=X++A1++A2++B1++(B2++Y):=by rw [←eA,←eB];simp
    have mem1:∀y,y∈X++A1++B1++(A2++B2++Y)→P y:=fun y hy=>hP y (by rw [e0];simp only [Bc] at hy ⊢;grind);have len1:(X++A1++B1++(A2++B2++Y)).length≤1000000:=by simp only [Ab] at hs2 ⊢;omega
    have lm1:=Sq (leC c) A1 B1;have mem2:∀y,y∈(X++mrg (leC c) A1 B1)++A2++B2++Y→P y:=fun y hy=>mem1 y (by simp only [Bc,mrg_mem] at hy ⊢;grind)
    have len2:((X++mrg (leC c) A1 B1)++A2++B2++Y).length≤1000000:=by simp only [Ab,lm1] at hs2 ⊢;omega
    have s1:(T.blk 0 X5 Oq).ev S N [Al (X++A++B++Y), .i .i64 a, .i .i64 m, .i .i64 b, .f g caps, .i .i64 (a+i0), .i .i64 (a+j0), .i .i64 (a+i)]=
      Oq.ev S N [Al (X++A++B++Y), .i .i64 a, .i .i64 m, .i .i64 b, .f g caps, .i .i64 (a+i0), .i .i64 (a+j0), .i .i64 (a+i),Al (X++A1++B1++(A2++B2++Y))]:=by
     by_cases t:A2=[]∨B1=[]
     ·have t1:¬(a+(i:Int)<m∧m<mid+m - (a+i)):=by
       rcases t with t|t
       ·rw [t] at lA2;simp at lA2;omega
       ·rw [t] at lB1;simp at lB1;omega
      have e1:X++A++B++Y=X++A1++B1++(A2++B2++Y):=by rw [e0];rcases t with t|t<;>subst t<;>simp
      rw [←e1];generalize X++A++B++Y=s at*;by_cases t2:a+(i:Int)<m
      ·have t3:¬m<mid+m - (a+i):=fun q=>t1 ⟨t2,q⟩;simp (disch:=omega) only [Fw,Ep,hM,t2,t3,EVT,EVM,EVC,xe,EVP,EV,simprocAttr]
      ·simp (disch:=omega) only [Fw,Ep,hM,t2,EVT,EVM,EVC,xe,EVP,EV,simprocAttr]
     ·have t':A2≠[]∧B1≠[]:=by grind
      have p1:=Bd.2 t'.1;have p2:=Bd.2 t'.2;have hr:=Am5 (X++A1) A2 B1 (B2++Y) (a+i) m (mid+m - (a+i)) g caps (by simp only [Ab];omega) (by simp only [Ab];omega) (by simp only [Ab];omega) t'.1 t'.2 (by rw [←e0];exact hs);have t2:a+(i:Int)<m:=by omega
      have t3:m<mid+m - (a+i):=by omega
      rw [←e0] at hr;have e1:X++A1++B1++A2++(B2++Y)=X++A1++B1++(A2++B2++Y):=by simp
      rw [e1] at hr;generalize X++A1++B1++(A2++B2++Y)=s1 at*;generalize X++A++B++Y=s at*;simp (disch:=omega) only [Fw,Ep,hM,t2,t3,hr,D9,Ks,EVT,EVM,EVC,xe,EVP,EV,simprocAttr]
    have s2:(T.blk 0 X4 Ov).ev S N [Al (X++A++B++Y), .i .i64 a, .i .i64 m, .i .i64 b, .f g caps, .i .i64 (a+i0), .i .i64 (a+j0), .i .i64 (a+i),Al (X++A1++B1++(A2++B2++Y))]=
      Ov.ev S N [Al (X++A++B++Y), .i .i64 a, .i .i64 m, .i .i64 b, .f g caps, .i .i64 (a+i0), .i .i64 (a+j0), .i .i64 (a+i),Al (X++A1++B1++(A2++B2++Y)),Al ((X++mrg (leC c) A1 B1)++A2++B2++Y)]:=by
     by_cases t:A1=[]∨B1=[]
     ·have t1:¬(a<a+(i:Int)∧a+(i:Int)<mid):=by
       rcases t with t|t
       ·rw [t] at lA1;simp at lA1;omega
       ·rw [t] at lB1;simp at lB1;omega
      have e1:X++A1++B1++(A2++B2++Y)=(X++mrg (leC c) A1 B1)++A2++B2++Y:=by rcases t with t|t<;>subst t<;>simp [mrg,K8]
      rw [←e1];generalize X++A1++B1++(A2++B2++Y)=s1 at*;generalize X++A++B++Y=s at*;by_cases t2:a<a+(i:Int)
      ·have t3:¬a+(i:Int)<mid:=fun q=>t1 ⟨t2,q⟩;simp (disch:=omega) only [Fw,Ep,hM,t2,t3,EVT,EVM,EVC,xe,EVP,EV,simprocAttr]
      ·simp (disch:=omega) only [Fw,Ep,hM,t2,EVT,EVM,EVC,xe,EVP,EV,simprocAttr]
     ·have t':A1≠[]∧B1≠[]:=by grind
      have p1:=Bd.2 t'.1;have p2:=Bd.2 t'.2;have hr:=J1 hC ht n X A1 B1 (A2++B2++Y) a (a+i) mid (by omega) t'.1 t'.2 sA1 sB1 ha (by omega) (by omega) len1 mem1;have t2:a<a+(i:Int):=by omega
      have t3:a+(i:Int)<mid:=by omega
      have e1:X++mrg (leC c) A1 B1++(A2++B2++Y)=(X++mrg (leC c) A1 B1)++A2++B2++Y:=by simp
      rw [e1] at hr;generalize (X++mrg (leC c) A1 B1)++A2++B2++Y=s2 at*;generalize X++A1++B1++(A2++B2++Y)=s1 at*;generalize X++A++B++Y=s at*;simp (disch:=omega) only [Fw,Ep,hM,t2,t3,hr,D9,Ks,EVT,EVM,EVC,xe,EVP,EV,simprocAttr]
    have s3:Ov.ev S N [Al (X++A++B++Y), .i .i64 a, .i .i64 m, .i .i64 b, .f g caps, .i .i64 (a+i0), .i .i64 (a+j0), .i .i64 (a+i),Al (X++A1++B1++(A2++B2++Y)),Al ((X++mrg (leC c) A1 B1)++A2++B2++Y)]=
      some (.ret [Al (X++mrg (leC c) A B++Y)]):=by
     have e9:X++mrg (leC c) A B++Y=(X++mrg (leC c) A1 B1)++mrg (leC c) A2 B2++Y:=by rw [cut];simp
     rw [e9];by_cases t:A2=[]∨B2=[]
     ·have t1:¬(mid<mid+m - (a+i)∧mid+m - (a+(i:Int))<b):=by
       rcases t with t|t
       ·rw [t] at lA2;simp at lA2;omega
       ·rw [t] at lB2;simp at lB2;omega
      have e1:(X++mrg (leC c) A1 B1)++A2++B2++Y=(X++mrg (leC c) A1 B1)++mrg (leC c) A2 B2++Y:=by rcases t with t|t<;>subst t<;>simp [mrg,K8]
      rw [←e1];generalize (X++mrg (leC c) A1 B1)++A2++B2++Y=s2 at*;generalize X++A1++B1++(A2++B2++Y)=s1 at*;generalize X++A++B++Y=s at*;by_cases t2:mid<mid+m - (a+(i:Int))
      ·have t3:¬mid+m - (a+(i:Int))<b:=fun q=>t1 ⟨t2,q⟩;simp (disch:=omega) only [Fw,Ep,hM,t2,t3,EVT,EVM,EVC,xe,EVP,EV,simprocAttr]
      ·simp (disch:=omega) only [Fw,Ep,hM,t2,EVT,EVM,EVC,xe,EVP,EV,simprocAttr]
     ·have t':A2≠[]∧B2≠[]:=by grind
      have p1:=Bd.2 t'.1;have p2:=Bd.2 t'.2;have hr:=J1 hC ht n (X++mrg (leC c) A1 B1) A2 B2 Y mid (mid+m - (a+i)) b (by omega) t'.1 t'.2 sA2 sB2 (by simp only [Ab,lm1];omega) (by omega) (by omega) len2 mem2;have t2:mid<mid+m - (a+(i:Int)):=by omega
      have t3:mid+m - (a+(i:Int))<b:=by omega
      generalize (X++mrg (leC c) A1 B1)++mrg (leC c) A2 B2++Y=s3 at*;generalize (X++mrg (leC c) A1 B1)++A2++B2++Y=s2 at*;generalize X++A1++B1++(A2++B2++Y)=s1 at*;generalize X++A++B++Y=s at*;simp (disch:=omega) only [Fw,Ep,hM,t2,t3,hr,D9,Ks,EVT,EVM,EVC,xe,EVP,EV,simprocAttr]
    have f2:Oq.ev S N [Al (X++A++B++Y), .i .i64 a, .i .i64 m, .i .i64 b, .f g caps, .i .i64 (a+i0), .i .i64 (a+j0), .i .i64 (a+i),Al (X++A1++B1++(A2++B2++Y))]=some (.ret [Al (X++mrg (leC c) A B++Y)]):=s2.trans s3;have f1:=s1.trans f2;clear s1 s2 s3 f2 mem1 mem2 cut k4 k5;generalize X++mrg (leC c) A B++Y=s3 at*;generalize X++A++B++Y=s at*;simp (disch:=omega) only [Fw,q1,q2,Ep,hM,hc15,k1,f1,EVT,EVM,EVC,xe,EVP,EV,simprocAttr]
end
end Go.X.G
/- Stable sorting: the library's functions. -/
namespace Go.X.G
open Go Go.X
section
variable {g:Nat} {caps:List PV} {c:Rec→Rec→Int} {P:Rec→Prop}
theorem In7 (hC:Cmp g caps c P) (L L':List Rec) (i:Nat) (x y:Rec) (g0:L[i]? =some y) (g1:L[i+1]? =some x) (sw:(L.set (i+1) y).set i x=L') (k e:Int) (hk:k=i+1) (he:e<k) (he2:0≤e) (hx:P x) (hy:P y) (hlt:c x y<0) (hL:L.length≤1000000) (w0 w2 w4 w5:PV) (N:Nat):
  Lf.ev S N [w0, .i .i64 e,w2, .f g caps,w4,w5, .i .i64 k,Al L]=some (.yld 3 [.i .i64 (k - 1),Al L']):=by
 have hi:=(Aw.1 g1).1;have ti0:(k - 1).toNat=i:=by omega
 have ti1:k.toNat=i+1:=by omega
 have g2:(L.set (i+1) y)[i]? =some y:=by rw [Ac8 (by omega)];exact g0
 have hc:=hC.ok x y hx hy;simp (disch:=first|omega|(rw [Hw];omega)) only [Pd,I8,Lc,he,ti0,ti1,g0,g1,g2,sw,hc,hlt,EVT,EVM,EVC,xe,EVP,EV,simprocAttr]
theorem Bf2 (hC:Cmp g caps c P) (L:List Rec) (i:Nat) (x y:Rec) (g0:L[i]? =some y) (g1:L[i+1]? =some x) (k e:Int) (hk:k=i+1) (he:e<k) (hx:P x) (hy:P y) (hlt:¬c x y<0) (hL:L.length≤1000000) (w0 w2 w4 w5:PV) (N:Nat):
  Lf.ev S N [w0, .i .i64 e,w2, .f g caps,w4,w5, .i .i64 k,Al L]=some (.yld 2 [Al L]):=by
 have hi:=(Aw.1 g1).1;have ti0:(k - 1).toNat=i:=by omega
 have ti1:k.toNat=i+1:=by omega
 have hc:=hC.ok x y hx hy;simp (disch:=omega) only [Pd,I8,Lc,he,ti0,ti1,g0,g1,hc,hlt,EVT,EVM,EVC,xe,EVP,EV,simprocAttr]
theorem Ds1 (L:List Rec) (k e:Int) (he:¬e<k) (w0 w2 w3 w4 w5:PV) (N:Nat):
  Lf.ev S N [w0, .i .i64 e,w2,w3,w4,w5, .i .i64 k,Al L]=some (.yld 2 [Al L]):=by
 simp (disch:=omega) only [Pd,I8,Lc,he,EVT,EVM,EVC,xe,EVP,EV,simprocAttr]
theorem In6 (hC:Cmp g caps c P) (ht:TP (leC c)) (X R Y:List Rec) (x:Rec) (hR:R.Pairwise fun a b=>leC c a b=true) (hP:∀y∈X++R++x::Y,P y) (hs:(X++R++x::Y).length≤1000000) (a k:Int) (ha:a=X.length) (hk:k=a+R.length) (w0 w2:PV) (N:Nat) (hN:R.length<N):
  ∃R1 R2,R=R1++R2∧(∀y∈R1,leC c y x=true)∧(∀y∈R2,leC c y x=false)∧
   Bb7.ev S N [w0, .i .i64 a,w2, .f g caps, .i .i64 k,Al (X++R++x::Y)]=some (.yld 2 [Al (X++(R1++x::R2)++Y)]):=by
 have hx:P x:=hP x (by simp);have hs2:=hs;simp only [Ab,A0] at hs2;have key:=G5 (fn:=S) (N:=N) (η:=[w0, .i .i64 a,w2, .f g caps, .i .i64 k,Al (X++R++x::Y)]) (id:=3) (init:=[.v 4, .v 5]) (body:=Lf) (α:=List Rec×List Rec)
  (fun w=>[.i .i64 (a+w.1.length),Al (X++w.1++x::(w.2++Y))])
  (fun o=>∃R1 R2,R=R1++R2∧(∀y∈R1,leC c y x=true)∧(∀y∈R2,leC c y x=false)∧o= .yld 2 [Al (X++(R1++x::R2)++Y)])
  (fun w=>R=w.1++w.2∧∀y∈w.2,leC c y x=false) (fun w=>w.1.length) (R,[]) ?_ ⟨by simp,by simp⟩ hN ?_
 ·obtain ⟨o,h1,R1,R2,h2,h3,h4,rfl⟩:=key;exact ⟨R1,R2,h2,h3,h4,h1⟩
 ·subst hk;simp only [Cq];generalize X++R++x::Y=s at*;simp (disch:=omega) only [EVT,EVM,EVC,xe,EVP,EV,simprocAttr]
 ·rintro ⟨R1,R2⟩ ⟨h1,h2⟩;simp only at h1 h2;have hlen:=congrArg List.length h1;simp only [Ab] at hlen;rcases List.eq_nil_or_concat R1 with rfl|⟨R0,y,rfl⟩
  ·right;refine ⟨_,Ds1 _ _ a (by simp) _ _ _ _ _ N,rfl,[],R2,h1,by simp,h2,?_⟩;simp
  ·rw [List.concat_eq_append] at*;simp only [Ab,A0,Bf] at hlen;have hy:P y:=hP y (by rw [h1];simp);have lP:(X++R0).length=X.length+R0.length:=Ab;have g0:=c8 (X++R0) (x::(R2++Y)) y;have g1:=jy (X++R0) (R2++Y) y x;rw [lP] at g0 g1;have e0:X++(R0++[y])++x::(R2++Y)=X++R0++y::x::(R2++Y):=by simp
   have lL:(X++R0++y::x::(R2++Y)).length≤1000000:=by simp only [Ab,A0];omega
   by_cases hlt:c x y<0
   ·left;have sw0:((X++R0++y::x::(R2++Y)).set (X.length+R0.length+1) y).set (X.length+R0.length) x=X++R0++x::(y::R2++Y):=by rw [←lP,List.set_comm _ _ (by omega)];exact Fh6 (X++R0) (R2++Y) y x
    refine ⟨(R0,y::R2),?_,⟨by simp only;rw [h1];simp,fun w hw=> ?_⟩,by simp⟩
    ·have:=In7 hC _ _ (X.length+R0.length) x y g0 g1 sw0 (a+((R0++[y]).length:Nat)) a (by simp;omega) (by simp;omega) (by omega) hx hy hlt lL w0 w2 (.i .i64 k) (Al (X++R++x::Y)) N;have e1:a+((R0++[y]).length:Nat) - 1=a+(R0.length:Int):=by simp;omega
     rw [e1] at this;show Lf.ev S N [w0, .i .i64 a,w2, .f g caps, .i .i64 k,Al (X++R++x::Y), .i .i64 (a+((R0++[y]).length:Nat)),Al (X++(R0++[y])++x::(R2++Y))]=_;rw [e0];exact this
    ·rcases Am.1 hw with rfl|hw
     ·exact Dr6.2 hlt
     ·exact h2 w hw
   ·right;have hle:leC c y x=true:=Dr5.2 hlt;refine ⟨_,?_,rfl,R0++[y],R2,h1,gy ht (by rw [h1] at hR;exact (Fj.1 hR).1) hle,h2,rfl⟩;have:=Bf2 hC _ (X.length+R0.length) x y g0 g1 (a+((R0++[y]).length:Nat)) a (by simp;omega) (by simp;omega) hx hy hlt lL w0 w2 (.i .i64 k) (Al (X++R++x::Y)) N;show Lf.ev S N [w0, .i .i64 a,w2, .f g caps, .i .i64 k,Al (X++R++x::Y), .i .i64 (a+((R0++[y]).length:Nat)),Al (X++(R0++[y])++x::(R2++Y))]=_;rw [e0,this,←e0];simp
theorem U7 (hC:Cmp g caps c P) (ht:TP (leC c)) (X A Y:List Rec) (a b:Int) (ha:a=X.length) (hb:b=a+A.length) (hP:∀y∈X++A++Y,P y) (hs:(X++A++Y).length≤1000000):
  ∃R,Stab (leC c) R A∧R.length=A.length∧S Us 1048580 [Al (X++A++Y), .i .i64 a, .i .i64 b, .f g caps]=some [Al (X++R++Y)]:=by
 have hs2:=hs;simp only [Ab] at hs2;cases A with
 |nil=>
  refine ⟨[],Qd _,rfl,?_⟩;refine Ey6 (N:=2) rfl ?_;simp only [Bf] at hb;have h1:¬a+1<b:=by omega
  have key:jj.ev S 2 [Al (X++[]++Y), .i .i64 a, .i .i64 b, .f g caps]=some (.yld 0 [Al (X++[]++Y)]):=by
   generalize X++[]++Y=s at*;refine Gp 0 (fun _=>[.i .i64 (a+1),Al s]) (fun _=> .yld 0 [Al s]) ?_ (by omega) (fun i hi=>absurd hi (by omega)) ⟨?_,rfl⟩
   ·simp (disch:=omega) only [EVT,EVM,EVC,xe,EVP,EV,simprocAttr]
   ·simp (disch:=omega) only [Pd,I8,Lc,h1,EVT,EVM,EVC,xe,EVP,EV,simprocAttr]
  generalize X++[]++Y=s at*;simp (disch:=omega) only [Pd,I8,Lc,key,EVT,EVM,EVC,xe,EVP,EV,simprocAttr]
 |cons x0 A=>
  obtain ⟨N,hN⟩:∃N,N=A.length+3:=⟨_,rfl⟩;simp only [A0] at hb hs2;have key:=G5 (fn:=S) (N:=N) (η:=[Al (X++x0::A++Y), .i .i64 a, .i .i64 b, .f g caps]) (id:=1) (init:=[.bin .add (.v 1) (.c (.i .i64 1)), .v 0]) (body:=Yv) (α:=List Rec×List Rec×List Rec)
   (fun w=>[.i .i64 (a+w.1.length),Al (X++w.1++(w.2.2++Y))])
   (fun o=>∃R,Stab (leC c) R (x0::A)∧R.length=(x0::A).length∧o= .yld 0 [Al (X++R++Y)])
   (fun w=>x0::A=w.2.1++w.2.2∧Stab (leC c) w.1 w.2.1∧w.1.length=w.2.1.length) (fun w=>w.2.2.length) ([x0],[x0],A) ?_ ⟨rfl,gw _ _,rfl⟩ (by simp only;omega) ?_
  ·obtain ⟨o,h1,R,h2,h3,rfl⟩:=key;refine ⟨R,h2,h3,?_⟩;refine Ey6 (N:=N) rfl ?_;have h4:jj.ev S N [Al (X++x0::A++Y), .i .i64 a, .i .i64 b, .f g caps]=_:=h1;clear h1;generalize X++x0::A++Y=s at*;generalize X++R++Y=u at*;simp (disch:=omega) only [Pd,I8,Lc,h4,EVT,EVM,EVC,xe,EVP,EV,simprocAttr]
  ·simp only [A0,Bf];have e:X++[x0]++(A++Y)=X++x0::A++Y:=by simp
   rw [e];have e1:a+((0+1:Nat):Int)=a+1:=by omega
   rw [e1];generalize X++x0::A++Y=s at*;simp (disch:=omega) only [EVT,EVM,EVC,xe,EVP,EV,simprocAttr]
  ·rintro ⟨R,D,Z⟩ ⟨h1,h2,h3⟩;simp only at h1 h2 h3;have hlen:=congrArg List.length h1;simp only [Ab,A0] at hlen;cases Z with
   |nil=>
    right;rw [Dd] at h1;subst h1;refine ⟨_,?_,rfl,R,h2,h3,rfl⟩;have hlt:¬a+(R.length:Int)<b:=by simp only [A0] at h3;omega
    simp only [Cq];generalize X++x0::A++Y=s at*;have hu:(X++R++Y).length≤1000000:=by simp only [Ab];omega
    generalize X++R++Y=u at*;simp (disch:=omega) only [Pd,I8,Lc,hlt,EVT,EVM,EVC,xe,EVP,EV,simprocAttr]
   |cons x Z=>
    left;simp only [A0] at hlen;have hmem:∀y∈X++R++x::(Z++Y),P y:=fun y hy=>hP y (by
     rw [h1];have:=h2.mem ht y;simp only [Bc,Am] at hy ⊢
     grind)
    have hlen2:(X++R++x::(Z++Y)).length≤1000000:=by simp only [Ab,A0];omega
    obtain ⟨R1,R2,rfl,k1,k2,k3⟩:=In6 hC ht X R (Z++Y) x h2.sorted hmem hlen2 a (a+R.length) ha rfl (Al (X++x0::A++Y)) (.i .i64 b) N (by omega);refine ⟨(R1++x::R2,D++[x],Z),?_,⟨by simp only;rw [h1];simp,Dg5 ht h2 k1 k2,by simp at h3 ⊢;omega⟩,by simp⟩;have e1:a+((R1++x::R2).length:Nat)=a+((R1++R2).length:Nat)+1:=by simp;omega
    have hlt:a+((R1++R2).length:Nat)<b:=by omega
    show Yv.ev S N [Al (X++x0::A++Y), .i .i64 a, .i .i64 b, .f g caps, .i .i64 (a+((R1++R2).length:Nat)),Al (X++(R1++R2)++x::(Z++Y))]=some (.yld 1 [.i .i64 (a+((R1++x::R2).length:Nat)),Al (X++(R1++x::R2)++(Z++Y))]);rw [e1];have hb2:(R1++R2).length≤1000000:=by simp only [Ab] at hlen2 ⊢;omega
    generalize (R1++R2).length=n at*;generalize X++(R1++R2)++x::(Z++Y)=s1 at*;generalize X++(R1++x::R2)++(Z++Y)=s2 at*;generalize X++x0::A++Y=s at*;simp (disch:=omega) only [Pd,I8,Lc,hlt,k3,EVT,EVM,EVC,xe,EVP,EV,simprocAttr]
end
end Go.X.G
/- Stable sorting: the Mh. -/
namespace Go.X.G
open Go Go.X
theorem dr {α:Type} {le:α→α→Bool} (ht:TP le) {bs:Nat} {Y LY:List α} (h:Blk le bs Y LY) (hl:Y.length≤2*bs) (hb:bs<Y.length):Stab le (mrg le (Y.take bs) (Y.drop bs)) LY:=by have h1:=h.head;have h2:=(h.tail).all (by rw [B6];omega);have:=Stab.mrg ht h1 h2;rwa [Bs] at this
theorem Blk.pre {α:Type} {le:α→α→Bool} {bs k:Nat} {Y LY:List α} (h:Blk le bs Y LY):Blk le bs (Y.take (k*bs)) (LY.take (k*bs)):=by
 refine ⟨by simp [h.len],fun j=> ?_⟩;rw [List.drop_take,List.drop_take,Ac7,Ac7];by_cases hj:j<k
 ·have e:(j+1)*bs≤k*bs:=By _ hj;rw [Nat.succ_mul] at e;rw [M5 (by omega)];exact h.st j
 ·have e:k*bs≤j*bs:=By _ (by omega);rw [show k*bs - j*bs=0 by omega,Nat.min_eq_right (by omega),List.take_zero,List.take_zero];exact Qd le
section
variable {g:Nat} {caps:List PV} {c:Rec→Rec→Int} {P:Rec→Prop}
theorem Iq6 (hC:Cmp g caps c P) (ht:TP (leC c)) (l:List Rec) (hP:∀y∈l,P y) (hs:l.length≤1000000) (N:Nat) (hN:l.length+2<N):
  ∃(X LX Y:List Rec) (q:Nat),Bd2.ev S N [Al l, .i .i64 l.length, .f g caps]=some (.yld 0 [.i .i64 X.length,Al (X++Y)])∧l=LX++Y∧X.length=q*20∧Y.length<20∧Blk (leC c) 20 X LX∧∀y∈X++Y,P y:=by
 have key:=G5 (fn:=S) (N:=N) (η:=[Al l, .i .i64 l.length, .f g caps]) (id:=1) (init:=[.c (.i .i64 0), .c (.i .i64 20), .v 0]) (body:=mz) (α:=List Rec×List Rec×List Rec×Nat)
  (fun w=>[.i .i64 (w.1.length:Int), .i .i64 ((w.1.length:Int)+20),Al (w.1++w.2.2.1)])
  (fun o=>∃(X LX Y:List Rec) (q:Nat),o= .yld 0 [.i .i64 X.length,Al (X++Y)]∧l=LX++Y∧X.length=q*20∧Y.length<20∧Blk (leC c) 20 X LX∧∀y∈X++Y,P y)
  (fun w=>l=w.2.1++w.2.2.1∧w.1.length=w.2.2.2*20∧Blk (leC c) 20 w.1 w.2.1∧∀y∈w.1++w.2.2.1,P y) (fun w=>w.2.2.1.length) ([],[],l,0) ?_ ⟨rfl,by simp,Blk.nil _ _,by simpa using hP⟩ (by simp only;omega) ?_
 ·obtain ⟨o,h1,X,LX,Y,q,rfl,h2⟩:=key;exact ⟨X,LX,Y,q,h1,h2⟩
 ·simp (disch:=omega) only [EVT,EVM,EVC,xe,EVP,EV,simprocAttr]
  try simp
 ·rintro ⟨X,LX,Y,q⟩ ⟨h1,h2,h3,h4⟩;simp only at h1 h2 h3 h4;have hlen:=congrArg List.length h1;simp only [Ab] at hlen;have hXL:=h3.len;by_cases hge:20≤Y.length
  ·left;have eY:Y.take 20++Y.drop 20=Y:=Bs _ _;have l1:(Y.take 20).length=20:=by rw [An];omega
   have l2:(Y.drop 20).length=Y.length - 20:=B6;have eXY:X++Y.take 20++Y.drop 20=X++Y:=by rw [As,eY]
   obtain ⟨R,k1,k2,k3⟩:=U7 hC ht X (Y.take 20) (Y.drop 20) (X.length:Int) ((X.length:Int)+20) rfl (by omega) (by rw [eXY];exact h4) (by rw [eXY,Ab];omega);rw [eXY] at k3;refine ⟨(X++R,LX++Y.take 20,Y.drop 20,q+1),?_,⟨by simp only;rw [h1,As,eY],by simp only [Ab];omega,Blk.app h2 h3 (Blk.one k1 k2 (by omega)),fun y hy=>h4 y ?_⟩,by simp only;omega⟩
   ·have e1:((X++R).length:Int)=(X.length:Int)+20:=by simp only [Ab];omega
    have hge':(X.length:Int)+20≤(l.length:Int):=by omega
    simp only;rw [e1];generalize X++R++Y.drop 20=s1 at*;generalize X++Y=s0 at*;simp (disch:=omega) only [Pf,hge',k3,D9,Ks,EVT,EVM,EVC,xe,EVP,EV,simprocAttr]
   ·have:=k1.mem ht y;simp only [Bc] at hy;rcases hy with (hy|hy)|hy
    ·simp [hy]
    ·exact Br _ (Fv (this.1 hy))
    ·exact Br _ (Ih hy)
  ·right;have hge':¬(X.length:Int)+20≤(l.length:Int):=by omega
   refine ⟨.yld 0 [.i .i64 X.length,Al (X++Y)],?_,rfl,X,LX,Y,q,rfl,h1,h2,by omega,h3,h4⟩;simp only;generalize X++Y=s0 at*;simp (disch:=omega) only [Pf,hge',EVT,EVM,EVC,xe,EVP,EV,simprocAttr]
theorem Iq5 (hC:Cmp g caps c P) (ht:TP (leC c)) (l r:List Rec) (bs:Nat) (hbs:0<bs) (hbs2:bs<l.length) (hr:Blk (leC c) bs r l) (hP:∀y∈r,P y) (hs:l.length≤1000000) (w0:PV) (w3 w4 w5:PV) (N:Nat) (hN:l.length+2<N):
  ∃(X LX Y LY:List Rec) (q:Nat),Bb4.ev S N [w0, .i .i64 l.length, .f g caps,w3,w4,w5, .i .i64 bs,Al r]=some (.yld 2 [.i .i64 X.length,Al (X++Y)])∧l=LX++LY∧X.length=q*(2*bs)∧Y.length<2*bs∧Blk (leC c) (2*bs) X LX∧Blk (leC c) bs Y LY∧∀y∈X++Y,P y:=by
 have key:=G5 (fn:=S) (N:=N) (η:=[w0, .i .i64 l.length, .f g caps,w3,w4,w5, .i .i64 bs,Al r]) (id:=3) (init:=[.c (.i .i64 0), .bin .mul (.c (.i .i64 2)) (.v 6), .v 7]) (body:=l9) (α:=(List Rec×List Rec)×(List Rec×List Rec)×Nat)
  (fun w=>[.i .i64 (w.1.1.length:Int), .i .i64 ((w.1.1.length:Int)+2*bs),Al (w.1.1++w.2.1.1)])
  (fun o=>∃(X LX Y LY:List Rec) (q:Nat),o= .yld 2 [.i .i64 X.length,Al (X++Y)]∧l=LX++LY∧X.length=q*(2*bs)∧Y.length<2*bs∧Blk (leC c) (2*bs) X LX∧Blk (leC c) bs Y LY∧∀y∈X++Y,P y)
  (fun w=>l=w.1.2++w.2.1.2∧w.1.1.length=w.2.2*(2*bs)∧Blk (leC c) (2*bs) w.1.1 w.1.2∧Blk (leC c) bs w.2.1.1 w.2.1.2∧∀y∈w.1.1++w.2.1.1,P y) (fun w=>w.2.1.1.length) (([],[]),(r,l),0) ?_ ⟨rfl,by simp,Blk.nil _ _,hr,by simpa using hP⟩ (by have:=hr.len;simp only;omega) ?_
 ·obtain ⟨o,h1,X,LX,Y,LY,q,rfl,h2⟩:=key;exact ⟨X,LX,Y,LY,q,h1,h2⟩
 ·simp (disch:=omega) only [EVT,EVM,EVC,xe,EVP,EV,simprocAttr];simp
 ·rintro ⟨⟨X,LX⟩,⟨Y,LY⟩,q⟩ ⟨h1,h2,h3,h4,h5⟩;simp only at h1 h2 h3 h4 h5;have hlen:=congrArg List.length h1;simp only [Ab] at hlen;have hXL:=h3.len;have hYL:=h4.len;by_cases hge:2*bs≤Y.length
  ·left;have eY:Y.take (2*bs)++Y.drop (2*bs)=Y:=Bs _ _;have l1:(Y.take (2*bs)).length=2*bs:=by rw [An];omega
   have l2:(Y.drop (2*bs)).length=Y.length - 2*bs:=B6;have hp:=h4.pre (k:=2);have hz:Blk (leC c) bs (Y.drop (2*bs)) (LY.drop (2*bs)):=by have:=h4.tail.tail;rwa [C7,C7,show bs+bs=2*bs by omega] at this
   have hst:=dr ht hp (by omega) (by omega);have sA:((Y.take (2*bs)).take bs).Pairwise fun x y=>leC c x y=true:=hp.head.sorted;have sB:((Y.take (2*bs)).drop bs).Pairwise fun x y=>leC c x y=true:=(hp.tail.all (by rw [B6];omega)).sorted;have lA:((Y.take (2*bs)).take bs).length=bs:=by rw [An];omega
   have lB:((Y.take (2*bs)).drop bs).length=bs:=by rw [B6];omega
   have eAB:(Y.take (2*bs)).take bs++(Y.take (2*bs)).drop bs=Y.take (2*bs):=Bs _ _;generalize (Y.take (2*bs)).take bs=A at*;generalize (Y.take (2*bs)).drop bs=B at*;have eXY:X++A++B++Y.drop (2*bs)=X++Y:=by rw [As X,eAB,As,eY]
   have hm:=J1 hC ht (A.length+B.length) X A B (Y.drop (2*bs)) (X.length:Int) ((X.length:Int)+bs) ((X.length:Int)+2*bs) (Af _) (by intro e;rw [e] at lA;simp at lA;omega) (by intro e;rw [e] at lB;simp at lB;omega) sA sB rfl (by omega) (by omega) (by rw [eXY,Ab];omega) (by rw [eXY];exact h5);rw [eXY] at hm;have lM:=Sq (leC c) A B;have eL:LY.take (2*bs)++LY.drop (2*bs)=LY:=Bs _ _;refine ⟨((X++mrg (leC c) A B,LX++LY.take (2*bs)),(Y.drop (2*bs),LY.drop (2*bs)),q+1),?_,⟨by simp only;rw [h1,As,eL],by simp only [Ab];rw [Nat.succ_mul];omega,Blk.app h2 h3 (Blk.one hst (by rw [lM,An];omega) (by omega)),hz,fun y hy=>h5 y ?_⟩,by simp only;omega⟩
   ·have e1:((X++mrg (leC c) A B).length:Int)=(X.length:Int)+2*bs:=by simp only [Ab];omega
    have hge':(X.length:Int)+2*(bs:Int)≤(l.length:Int):=by omega
    simp only;rw [e1];generalize X++mrg (leC c) A B++Y.drop (2*bs)=s1 at*;generalize X++Y=s0 at*;simp (disch:=omega) only [Pf,hge',hm,D9,Ks,EVT,EVM,EVC,xe,EVP,EV,simprocAttr]
   ·rw [←eXY];simp only [Bc,mrg_mem] at hy ⊢
    grind
  ·right;have hge':¬(X.length:Int)+2*(bs:Int)≤(l.length:Int):=by omega
   refine ⟨.yld 2 [.i .i64 X.length,Al (X++Y)],?_,rfl,X,LX,Y,LY,q,rfl,h1,h2,by omega,h3,h4,h5⟩;simp only;generalize X++Y=s0 at*;simp (disch:=omega) only [Pf,hge',EVT,EVM,EVC,xe,EVP,EV,simprocAttr]
theorem Iq7 (hC:Cmp g caps c P) (ht:TP (leC c)) (l r:List Rec) (bs:Nat) (hbs:0<bs) (hbs2:bs<l.length) (hr:Blk (leC c) bs r l) (hP:∀y∈r,P y) (hs:l.length≤1000000) (w0 w3 w4 w5:PV) (N:Nat) (hN:l.length+2<N):
  ∃r',Blk (leC c) (2*bs) r' l∧(∀y∈r',P y)∧Yq.ev S N [w0, .i .i64 l.length, .f g caps,w3,w4,w5, .i .i64 bs,Al r]=some (.yld 1 [.i .i64 ((2*bs:Nat):Int),Al r']):=by
 obtain ⟨X,LX,Y,LY,q,k,h1,h2,h3,h4,h5,h6⟩:=Iq5 hC ht l r bs hbs hbs2 hr hP hs w0 w3 w4 w5 N hN;have hlen:=congrArg List.length h1;simp only [Ab] at hlen;have hXL:=h4.len;have hYL:=h5.len;have hlt:(bs:Int)<(l.length:Int):=by omega
 have e2:((2*bs:Nat):Int)=(bs:Int)*2:=by omega
 rw [e2];by_cases hge:bs<Y.length
 ·have eY:Y.take bs++Y.drop bs=Y:=Bs _ _;have hst:=dr ht h5 (by omega) hge;have sA:=h5.head.sorted;have sB:=(h5.tail.all (by rw [B6];omega)).sorted;have lA:(Y.take bs).length=bs:=by rw [An];omega
  have lB:(Y.drop bs).length=Y.length - bs:=B6;generalize Y.take bs=A at*;generalize Y.drop bs=B at*;have eXY:X++A++B++[]=X++Y:=by rw [Dd,As,eY]
  have hm:=J1 hC ht (A.length+B.length) X A B [] (X.length:Int) ((X.length:Int)+bs) (l.length:Int) (Af _) (by intro e;rw [e] at lA;simp at lA;omega) (by intro e;rw [e] at lB;simp at lB;omega) sA sB rfl (by omega) (by omega) (by rw [eXY,Ab];omega) (by rw [eXY];exact h6);rw [eXY,Dd] at hm;have lM:=Sq (leC c) A B;refine ⟨X++mrg (leC c) A B,by rw [h1];exact Blk.app h2 h4 (Blk.one hst (by omega) (by omega)),fun y hy=>h6 y (by
   rw [←eXY];simp only [Bc,mrg_mem] at hy ⊢
   grind),?_⟩
  have hge':(X.length:Int)+(bs:Int)<(l.length:Int):=by omega
  generalize X++mrg (leC c) A B=s1 at*;generalize X++Y=s0 at*;simp (disch:=omega) only [Pf,hlt,hge',k,hm,D9,Ks,EVT,EVM,EVC,xe,EVP,EV,simprocAttr]
 ·refine ⟨X++Y,by rw [h1];exact Blk.app h2 h4 (Blk.one (h5.all (by omega)) hYL (by omega)),h6,?_⟩;have hge':¬(X.length:Int)+(bs:Int)<(l.length:Int):=by omega
  generalize X++Y=s0 at*;simp (disch:=omega) only [Pf,hlt,hge',k,EVT,EVM,EVC,xe,EVP,EV,simprocAttr]
theorem Al0 (hC:Cmp g caps c P) (ht:TP (leC c)) (l:List Rec) (hP:∀y∈l,P y) (hs:l.length≤1000000):
  ∃r,Stab (leC c) r l∧r.length=l.length∧S bg 1048579 [Al l, .i .i64 l.length, .f g caps]=some [Al r]:=by
 obtain ⟨N,hN⟩:∃N,N=l.length+3:=⟨_,rfl⟩;obtain ⟨X,LX,Y,q,k0,h1,h2,h3,h4,h5⟩:=Iq6 hC ht l hP hs N (by omega);have hlen:=congrArg List.length h1;simp only [Ab] at hlen;have hXL:=h4.len;obtain ⟨R,i1,i2,i3⟩:=U7 hC ht X Y [] (X.length:Int) (l.length:Int) rfl (by omega) (by simpa using h5) (by simp;omega);simp only [Dd] at i3;have hB:Blk (leC c) 20 (X++R) l:=by rw [h1];exact Blk.app h2 h4 (Blk.one i1 i2 (by omega))
 have hP':∀y∈X++R,P y:=fun y hy=>h5 y (by
  have:=i1.mem ht y;simp only [Bc] at hy ⊢
  grind)
 have key:=G5 (fn:=S) (N:=N) (η:=[Al l, .i .i64 l.length, .f g caps, .i .i64 X.length,Al (X++Y),Al (X++R)]) (id:=1) (init:=[.c (.i .i64 20), .v 5]) (body:=Yq) (α:=Nat×List Rec)
  (fun w=>[.i .i64 (w.1:Int),Al w.2])
  (fun o=>∃r,Stab (leC c) r l∧r.length=l.length∧o= .yld 0 [Al r])
  (fun w=>0<w.1∧Blk (leC c) w.1 w.2 l∧∀y∈w.2,P y) (fun w=>l.length - w.1) (20,X++R) ?_ ⟨by simp,hB,hP'⟩ (by simp only;omega) ?_
 ·obtain ⟨o,k1,r,k2,k3,rfl⟩:=key;refine ⟨r,k2,k3,?_⟩;refine Hk5 (N:=N) rfl ?_;have k4:Bb8.ev S N [Al l, .i .i64 l.length, .f g caps, .i .i64 X.length,Al (X++Y),Al (X++R)]=_:=k1;clear k1;generalize X++Y=s0 at*;generalize X++R=s1 at*;simp (disch:=omega) only [Pf,k0,i3,k4,D9,Ks,EVT,EVM,EVC,xe,EVP,EV,simprocAttr]
 ·generalize X++Y=s0 at*;generalize X++R=s1 at*;simp (disch:=omega) only [EVT,EVM,EVC,xe,EVP,EV,simprocAttr]
 ·rintro ⟨bs,r⟩ ⟨g1,g2,g3⟩;simp only at g1 g2 g3;have hr:=g2.len;by_cases hlt:bs<l.length
  ·left;obtain ⟨r',k1,k2,k3⟩:=Iq7 hC ht l r bs g1 hlt g2 g3 hs (Al l) (.i .i64 X.length) (Al (X++Y)) (Al (X++R)) N (by omega);exact ⟨(2*bs,r'),k3,⟨by simp only;omega,k1,k2⟩,by simp only;omega⟩
  ·right;have hlt':¬(bs:Int)<(l.length:Int):=by omega
   refine ⟨.yld 0 [Al r],?_,rfl,r,g2.all (by omega),hr,rfl⟩;generalize X++Y=s0 at*;generalize X++R=s1 at*;simp (disch:=omega) only [Pf,hlt',EVT,EVM,EVC,xe,EVP,EV,simprocAttr]
theorem Kk (hC:Cmp g caps c P) (ht:TP (leC c)) (l:List Rec) (hP:∀y∈l,P y) (hs:l.length≤1000000):
  ∃r,Stab (leC c) r l∧r.length=l.length∧S Bv9 1048578 [Al l, .f g caps]=some [Al r]:=by
 obtain ⟨r,h1,h2,h3⟩:=Al0 hC ht l hP hs;refine ⟨r,h1,h2,?_⟩;refine Ix1 (N:=1) rfl ?_;simp (disch:=omega) only [Ht0,h3,D9,Ks,EVT,EVM,EVC,xe,EVP,EV,simprocAttr]
end
end Go.X.G
/- Records compacted: the library's function. -/
namespace Go.X.G
open Go Go.X
theorem m9 (l:List Rec) (g:Nat) (caps:List PV) (eq2:Rec→Rec→Bool) (h:∀x∈l,∀y∈l,S g 2 (x.pv::y.pv::caps)=some [.b (eq2 x y)]) (hl:l.length≤1000000):S Bv8 1048578 [Al l, .f g caps]=some [Al (cpt eq2 l)]:=by
 refine Iw9 (N:=l.length+2) rfl ?_;by_cases h2:(l.length:Int)<2
 ·have e:cpt eq2 l=l:=by
   match l,h2 with
   |[],_=>rfl
   |[x],_=>rfl
   |_::_::_,h=>simp at h;omega
  rw [e];simp (disch:=omega) only [V8,h2,EVT,EVM,EVC,xe,EVP,EV,simprocAttr]
 ·-- the inner Gk, from a place where two neighbours are equal
  have inner:∀k:Nat,1≤k→k<l.length→cpt eq2 (l.take (k+1))=l.take k→∃s:List Rec,s.length=l.length∧s.take (cpt eq2 l).length=cpt eq2 l∧Ez7.ev S (l.length+2) [Al l, .f g caps, .i .i64 (k:Int),Al l, .b true]=some (.yld 2 [.i .i64 ((cpt eq2 l).length:Int),Al s]):=by
   intro k hk1 hk hcp;have key:=G5 (fn:=S) (N:=l.length+2) (η:=[Al l, .f g caps, .i .i64 (k:Int),Al l, .b true]) (id:=3) (init:=[(.v 2),(.c (.i .i64 (1))),(.v 3)]) (body:=Ct3) (α:=Nat×Nat×List Rec)
    (fun a=>[.i .i64 (a.1:Int), .i .i64 (a.2.1:Int),Al a.2.2])
    (fun o=>∃s:List Rec,s.length=l.length∧s.take (cpt eq2 l).length=cpt eq2 l∧o= .yld 2 [.i .i64 ((cpt eq2 l).length:Int),Al s])
    (fun a=>1≤a.2.1∧k+a.2.1≤l.length∧a.1<k+a.2.1∧a.2.2.length=l.length∧a.2.2.take a.1=cpt eq2 (l.take (k+a.2.1))∧(cpt eq2 (l.take (k+a.2.1))).length=a.1∧a.2.2.drop (k+a.2.1 - 1)=l.drop (k+a.2.1 - 1))
    (fun a=>l.length - a.2.1) (k,1,l) (by simp (disch:=omega) only [EVT,EVM,EVC,xe,EVP,EV,simprocAttr])
    ⟨by simp,by simp;omega,by simp,rfl,by simp only;rw [hcp],by simp only;rw [hcp,An];omega,rfl⟩ (by simp only;omega) ?_
   ·obtain ⟨o,h3,s,h4,h5,rfl⟩:=key;exact ⟨s,h4,h5,h3⟩
   ·rintro ⟨i,j,s⟩ ⟨a1,a2,a3,a4,a5,a6,a7⟩;simp only at a1 a2 a3 a4 a5 a6 a7;by_cases hj:k+j<l.length
    ·left;have c1:s[k+j]? =l[k+j]? :=by have:=congrArg (fun q=>q[1]?) a7;simp only [A7] at this;rwa [show k+j - 1+1=k+j by omega] at this
     have c0:s[k+j - 1]? =l[k+j - 1]? :=by have:=congrArg (fun q=>q[0]?) a7;simpa only [A7,Dy] using this
     have g1:l[k+j]? =some (l[k+j]'hj):=Az hj;have g0:l[k+j - 1]? =some (l[k+j - 1]'(by omega)):=Az (by omega);have tk:l.take (k+(j+1))=l.take (k+j)++[l[k+j]'hj]:=by rw [show k+(j+1)=(k+j)+1 by omega,Cc,g1];rfl
     have ne:l.take (k+j)≠[]:=by intro h;have:=congrArg List.length h;rw [An,Bf] at this;omega
     have gl:(l.take (k+j)).getLast ne=l[k+j - 1]'(by omega):=by rw [I5];simp only [nk,An];congr 1;omega
     have cs:=L8 eq2 (l[k+j]'hj) (l.take (k+j)) ne;rw [←tk,gl] at cs;have hc:=h (l[k+j]'hj) (Dt _) (l[k+j - 1]'(by omega)) (Dt _);generalize l[k+j]'hj=x at*;generalize l[k+j - 1]'(by omega)=y at*;have hjj:(j:Int)<(s.length:Int) - (k:Int):=by omega
     have i1:H6 16 (Al s) (.i .i64 ((k:Int)+(j:Int)))=some x.pv:=by rw [N4 _ _ _ (by omega),show ((k:Int)+(j:Int)).toNat=k+j by omega,c1,g1];rfl
     have i0:H6 16 (Al s) (.i .i64 ((k:Int)+((j:Int) - 1)))=some y.pv:=by rw [N4 _ _ _ (by omega),show ((k:Int)+((j:Int) - 1)).toNat=k+j - 1 by omega,c0,g0];rfl
     have ls:Iv 16 (Al s) (.i .i64 (k:Int)) (.i .i64 (s.length:Int))=some (Al (s.drop k)):=by rw [L2 _ _ _ _ _ (by omega) (by omega) (by omega)];simp
     have e1:(s.drop k)[j]? =some x:=by rw [A7,c1,g1]
     have e0:(s.drop k)[j - 1]? =some y:=by rw [A7,show k+(j - 1)=k+j - 1 by omega,c0,g0]
     have si:∃w,s[i]? =some w:=⟨_,Az (by omega)⟩;obtain ⟨w,si⟩:=si;have ej:((j:Int) - 1).toNat=j - 1:=by omega
     by_cases hxy:eq2 x y=true
     ·refine ⟨(i,j+1,s),?_,⟨by simp,by simp only;omega,by simp only;omega,a4,?_,?_,?_⟩,by simp only;omega⟩
      ·simp (disch:=omega) only [V8,hjj,i1,i0,ls,e1,e0,ej,hc,hxy,EVT,EVM,EVC,xe,EVP,EV,simprocAttr]
      ·simp only;rw [cs,a5];simp [hxy]
      ·simp only;rw [cs,Ab,a6];simp [hxy]
      ·simp only;rw [show k+(j+1) - 1=(k+j - 1)+1 by omega,←C7,←C7,a7]
     ·refine ⟨(i+1,j+1,s.set i x),?_,⟨by simp,by simp only;omega,by simp only;omega,by simpa using a4,?_,?_,?_⟩,by simp only;omega⟩
      ·simp (disch:=omega) only [V8,hjj,i1,i0,ls,e1,e0,ej,si,hc,hxy,EVT,EVM,EVC,xe,EVP,EV,simprocAttr]
      ·simp only;rw [cs,Cc,List.getElem?_set_self (by omega),List.take_set_of_le (by omega),a5];simp [hxy]
      ·simp only;rw [cs,Ab,a6];simp [hxy]
      ·simp only;rw [show k+(j+1) - 1=(k+j - 1)+1 by omega,Ff7 (by omega),←C7,←C7,a7]
    ·right;have ek:k+j=l.length:=by omega
     rw [ek,C4] at a5 a6;have hjj:¬(j:Int)<(s.length:Int) - (k:Int):=by omega
     refine ⟨.yld 2 [.i .i64 (i:Int),Al s],?_,rfl,s,a4,by rw [a6];exact a5,by rw [a6]⟩;simp (disch:=omega) only [V8,hjj,EVT,EVM,EVC,xe,EVP,EV,simprocAttr]
  have key:Eb3.ev S (l.length+2) [Al l, .f g caps]=some (if cpt eq2 l=l then .yld 0 [Al l] else .ret [Al (cpt eq2 l)]):=by
   have:=G5 (fn:=S) (N:=l.length+2) (η:=[Al l, .f g caps]) (id:=1) (init:=[(.c (.i .i64 (1))),(.v 0)]) (body:=Ct9) (α:=Nat)
    (fun k=>[.i .i64 (k:Int),Al l]) (fun o=>o=if cpt eq2 l=l then .yld 0 [Al l] else .ret [Al (cpt eq2 l)])
    (fun k=>1≤k∧k≤l.length∧cpt eq2 (l.take k)=l.take k) (fun k=>l.length - k) 1 (by simp (disch:=omega) only [EVT,EVM,EVC,xe,EVP,EV,simprocAttr])
    ⟨Af 1,by omega,by cases l with
     |nil=>simp at h2
     |cons x r=>rfl⟩ (by omega) ?_
   ·obtain ⟨o,h3,h4⟩:=this;rw [←h4];exact h3
   ·rintro k ⟨k1,k2,k3⟩;by_cases hk:k<l.length
    ·have g1:l[k]? =some l[k]:=Az hk;have g0:l[k - 1]? =some (l[k - 1]'(by omega)):=Az (by omega);have tk:l.take (k+1)=l.take k++[l[k]]:=by rw [Cc,g1];rfl
     have ne:l.take k≠[]:=by intro h;have:=congrArg List.length h;rw [An,Bf] at this;omega
     have gl:(l.take k).getLast ne=l[k - 1]'(by omega):=by rw [I5];simp only [nk,An];congr 1;omega
     have cs:=L8 eq2 l[k] (l.take k) ne;rw [←tk,gl,k3] at cs;have hkk:(k:Int)<(l.length:Int):=by omega
     have i1:H6 16 (Al l) (.i .i64 (k:Int))=some (l[k]).pv:=by rw [N4 _ _ _ (by omega),show ((k:Int)).toNat=k by omega,g1];rfl
     have i0:H6 16 (Al l) (.i .i64 ((k:Int) - 1))=some (l[k - 1]'(by omega)).pv:=by rw [N4 _ _ _ (by omega),show ((k:Int) - 1).toNat=k - 1 by omega,g0];rfl
     have hc:=h l[k] (Dt _) (l[k - 1]'(by omega)) (Dt _);by_cases hxy:eq2 l[k] (l[k - 1]'(by omega))=true
     ·right;have cs':cpt eq2 (l.take (k+1))=l.take k:=by rw [cs];simp [hxy]
      obtain ⟨s,s1,s2,s3⟩:=inner k k1 hk cs';have hlt:cpt eq2 l≠l:=by
       intro h;have q:(cpt eq2 l).length≤(cpt eq2 (l.take (k+1))).length+(l.drop (k+1)).length:=by
        have:∀(b a:List Rec),a≠[]→(cpt eq2 (a++b)).length≤(cpt eq2 a).length+b.length:=by
         intro b
         induction b with
         |nil=>intro a _;simp
         |cons x r ih=>
          intro a ha;have h1:=ih (a++[x]) (by simp);rw [L8 _ _ _ ha] at h1;rw [show a++x::r=a++[x]++r by simp];refine C9 h1 ?_;rw [Ab];split<;>simp<;>omega
        have h3:=this (l.drop (k+1)) (l.take (k+1)) (by intro h;have:=congrArg List.length h;rw [An,Bf] at this;omega);rwa [Bs] at h3
       rw [h,cs',An,B6] at q;omega
      have hlen:=S5 eq2 l;refine ⟨.ret [Al (cpt eq2 l)],?_,rfl,by rw [if_neg hlt]⟩;generalize cpt eq2 l=fl at*;have ls:Iv 16 (Al l) (.i .i64 (k:Int)) (.i .i64 (l.length:Int))=some (Al (l.drop k)):=by rw [L2 _ _ _ _ _ (by omega) (by omega) (by omega)];simp
      have hsl1:Iv 16 (Al s) (.i .i64 ((fl.length:Nat):Int)) (.i .i64 (s.length:Int))=some (Al (s.drop fl.length)):=by rw [L2 _ _ _ _ _ (by omega) (by omega) (by omega)];simp
      have hsl2:Iv 16 (Al s) (.i .i64 0) (.i .i64 ((fl.length:Nat):Int))=some (Al fl):=by rw [L2 _ _ _ _ _ (by omega) (by omega) (by omega)];simp [s2]
      have hrep:K2 16 (.i .i64 ((s.length:Int) - (fl.length:Int))) Ad1=some (Al (List.replicate (s.length - fl.length) zr)):=by rw [Dh8 _ (by omega) (by omega)];congr 3;omega
      have happ:H8 16 (Al fl) (Al (List.replicate (s.length - fl.length) zr))=some (Al (fl++List.replicate (s.length - fl.length) zr)):=Q2 _ _ (by simp;omega);have hsl3:Iv 16 (Al (fl++List.replicate (s.length - fl.length) zr)) (.i .i64 0) (.i .i64 ((fl.length:Nat):Int))=some (Al fl):=by rw [L2 _ _ _ _ _ (by omega) (by omega) (by simp;omega)];simp
      simp (disch:=omega) only [V8,hkk,i1,i0,hc,hxy,ls,s3,hsl1,hsl2,hrep,happ,hsl3,EVT,EVM,EVC,xe,EVP,EV,simprocAttr]
     ·left;refine ⟨k+1,?_,⟨by omega,by omega,?_⟩,by omega⟩
      ·simp (disch:=omega) only [V8,hkk,i1,i0,hc,hxy,EVT,EVM,EVC,xe,EVP,EV,simprocAttr]
      ·rw [cs,tk];simp [hxy]
    ·right;have e:k=l.length:=by omega
     subst e;rw [C4] at k3;refine ⟨_,?_,?_,rfl⟩
     ·rw [if_pos k3];simp (disch:=omega) only [V8,EVT,EVM,EVC,xe,EVP,EV,simprocAttr]
     ·rw [if_pos k3];rfl
  by_cases hh:cpt eq2 l=l
  ·rw [if_pos hh] at key;rw [hh];simp (disch:=omega) only [V8,h2,key,EVT,EVM,EVC,xe,EVP,EV,simprocAttr]
  ·rw [if_neg hh] at key;simp (disch:=omega) only [V8,h2,key,EVT,EVM,EVC,xe,EVP,EV,simprocAttr]
end Go.X.G
/- Lists of records in the program: which are valid, their order, their sorting. -/
namespace Go.X.G
open Go Go.X
theorem Dk9 (r:Rec) (h:r.wf):S Bw9 1 [r.pv]=some [.b (Iz r)]:=by
 refine Iy8 (N:=1) rfl ?_;have g:r.name.length≤9223372036854775807:=h.name;have h1:=B4 r.name g;have h2:=Cn r.typ;have h3:=Uy r.typ r.data h.data;unfold Iz;by_cases k0:0≤r.ttl<;>by_cases k1:r.ttl≤2147483647
 all_goals rcases ch3 (vld r.name) (knw r.typ) (Ev r.typ r.data) with e0|⟨e0,e1⟩|⟨e0,e1,e2⟩|⟨e0,e1,e2⟩
 all_goals simp only [*] at h1 h2 h3
 all_goals simp (disch:=omega) only [Ht8,Xd,Fb,h1,h2,h3,EVC,xe,EVP,EV,simprocAttr, *]
 all_goals simp
theorem Ff6 (x:Int):S Ur 1 [.i .i64 x]=some [.b false]:=by refine Gt8 (N:=1) rfl ?_;simp (disch:=omega) only [Gh5,EVC,xe,EVP,EV,simprocAttr]
theorem Dq7 (a b:Int):S U2 2 [.i .i64 a, .i .i64 b]=some [.i .i64 (t8 a b)]:=by
 refine Hk4 (N:=1) rfl ?_;have h1:=Ff6 a;have h2:=Ff6 b;unfold t8;by_cases k1:a<b
 ·simp (disch:=omega) only [Af8,h1,h2,k1,EVC,xe,EVP,EV,simprocAttr]
 ·by_cases k2:b<a
  ·simp (disch:=omega) only [Af8,h1,h2,k1,k2,EVC,xe,EVP,EV,simprocAttr]
  ·simp (disch:=omega) only [Af8,h1,h2,k1,k2,EVC,xe,EVP,EV,simprocAttr]
theorem q9 (a b:Rec) (ha:a.wf) (hb:b.wf):S Av5 2 [a.pv,b.pv]=some [.i .i64 (Tl a b)]:=by
 refine Iw7 (N:=1) rfl ?_;have g1:a.name.length≤9223372036854775807:=ha.name;have g2:b.name.length≤9223372036854775807:=hb.name;have h1:=Ty a.name b.name g1 g2;have h2:=Dq7 a.typ b.typ;have h3:=m8 a.typ a.data b.data ha.data hb.data;unfold Tl;by_cases k1:Jw a.name b.name=0
 ·by_cases k2:t8 a.typ b.typ=0
  ·rw [k1] at h1;rw [k2] at h2;simp (disch:=omega) only [Fg0,Xd,Fb,h1,h2,h3,EVC,xe,EVP,EV,simprocAttr];simp [k1,k2]
  ·rw [k1] at h1;simp (disch:=omega) only [Fg0,h1,h2,k2,EVC,xe,EVP,EV,simprocAttr];simp [k1,k2]
 ·simp (disch:=omega) only [Fg0,h1,k1,EVC,xe,EVP,EV,simprocAttr]
theorem mr (a b:Rec) (ha:a.wf) (hb:b.wf):S Av7 2 [a.pv,b.pv]=some [.i .i64 (Gv3 a b)]:=by
 refine Ix0 (N:=1) rfl ?_;have h1:=q9 a b ha hb;have h2:=Dq7 a.ttl b.ttl;unfold Gv3;by_cases k1:Tl a b=0
 ·rw [k1] at h1;simp (disch:=omega) only [Gg7,h1,h2,EVC,xe,EVP,EV,simprocAttr];simp [k1]
 ·simp (disch:=omega) only [Gg7,h1,k1,EVC,xe,EVP,EV,simprocAttr]
theorem Gv1:Cmp Av7 [] Gv3 Rec.wf:=⟨fun x y hx hy=>mr x y hx hy⟩
theorem Aw8:leC Gv3=leR:=rfl
theorem Ev3 (a b:Rec) (ha:a.wf) (hb:b.wf):S Av6 2 [a.pv,b.pv]=some [.b (eqF a b)]:=by refine Iw8 (N:=1) rfl ?_;have h1:=q9 a b ha hb;simp (disch:=omega) only [Hs9,h1,EVC,xe,EVP,EV,simprocAttr]
theorem yz (l:List Rec) (hw:∀r∈l,r.wf) (hl:l.length≤1000000):S Aw2 1 [Al l]=some [Al (sortR l)]:=by refine Iz3 (N:=1) rfl ?_;have h0:=Dq8 l hl;obtain ⟨r,h1,h2,h3⟩:=Kk Gv1 (by rw [Aw8];exact Gn3) l hw hl;rw [Aw8] at h1;have hm:=h1.mem Gn3;have h4:=m9 r Av6 [] eqF (fun x hx y hy=>Ev3 x y (hw x ((hm x).1 hx)) (hw y ((hm y).1 hy))) (by omega);rw [Wb h1] at h4;simp (disch:=omega) only [Ij1,h0,h3,h4,D9,Ks,EVT,EVM,EVC,xe,EVP,EV,simprocAttr]
end Go.X.G
/- Delegations and names of a zone, as the program finds them. -/
namespace Go.X.G
open Go Go.X
theorem Gq7 {z:Zone} {n b:List UInt8} {c:Rec} (hI:b=[]∨under n b=true):(if (Dp z c && under n c.name && (decide (b=[])||decide ((lbl c.name).length<(lbl b).length)))=true then c.name else b)=[]∨under n (if (Dp z c && under n c.name && (decide (b=[])||decide ((lbl c.name).length<(lbl b).length)))=true then c.name else b)=true:=by
 split
 ·rename_i h;simp only [Av] at h;exact .inr h.1.2
 ·exact hI
theorem fc (z:Zone) (n:List UInt8) (hz:z.wf) (hl:z.recs.length≤1000000) (hn:n.length≤9223372036854775807):S im 2 [z.pv, .s n]=some [.s (Ek1 z n), .b (decide (Ek1 z n≠[]))]:=by
 refine Ib4 (N:=z.recs.length+1) rfl ?_;have g1:=hz.origin;unfold Mm at g1;have key:Ec5.ev S (z.recs.length+1) [z.pv, .s n]=some (.yld 0 [.s (Gg1 z n [] z.recs)]):=by
  refine Iw z.recs (fun i (b:List UInt8)=>[.s b, .i .i64 (i:Int)]) (fun i b r=> .yld 0 [.s (Gg1 z n b r)]) (fun i b=>b=[]∨under n b=true) [] rfl (.inl rfl) (by omega) (fun i b c r hd hi hc hI=> ?_) (fun b hI=> ?_)
  ·left;have g2:=(hz.recs.2 c (Bq hc)).name;unfold Mm at g2;refine ⟨if Dp z c && under n c.name && (decide (b=[])||decide ((lbl c.name).length<(lbl b).length)) then c.name else b,?_,Gq7 hI,rfl⟩;by_cases h1:c.typ=2
   ·by_cases h2:c.name=z.origin
    ·simp (disch:=omega) only [Wq,hc,h1,h2,EVM,EVC,xe,EVP,EV,simprocAttr];simp [Dp,D4,h2]
    ·have k1:=Gm c.name z.origin g2 g1;have k2:=Gm n c.name hn g2;rcases Aq (under c.name z.origin) with h3|h3
     ·rcases Aq (under n c.name) with h4|h4
      ·by_cases h5:b=[]
       ·rw [h3] at k1;rw [h4] at k2;simp (disch:=omega) only [Wq,hc,h1,h2,h3,h4,h5,k1,k2,EVM,EVC,xe,EVP,EV,simprocAttr];simp [Dp,D4,h1,h2,h3,h4,h5]
       ·have hb:=hI.resolve_left h5;have e:=Dk8 h4 hb;rw [h3] at k1;rw [h4] at k2;by_cases h6:c.name.length<b.length
        ·have h7:=e.1 h6;have h8:(c.name.length:Int)<(b.length:Int):=by omega
         simp (disch:=omega) only [Wq,hc,h1,h2,h3,h4,h5,h8,k1,k2,EVM,EVC,xe,EVP,EV,simprocAttr];simp [Dp,D4,h1,h2,h3,h4,h5,h7]
        ·have h7:¬(lbl c.name).length<(lbl b).length:=fun q=>h6 (e.2 q);have h8:¬(c.name.length:Int)<(b.length:Int):=by omega
         simp (disch:=omega) only [Wq,hc,h1,h2,h3,h4,h5,h8,k1,k2,EVM,EVC,xe,EVP,EV,simprocAttr];simp [Dp,D4,h1,h2,h3,h4,h5,h7]
      ·rw [h3] at k1;rw [h4] at k2;simp (disch:=omega) only [Wq,hc,h1,h2,h3,h4,k1,k2,EVM,EVC,xe,EVP,EV,simprocAttr];simp [Dp,D4,h1,h2,h3,h4]
     ·rw [h3] at k1;simp (disch:=omega) only [Wq,hc,h1,h2,h3,k1,EVM,EVC,xe,EVP,EV,simprocAttr];simp [Dp,D4,h1,h2,h3]
   ·simp (disch:=omega) only [Wq,hc,h1,EVM,EVC,xe,EVP,EV,simprocAttr];simp [Dp,h1]
  ·simp (disch:=omega) only [Wq,EVM,EVC,xe,EVP,EV,simprocAttr];simp [Gg1,Out.goes]
 rw [show Gg1 z n [] z.recs=Ek1 z n from rfl] at key;simp (disch:=omega) only [Wq,key,EVM,EVC,xe,EVP,EV,simprocAttr]
 try simp
def cutsN (z:Zone):List (List UInt8):=setN ((z.recs.filter (Dp z)).map Rec.name)
theorem Oj (z:Zone) (x:List UInt8):x∈cutsN z↔∃r∈z.recs,Dp z r=true∧r.name=x:=by unfold cutsN;rw [J3,D6];simp only [Bh,and_assoc]
theorem Dh2 {l:List (List UInt8)} (h:∀x∈l,x.length≤9223372036854775807):∀x∈setN l,x.length≤9223372036854775807:=fun x hx=>h x ((J3 l x).1 hx)
theorem V6 (z:Zone) (hz:z.wf) (hl:z.recs.length≤1000000):S il 1 [z.pv]=some [Bm (cutsN z)]:=by
 refine Ib2 (N:=z.recs.length+1) rfl ?_;have g1:=hz.origin;unfold Mm at g1;have key:Ec3.ev S (z.recs.length+1) [z.pv]=some (.yld 0 [Bm ([]++(z.recs.filter (Dp z)).map Rec.name)]):=by
  refine Iw z.recs (fun i (b:List (List UInt8))=>[Bm b, .i .i64 (i:Int)]) (fun i b r=> .yld 0 [Bm (b++(r.filter (Dp z)).map Rec.name)]) (fun i b=>b.length≤i) [] rfl (C6 _) (by omega) (fun i b c r hd hi hc hI=> ?_) (fun b hI=> ?_)
  ·left;have g2:=(hz.recs.2 c (Bq hc)).name;unfold Mm at g2;refine ⟨if Dp z c then b++[c.name] else b,?_,by split<;>(try rw [Ab,fq])<;>omega,by rcases Aq (Dp z c) with q|q<;>simp [q]⟩;by_cases h1:c.typ=2
   ·by_cases h2:c.name=z.origin
    ·simp (disch:=omega) only [yf,hc,h1,h2,EVM,EVC,xe,EVP,EV,simprocAttr];simp [Dp,D4,h2]
    ·have k1:=Gm c.name z.origin g2 g1;rcases Aq (under c.name z.origin) with h3|h3
     ·rw [h3] at k1;simp (disch:=omega) only [yf,hc,h1,h2,h3,k1,EVM,EVC,xe,EVP,EV,simprocAttr];simp [Dp,D4,h1,h2,h3]
     ·rw [h3] at k1;simp (disch:=omega) only [yf,hc,h1,h2,h3,k1,EVM,EVC,xe,EVP,EV,simprocAttr];simp [Dp,D4,h1,h2,h3]
   ·simp (disch:=omega) only [yf,hc,h1,EVM,EVC,xe,EVP,EV,simprocAttr];simp [Dp,h1]
  ·simp (disch:=omega) only [yf,EVM,EVC,xe,EVP,EV,simprocAttr];simp [Out.goes]
 rw [Cq] at key;have hlen:((z.recs.filter (Dp z)).map Rec.name).length≤1000000:=by rw [F8];exact C9 (C2 _ _) hl
 have hw:∀x∈(z.recs.filter (Dp z)).map Rec.name,x.length≤9223372036854775807:=fun x hx=>by obtain ⟨r,hr,rfl⟩:=D6.1 hx;exact (hz.recs.2 r (Bh.1 hr).1).name
 have k1:=Yy _ hlen hw;have k2:=M3 (((z.recs.filter (Dp z)).map Rec.name).mergeSort fun x y=> !decide (Jw y x<0)) (by rw [fx];exact hlen);rw [show cpt eqs (((z.recs.filter (Dp z)).map Rec.name).mergeSort fun x y=> !decide (Jw y x<0))=cutsN z from rfl] at k2;generalize ((z.recs.filter (Dp z)).map Rec.name).mergeSort (fun x y=> !decide (Jw y x<0))=so at*;generalize (z.recs.filter (Dp z)).map Rec.name=un at*;simp (disch:=omega) only [yf,key,k1,k2,D9,Ks,EVM,EVC,xe,EVP,EV,simprocAttr]
theorem An5 (l:List Rec) (hl:l.length≤1000000) (hw:∀r∈l,r.wf):S Bw3 1 [Al l]=some [Bm (setN (l.map Rec.name))]:=by
 refine Ix6 (N:=l.length+1) rfl ?_;have key:Eb4.ev S (l.length+1) [Al l]=some (.yld 0 [Bm ([]++l.map Rec.name)]):=by
  refine Iw l (fun i (b:List (List UInt8))=>[Bm b, .i .i64 (i:Int)]) (fun i b r=> .yld 0 [Bm (b++r.map Rec.name)]) (fun i b=>b.length≤i) [] rfl (C6 _) (by omega) (fun i b c r hd hi hc hI=> ?_) (fun b hI=> ?_)
  ·left;refine ⟨b++[c.name],?_,by simp;omega,by simp⟩;simp (disch:=omega) only [Fg1,hc,EVM,EVC,xe,EVP,EV,simprocAttr]
  ·simp (disch:=omega) only [Fg1,EVM,EVC,xe,EVP,EV,simprocAttr];simp [Out.goes]
 rw [Cq] at key;have hlen:(l.map Rec.name).length≤1000000:=by rw [F8];exact hl
 have hw:∀x∈l.map Rec.name,x.length≤9223372036854775807:=fun x hx=>by obtain ⟨r,hr,rfl⟩:=D6.1 hx;exact (hw r hr).name
 have k1:=Yy _ hlen hw;have k2:=M3 ((l.map Rec.name).mergeSort fun x y=> !decide (Jw y x<0)) (by rw [fx];exact hlen);rw [show cpt eqs ((l.map Rec.name).mergeSort fun x y=> !decide (Jw y x<0))=setN (l.map Rec.name) from rfl] at k2;generalize setN (l.map Rec.name)=se at*;generalize (l.map Rec.name).mergeSort (fun x y=> !decide (Jw y x<0))=so at*;generalize l.map Rec.name=un at*;simp (disch:=omega) only [Fg1,key,k1,k2,D9,Ks,EVM,EVC,xe,EVP,EV,simprocAttr]
theorem Dq1 (c owner:List UInt8) (hc:c.length≤9223372036854775807) (ho:owner.length≤9223372036854775807):S Av8 1 [.s c, .s owner]=some [.b (decide (c≠owner) && under owner c)]:=by
 refine Ix5 (N:=1) rfl ?_;have k1:=Gm owner c ho hc;by_cases h:c=owner
 ·simp (disch:=omega) only [Gg8,h,EVM,EVC,xe,EVP,EV,simprocAttr];simp
 ·simp (disch:=omega) only [Gg8,h,k1,EVM,EVC,xe,EVP,EV,simprocAttr];simp
theorem Ad3 (z:Zone) (acc:List (List UInt8)) (n:List UInt8) (p1 p2 p3 p4 p5 p6:PV) (N:Nat) (hu:under n z.origin=true) (ha:acc.length≤1000000) (hN:1000<N) (hp2:H6 1 p2 p4=some (.s n)):
  Bb5.ev S N [z.pv,p1,p2,Bm acc,p4,p5,p6]=some (.yld 2 [Bm (acc++upN z.origin n)]):=by
 obtain ⟨v1,v2,_⟩:=C1.1 hu;have hlb:=M0 n;have h0:jn ((lbl n).drop 0)=n:=Bd8 v1;have e0:upN z.origin n=(upN z.origin n).take ((lbl n).length - (lbl z.origin).length+1):=by rw [C5];simp [upN]
 have:=Gp (fn:=S) (N:=N) (η:=[z.pv,p1,p2,Bm acc,p4,p5,p6]) (id:=3) (init:=[(.v 3),(.proj 0 (.idx 1 (.v 2) (.v 4)))]) (body:=Ct5) ((lbl n).length - (lbl z.origin).length) (fun k=>[Bm (acc++(upN z.origin n).take k), .s (jn ((lbl n).drop k))])
  (fun _=> .yld 2 [Bm (acc++upN z.origin n)]) ?_ (by omega) (fun k hk=> ?_) ?_
 ·exact this
 ·rw [h0];simp (disch:=omega) only [hp2,EVM,EVC,xe,EVP,EV,simprocAttr];simp
 ·left;obtain ⟨q1,q2⟩:=Ew8 hu hk;have q3:¬jn ((lbl n).drop k)=z.origin:=fun h=>by have:=(nn hu (Nat.le_of_lt hk)).1 h;omega
  have q4:=Ed0 v1 k;have k1:=Vp (jn ((lbl n).drop k)) (by omega);rw [q1,q2] at k1;have q5:(upN z.origin n).take (k+1)=(upN z.origin n).take k++[jn ((lbl n).drop k)]:=by rw [Cc,Wx (Nat.le_of_lt hk)];rfl
  rw [q5,←As];have q6:(acc++(upN z.origin n).take k).length≤1000300:=by rw [Ab,An];omega
  generalize acc++(upN z.origin n).take k=a at*;refine ⟨?_,rfl⟩;generalize jn ((lbl n).drop (k+1))=nx at*;generalize jn ((lbl n).drop k)=cu at*;simp (disch:=omega) only [fh,q3,k1,EVM,EVC,xe,EVP,EV,simprocAttr]
 ·have q3:=(nn hu (Af _)).2 rfl;have q5:(upN z.origin n)=(upN z.origin n).take ((lbl n).length - (lbl z.origin).length)++[jn ((lbl n).drop ((lbl n).length - (lbl z.origin).length))]:=by have:=Cc (l:=upN z.origin n) (i:=(lbl n).length - (lbl z.origin).length);rw [Wx (Af _)] at this;rw [←e0] at this;exact this
  rw [q3] at q5 ⊢;have q6:(acc++(upN z.origin n).take ((lbl n).length - (lbl z.origin).length)).length≤1000300:=by rw [Ab,An];omega
  refine ⟨?_,rfl⟩
  conv=>rhs;rw [q5,←As]
  generalize acc++(upN z.origin n).take ((lbl n).length - (lbl z.origin).length)=a at*;simp (disch:=omega) only [fh,EVM,EVC,xe,EVP,EV,simprocAttr]
theorem Ej9 (z:Zone) (owner:List UInt8):((cutsN z).any fun c=>decide (c≠owner) && under owner c)=Xb z owner:=by
 rw [Ct];unfold Xb;simp only [Ck,Av,decide_eq_true_eq,Oj];constructor
 ·rintro ⟨x,⟨r,hr,h1,rfl⟩,h2,h3⟩;exact ⟨r,hr,⟨h1,h2⟩,h3⟩
 ·rintro ⟨r,hr,⟨h1,h2⟩,h3⟩;exact ⟨r.name,⟨r,hr,h1,rfl⟩,h2,h3⟩
def H5 (z:Zone) (n:List UInt8):Bool:=under n z.origin && !Xb z n
theorem Q4 (z:Zone) (hz:z.wf) (hl:z.recs.length≤1000):S ig 1 [z.pv]=some [Bm (namesN z)]:=by
 refine Ib1 (N:=z.recs.length+1001) rfl ?_;have g1:=hz.origin;unfold Mm at g1;have k1:=V6 z hz (by omega);have k2:=An5 z.recs (by omega) (fun r hr=>hz.recs.2 r hr);have hol:(setN (z.recs.map Rec.name)).length≤z.recs.length:=by have:=Wg (z.recs.map Rec.name);rwa [F8] at this
 have how:∀x∈setN (z.recs.map Rec.name),x.length≤9223372036854775807:=Dh2 fun x hx=>by obtain ⟨r,hr,rfl⟩:=D6.1 hx;exact (hz.recs.2 r hr).name
 have hcl:(cutsN z).length≤1000000:=by have:=Wg ((z.recs.filter (Dp z)).map Rec.name);rw [F8] at this;have h2:=C2 (Dp z) z.recs;show (setN ((z.recs.filter (Dp z)).map Rec.name)).length≤1000000;omega
 have hcw:∀x∈cutsN z,x.length≤9223372036854775807:=fun x hx=>by obtain ⟨r,hr,_,rfl⟩:=(Oj z x).1 hx;exact (hz.recs.2 r hr).name
 have hmem:∀x,x∈((setN (z.recs.map Rec.name)).filter (H5 z)).flatMap (upN z.origin)↔Ed1 z x:=by
  intro x;unfold Ed1 H5;simp only [List.mem_flatMap,Bh,J3,D6,Av,A8];constructor
  ·rintro ⟨o,⟨⟨r,hr,rfl⟩,h1,h2⟩,h3⟩;obtain ⟨h4,h5⟩:=(Rj h1).1 h3;exact ⟨r,hr,h1,h2,h4,h5⟩
  ·rintro ⟨r,hr,h1,h2,h4,h5⟩;exact ⟨r.name,⟨⟨r,hr,rfl⟩,h1,h2⟩,(Rj h1).2 ⟨h4,h5⟩⟩
 generalize hO:setN (z.recs.map Rec.name)=O at*;have key:Ec2.ev S (z.recs.length+1001) [z.pv,Bm (cutsN z),Bm O]=some (.yld 0 [Bm ([]++(O.filter (H5 z)).flatMap (upN z.origin))]):=by
  refine Iw O (fun i (b:List (List UInt8))=>[Bm b, .i .i64 (i:Int)]) (fun i b r=> .yld 0 [Bm (b++(r.filter (H5 z)).flatMap (upN z.origin))]) (fun i b=>b.length≤256*i) [] rfl (C6 _) (by omega) (fun i b c r hd hi hc hI=> ?_) (fun b hI=> ?_)
  ·left;have g2:=how c (Bq hc);have k3:=Gm c z.origin g2 g1;have hid:=Ej9 z c;rcases Aq (under c z.origin) with h1|h1
   ·have k4:=Qw (cutsN z) Av8 [.s c] _ hcl (fun x hx=>Dq1 x c (hcw x hx) g2);rw [hid] at k4;rw [h1] at k3;rcases Aq (Xb z c) with h2|h2
    ·refine ⟨b,?_,by omega,by simp [H5,h1,h2]⟩;rw [h2] at k4;generalize cutsN z=cz at*;simp (disch:=omega) only [fh,hc,k3,k4,EVM,EVC,xe,EVP,EV,simprocAttr]
    ·have hu:=f5 z.origin c;refine ⟨b++upN z.origin c,?_,by rw [Ab];omega,by simp [H5,h1,h2]⟩;rw [h2] at k4;have k5:∀p5 p6,Bb5.ev S (z.recs.length+1001) [z.pv,Bm (cutsN z),Bm O,Bm b, .i .i64 (i:Int),p5,p6]=some (.yld 2 [Bm (b++upN z.origin c)]):=fun p5 p6=>Ad3 z b c _ _ (Bm b) _ p5 p6 _ h1 (by omega) (by omega) (by rw [L5 _ _ _ (by omega)];simp [hc]);generalize b++upN z.origin c=b' at*;generalize cutsN z=cz at*;simp (disch:=omega) only [fh,hc,k3,k4,k5,EVM,EVC,xe,EVP,EV,simprocAttr]
   ·refine ⟨b,?_,by omega,by simp [H5,h1]⟩;rw [h1] at k3;generalize cutsN z=cz at*;simp (disch:=omega) only [fh,hc,k3,EVM,EVC,xe,EVP,EV,simprocAttr]
  ·generalize cutsN z=cz at*;simp (disch:=omega) only [fh,EVM,EVC,xe,EVP,EV,simprocAttr];simp [Out.goes]
 rw [Cq] at key;have hxl:((O.filter (H5 z)).flatMap (upN z.origin)).length≤256*O.length:=by
  have:∀l:List (List UInt8),(l.flatMap (upN z.origin)).length≤256*l.length:=by
   intro l
   induction l with
   |nil=>simp
   |cons x r ih=>
    have:=f5 z.origin x;rw [Ew,Ab,A0];omega
  refine C9 (this _) ?_;have:=C2 (H5 z) O;omega
 have hxw:∀x∈(O.filter (H5 z)).flatMap (upN z.origin),x.length≤9223372036854775807:=fun x hx=>by obtain ⟨r,hr,_,_,h4,_⟩:=(hmem x).1 hx;have:=Kp (C1.1 h4).2.1;omega
 have he:setN ((O.filter (H5 z)).flatMap (upN z.origin))=namesN z:=Dp2 z _ hmem;generalize (O.filter (H5 z)).flatMap (upN z.origin)=un at*;have k6:=Yy un (by omega) hxw;have k7:=M3 (un.mergeSort fun x y=> !decide (Jw y x<0)) (by rw [fx];omega);rw [show cpt eqs (un.mergeSort fun x y=> !decide (Jw y x<0))=setN un from rfl,he] at k7;generalize un.mergeSort (fun x y=> !decide (Jw y x<0))=so at*;generalize namesN z=nz at*;generalize cutsN z=cz at*;simp (disch:=omega) only [fh,k1,k2,key,k6,k7,D9,Ks,EVM,EVC,xe,EVP,EV,simprocAttr]
end Go.X.G
/- Zones in the program: what is asked of the records of one name. -/
namespace Go.X.G
open Go Go.X
abbrev ltC:List UInt8×Int→List UInt8×Int→Prop:=fun p q=>ltB p.1 q.1∨(p.1=q.1∧p.2<q.2)
theorem to_C:TO ltC:=Dv3.prod Gn4
def ltQ (a b:Ques):Prop:=ltC (a.name,a.typ) (b.name,b.typ)
theorem to_Q:TO ltQ where
 irr:=fun a=>to_C.irr _
 tr:=fun a b c=>to_C.tr _ _ _
 tri:=fun a b=>by
  rcases to_C.tri (a.name,a.typ) (b.name,b.typ) with h|h|h
  ·exact .inl h
  ·injection h with h1 h2;refine .inr (.inl ?_);cases a;cases b;simp only at h1 h2;rw [h1,h2]
  ·exact .inr (.inr h)
def j6 (a b:Ques):Int:=if (Op.bytesLess a.name b.name||(decide (a.name=b.name) && decide (a.typ<b.typ)))=true then -1 else if a=b then 0 else 1
theorem Gr (a b:Ques):j6 a b<0↔ltQ a b:=by
 unfold j6 ltQ ltC;simp only;have e:(Op.bytesLess a.name b.name||(decide (a.name=b.name) && decide (a.typ<b.typ)))=true↔(ltB a.name b.name∨a.name=b.name∧a.typ<b.typ):=by simp only [Ap,Av,decide_eq_true_eq,Tj]
 by_cases h:ltB a.name b.name∨a.name=b.name∧a.typ<b.typ
 ·rw [if_pos (e.2 h)];simp [h]
 ·rw [if_neg (fun q=>h (e.1 q))];simp only [h,iff_false];split<;>omega
theorem jt (a b:Ques):S T1 2 [a.pv,b.pv]=some [.i .i64 (j6 a b)]:=by
 refine Iw3 (N:=1) rfl ?_;unfold j6;rcases Aq (Op.bytesLess a.name b.name) with h1|h1
 ·simp (disch:=omega) only [Ad6,h1,EVM,EVC,xe,EVP,EV,simprocAttr];simp
 ·by_cases h2:a.name=b.name
  ·by_cases h3:a.typ<b.typ
   ·rw [h2] at h1;simp (disch:=omega) only [Ad6,h1,h2,h3,EVM,EVC,xe,EVP,EV,simprocAttr];simp
   ·rw [h2] at h1;by_cases h4:a=b
    ·simp (disch:=omega) only [Ad6,h1,h2,h3,EVM,EVC,xe,EVP,EV,simprocAttr];simp [h4]
    ·simp (disch:=omega) only [Ad6,h1,h2,h3,h4,EVM,EVC,xe,EVP,EV,simprocAttr];simp [h4]
  ·have h4:¬a=b:=fun e=>h2 (by rw [e]);simp (disch:=omega) only [Ad6,h1,h2,h4,EVM,EVC,xe,EVP,EV,simprocAttr];simp [h4]
def Iq (l:List Ques):PV:= .l 2 (l.map Ques.pv)
theorem Ix (l:List Ques):Gy (Iq l)=some (.i .i64 (l.length:Int)):=by simp [Iq,Gy]
theorem J8 (l:List Ques) (k:IntKind) (z:Int) (h:0≤z):H6 2 (Iq l) (.i k z)=(l[z.toNat]?).map Ques.pv:=by simp [Iq,ct _ _ _ _ h]
theorem Dr0 (x:Ques):Jc 2 [x.pv]=some (Iq [x]):=rfl
theorem Dk6 (l:List Ques) (x:Ques) (h:l.length+1≤1073741824):H8 2 (Iq l) (Iq [x])=some (Iq (l++[x])):=by have:=T6 2 (l.map Ques.pv) [x.pv] (by simpa using h);simpa [Iq] using this
def qt:PV→PV→Int
 | .a [.s a, .i _ t], .a [.s b, .i _ u]=>j6 ⟨a,t⟩ ⟨b,u⟩
 |_,_=>0
theorem Ev2 (l:List Ques) (hl:l.length≤1000000):S iy 1048578 [Iq l, .f T1 []]=some [Iq (l.mergeSort fun x y=> !decide (j6 y x<0))]:=by
 have hm:∀x∈l.map Ques.pv,∃a∈l,x=a.pv:=fun x hx=>by obtain ⟨a,h1,h2⟩:=D6.1 hx;exact ⟨a,h1,h2.symm⟩
 have hc:∀a b:Ques,qt a.pv b.pv=j6 a b:=fun a b=>rfl;have h:=qg (tab:=tab) (xs:=Ft5) (ss:=Tm) (f:=iy) (s:=Ey3) Gp1 Gp8 (g:=T1) (caps:=[]) (l:=l.map Ques.pv) (by decide) (by simp;omega)
  (fun x hx=>by obtain ⟨a,_,rfl⟩:=hm x hx;rfl) qt
  (fun x hx y hy=>by obtain ⟨a,ha,rfl⟩:=hm x hx;obtain ⟨b,hb,rfl⟩:=hm y hy;exact jt a b)
  (fun x hx=>by obtain ⟨a,_,rfl⟩:=hm x hx;rw [hc,Gr];exact to_Q.irr a)
  (fun x hx y hy z hz h1 h2=>by obtain ⟨a,_,rfl⟩:=hm x hx;obtain ⟨b,_,rfl⟩:=hm y hy;obtain ⟨c,_,rfl⟩:=hm z hz;rw [hc] at*;exact (Gr a c).2 (to_Q.tr _ _ _ ((Gr a b).1 h1) ((Gr b c).1 h2)))
  (fun x hx y hy z hz h1 h2=>by obtain ⟨a,_,rfl⟩:=hm x hx;obtain ⟨b,_,rfl⟩:=hm y hy;obtain ⟨c,_,rfl⟩:=hm z hz;rw [hc] at*;exact fun h3=>to_Q.ntr (fun q=>h1 ((Gr a b).2 q)) (fun q=>h2 ((Gr b c).2 q)) ((Gr a c).1 h3))
  (fun x hx y hy h1 h2=>by
   obtain ⟨a,_,rfl⟩:=hm x hx;obtain ⟨b,_,rfl⟩:=hm y hy;rw [hc] at*;rcases to_Q.tri a b with q|q|q
   ·exact absurd ((Gr a b).2 q) h1
   ·rw [q]
   ·exact absurd ((Gr b a).2 q) h2)
 have e:(l.map Ques.pv).mergeSort (fun x y=> !decide (qt y x<0))=(l.mergeSort fun x y=> !decide (j6 y x<0)).map Ques.pv:=(Hs2 (r:=fun x y=> !decide (j6 y x<0)) (s:=fun x y=> !decide (qt y x<0)) (f:=Ques.pv) fun a _ b _=>rfl).symm;rw [e] at h;exact h
def Wm (p:Option Ques) (n:Nat):List Ques→Bool
 |[]=>false
 |k::r=>if 64<(if p=some k then n+1 else 1) then true else Wm (some k) (if p=some k then n+1 else 1) r
theorem Wl:∀(l:List Ques) (p:Ques) (n:Nat),(p::l).Pairwise (fun a b=>¬ltQ b a)→n≤64→(Wm (some p) n l=true↔(∃k,k≠p∧64<l.count k)∨64<n+l.count p)
 |[],p,n,_,hn=>by simp [Wm];omega
 |k::r,p,n,hs,hn=>by
  obtain ⟨h1,h2⟩:=A3.1 hs;by_cases e:p=k
  ·subst e;by_cases hg:64<n+1
   ·simp only [Wm,if_true,hg];refine ⟨fun _=> .inr ?_,fun _=>trivial⟩;rw [Gb];omega
   ·simp only [Wm,if_true,hg,if_false];rw [Wl r p (n+1) h2 (by omega),Gb];constructor
    ·rintro (⟨q,q1,q2⟩|q)
     ·exact .inl ⟨q,q1,by rw [F1 (fun e=>q1 e.symm)];exact q2⟩
     ·exact .inr (by omega)
    ·rintro (⟨q,q1,q2⟩|q)
     ·exact .inl ⟨q,q1,by rw [F1 (fun e=>q1 e.symm)] at q2;exact q2⟩
     ·exact .inr (by omega)
  ·have e':¬(some p=some k):=fun q=>e (by injection q);simp only [Wm,if_neg e',show¬64<1 by omega,if_false];rw [Wl r k 1 h2 (by omega)];have hlt:ltQ p k:=by
    rcases to_Q.tri p k with q|q|q
    ·exact q
    ·exact absurd q e
    ·exact absurd q (h1 k (.head _))
   have hno:∀y∈k::r,y≠p:=fun y hy q=>by
    subst q;rcases Am.1 hy with q|hy
    ·exact e q
    ·exact (A3.1 h2).1 y hy hlt
   have h0:(k::r).count p=0:=Hs4.2 fun hm=>hno p hm rfl;have h0r:r.count p=0:=Hs4.2 fun hm=>hno p (.tail _ hm) rfl;rw [h0];constructor
   ·rintro (⟨q,q1,q2⟩|q)
    ·refine .inl ⟨q,fun w=>by rw [w,h0r] at q2;omega,?_⟩;rw [F1 (fun w=>q1 w.symm)];exact q2
    ·refine .inl ⟨k,fun w=>e w.symm,?_⟩;rw [Gb];omega
   ·rintro (⟨q,q1,q2⟩|q)
    ·by_cases w:q=k
     ·subst w;rw [Gb] at q2;exact .inr (by omega)
     ·rw [F1 (fun v=>w v.symm)] at q2;exact .inl ⟨q,w,q2⟩
    ·omega
theorem Dh6 (l:List Ques) (hs:l.Pairwise (fun a b=>¬ltQ b a)):Wm none 0 l=true↔∃k,64<l.count k:=by
 cases l with
 |nil=>simp [Wm]
 |cons k r=>
  have e:¬((none:Option Ques)=some k):=by simp
  simp only [Wm,if_neg e,show¬64<1 by omega,if_false];rw [Wl r k 1 hs (by omega)];constructor
  ·rintro (⟨q,q1,q2⟩|q)
   ·exact ⟨q,by rw [F1 (fun w=>q1 w.symm)];exact q2⟩
   ·exact ⟨k,by rw [Gb];omega⟩
  ·rintro ⟨q,q2⟩;by_cases w:q=k
   ·subst w;rw [Gb] at q2;exact .inr (by omega)
   ·rw [F1 (fun v=>w v.symm)] at q2;exact .inl ⟨q,w,q2⟩
def kyQ (r:Rec):Ques:=⟨r.name,r.typ⟩
def P4 (l:List Rec):Bool:=Wm none 0 ((l.map kyQ).mergeSort fun x y=> !decide (j6 y x<0))
theorem Xt (n:List UInt8) (t:Int):∀l:List Rec,(l.map kyQ).count ⟨n,t⟩=(findR l n t).length
 |[]=>rfl
 |r::l=>by
  have ih:=Xt n t l;unfold findR at ih ⊢;rw [F3,Kh];by_cases h:isK n t r=true
  ·rw [if_pos h];unfold isK at h;simp only [Av,decide_eq_true_eq] at h;have:kyQ r=⟨n,t⟩:=by unfold kyQ;rw [h.1,h.2]
   rw [this,Gb,ih,A0]
  ·rw [if_neg h];have:kyQ r≠⟨n,t⟩:=fun e=>h (by unfold kyQ at e;injection e with e1 e2;unfold isK;simp [e1,e2])
   rw [F1 this,ih]
theorem Fp4 (l:List Ques):(l.mergeSort fun x y=> !decide (j6 y x<0)).Pairwise (fun a b=>¬ltQ b a):=by
 have:=List.pairwise_mergeSort (le:=fun x y:Ques=> !decide (j6 y x<0)) (fun a b c h1 h2=>by
  simp only [A8,decide_eq_false_iff_not,Gr] at h1 h2 ⊢;exact to_Q.ntr h2 h1) (fun a b=>by
  simp only [Ap,A8,decide_eq_false_iff_not,Gr];rcases to_Q.tri a b with h|h|h
  ·exact .inl (to_Q.asym h)
  ·subst h;exact .inl (to_Q.irr a)
  ·exact .inr (to_Q.asym h)) l
 refine this.imp fun {a b} h=> ?_;simpa only [A8,decide_eq_false_iff_not,Gr] using h
theorem Ay7 (l:List Rec):P4 l= !(l.all fun r=>decide ((findR l r.name r.typ).length≤64)):=by
 rw [Ct];unfold P4;rw [Dh6 _ (Fp4 _)];have hc:∀k,((l.map kyQ).mergeSort fun x y=> !decide (j6 y x<0)).count k=(l.map kyQ).count k:=fun k=>(List.mergeSort_perm _ _).count_eq k;simp only [hc,A8,List.all_eq_false,decide_eq_true_eq];constructor
 ·rintro ⟨⟨n,t⟩,h⟩;rw [Xt] at h;have hp:0<(findR l n t).length:=by omega
  obtain ⟨x,hx⟩:=List.length_pos_iff_exists_mem.1 hp;obtain ⟨h3,h4⟩:=Bh.1 hx;unfold isK at h4;simp only [Av,decide_eq_true_eq] at h4;exact ⟨x,h3,by rw [h4.1,h4.2];omega⟩
 ·rintro ⟨r,h1,h2⟩;exact ⟨kyQ r,by show 64<(l.map kyQ).count ⟨r.name,r.typ⟩;rw [Xt];omega⟩
theorem Ay6 (l:List Rec) (hl:l.length≤1000000):S Bx1 1 [Al l]=some [.b (P4 l)]:=by
 obtain ⟨N,hN⟩:∃N,N=l.length+1:=⟨_,rfl⟩;refine Iz1 (N:=N) rfl ?_;have k0:Eb9.ev S N [Al l]=some (.yld 0 [Iq (l.map kyQ)]):=by
  refine E2 l (fun i=>[Iq ((l.take i).map kyQ), .i .i64 (i:Int)]) (fun i r=> .yld 0 [Iq (l.map kyQ)]) rfl (by omega) (fun i c r hd hi hc=> ?_) ?_
  ·left;refine ⟨?_,rfl⟩;have e:(l.take (i+1)).map kyQ=(l.take i).map kyQ++[kyQ c]:=by rw [Cc,hc];simp
   have hsub:Jl 0 2 c.pv=some (kyQ c).pv:=rfl;have hlen:((l.take i).map kyQ).length≤1000000:=by rw [F8,An];omega
   rw [e];generalize (l.take i).map kyQ=a at*;simp (disch:=omega) only [Wj,hc,hsub,Dr0,Dk6,Ix,J8,EVM,EVC,xe,EVP,EV,simprocAttr]
  ·refine ⟨?_,rfl⟩;have e:l.take l.length=l:=C4;simp (disch:=omega) only [Wj,e,Ix,J8,EVM,EVC,xe,EVP,EV,simprocAttr]
 have hs:=Ev2 (l.map kyQ) (by simpa using hl);have hlen:((l.map kyQ).mergeSort fun x y=> !decide (j6 y x<0)).length=l.length:=by simp
 unfold P4;generalize ((l.map kyQ).mergeSort fun x y=> !decide (j6 y x<0))=ks at*;have k1:Ez9.ev S N [Al l,Iq (l.map kyQ),Iq ks]=some (if Wm none 0 ks=true then .ret [.b true] else .yld 0 []):=by
  refine Iw ks (fun i (g:Nat)=>[.i .i64 (g:Int), .i .i64 (i:Int)]) (fun i g r=>if Wm (if i=0 then none else ks[i - 1]?) g r=true then .ret [.b true] else .yld 0 []) (fun i g=>g≤64) 0 ?_ (by omega) (by omega) (fun i g c r hd hi hc hg=> ?_) (fun g hg=> ?_)
  ·simp (disch:=omega) only [EVC,xe,EVP,EV,simprocAttr]
  ·have hp:(if i=0 then none else ks[i - 1]?)=some c↔(0<i∧ks[i - 1]? =some c):=by
    by_cases h:i=0
    ·simp [h]
    ·simp [h];omega
   have hci:(if i+1=0 then none else ks[i+1 - 1]?)=some c:=by rw [if_neg (by omega),Vs,hc]
   have hsub:Jl 0 2 c.pv=some c.pv:=rfl;have eqq:∀x:Ques,Kl false true [.s,(.i .i64)] x.pv c.pv=some (.b (decide (x=c))):=fun x=>Is7 false x c;by_cases hsame:0<i∧ks[i - 1]? =some c
   ·have hp':=hp.2 hsame;have hi0:(0:Int)<(i:Int):=by omega
    have ei:((i:Int) - 1).toNat=i - 1:=by omega
    have ei2:(i:Int).toNat=i:=by omega
    by_cases hgt:64<g+1
    ·right;have hgt':(64:Int)<(g:Int)+1:=by omega
     have er:Wm (if i=0 then none else ks[i - 1]?) g (c::r)=true:=by rw [hp'];simp [Wm,hgt]
     rw [er];refine ⟨?_,rfl⟩;simp (disch:=omega) only [Wj,hc,hsame.2,hi0,ei,ei2,hgt',Ix,J8,EVM,EVC,xe,EVP,EV,simprocAttr]
    ·left;have hgt':¬(64:Int)<(g:Int)+1:=by omega
     refine ⟨g+1,?_,by omega,?_⟩
     ·simp (disch:=omega) only [Wj,hc,hsame.2,hi0,ei,ei2,hgt',Ix,J8,EVM,EVC,xe,EVP,EV,simprocAttr]
     ·rw [hp',hci];simp [Wm,hgt]
   ·left;have hp':¬(if i=0 then none else ks[i - 1]?)=some c:=fun q=>hsame (hp.1 q);have ei:((i:Int) - 1).toNat=i - 1:=by omega
    have ei2:(i:Int).toNat=i:=by omega
    refine ⟨1,?_,by omega,?_⟩
    ·by_cases hi0:0<i
     ·have hi0':(0:Int)<(i:Int):=by omega
      obtain ⟨y,hy⟩:∃y,ks[i - 1]? =some y:=⟨_,Az (by omega)⟩;have hyc:¬y=c:=fun q=>hsame ⟨hi0,by rw [hy,q]⟩;simp (disch:=omega) only [Wj,hc,hy,hyc,hi0',ei,ei2,Ix,J8,EVM,EVC,xe,EVP,EV,simprocAttr]
     ·have hi0':¬(0:Int)<(i:Int):=by omega
      simp (disch:=omega) only [Wj,hc,hi0',ei2,Ix,J8,EVM,EVC,xe,EVP,EV,simprocAttr]
    ·rw [hci];simp [Wm,hp']
  ·refine ⟨?_,by simp [Wm,Out.goes]⟩;have hlt:¬(ks.length:Int)<(ks.length:Int):=by omega
   simp (disch:=omega) only [Wj,hlt,Ix,J8,EVM,EVC,xe,EVP,EV,simprocAttr];simp [Wm]
 have hrep:∃p,K2 2 (.i .i64 (l.length:Int)) (Ques.pv ⟨[],0⟩)=some p:=by
  have h1:(l.length:Int)≤(LIM:Int):=by simp only [LIM];omega
  have h2:(Ques.pv ⟨[],0⟩).cells.length=2:=rfl;simp [K2,h1,h2]
 obtain ⟨p,hrep⟩:=hrep;rcases Aq (Wm none 0 ks) with h|h
 ·rw [h,if_pos rfl] at k1;rw [h];simp (disch:=omega) only [Wj,hrep,k0,hs,k1,Ix,D9,Ks,EVM,EVC,xe,EVP,EV,simprocAttr]
 ·rw [h,if_neg (by simp)] at k1;rw [h];simp (disch:=omega) only [Wj,hrep,k0,hs,k1,Ix,D9,Ks,EVM,EVC,xe,EVP,EV,simprocAttr]
end Go.X.G
/- Zones in the program: Check, the Mh. -/
namespace Go.X.G
open Go Go.X
theorem Ab3 (t:Int):S bv 1 [.i .i64 t]=some [.b (decide (t=6)||decide (t=5)||decide (t=39))]:=by
 refine Hj4 (N:=1) rfl ?_;by_cases h1:t=6
 ·simp (disch:=omega) only [Af5,h1,EVC,xe,EVP,EV,simprocAttr];simp
 ·by_cases h2:t=5
  ·simp (disch:=omega) only [Af5,h2,EVC,xe,EVP,EV,simprocAttr];simp
  ·simp (disch:=omega) only [Af5,h1,h2,EVC,xe,EVP,EV,simprocAttr];simp
theorem Dw5 (r:Rec) (t:Int):S Av1 1 [r.pv, .i .i64 t]=some [.b (decide (r.typ=t))]:=by refine Iv8 (N:=1) rfl ?_;simp (disch:=omega) only [Hs5,EVC,xe,EVP,EV,simprocAttr]
theorem J0 (g:List Rec) (t:Int) (hl:g.length≤1000000):S Nm 2 [Al g, .i .i64 t]=some [.b (F5 g t)]:=by refine Iy4 (N:=1) rfl ?_;have h:=Ik g Av1 [.i .i64 t] (fun r=>decide (r.typ=t)) hl (fun r _=>Dw5 r t);simp (disch:=omega) only [Ht7,h,EVC,xe,EVP,EV,simprocAttr];rfl
def Jq (l:List Int):PV:= .l 1 (l.map (PV.i .i64))
theorem Nt (l:List Int):Gy (Jq l)=some (.i .i64 (l.length:Int)):=by simp [Jq,Gy]
theorem Xz (l:List Int) (k:IntKind) (z:Int) (h:0≤z):H6 1 (Jq l) (.i k z)=(l[z.toNat]?).map (PV.i .i64):=by simp [Jq,ct _ _ _ _ h]
theorem Z1 (l:List Int):Bt 0 (Jq l)=some (Jq l):=rfl
theorem Am1 (l:List Int):Ip (Jq l)=some (Jq l):=rfl
theorem Dq3 (l:List Int) (x:Int) (hl:l.length≤1000000):∃k:Int,(0≤k↔x∈l)∧S al 2 [Jq l, .i .i64 x]=some [.i .i64 k]:=by
 have go:∀(i:Nat) (l:List Int),∃k:Int,k=(match l.findIdx? (·=x) with|some j=>((i+j:Nat):Int)|none=> -1)∧(0≤k↔x∈l):=by
  intro i l;refine ⟨_,rfl,?_⟩;cases h:l.findIdx? (·=x) with
  |none=>
   rw [List.findIdx?_eq_none_iff] at h;simp only;constructor
   ·intro h2;omega
   ·intro h2;have:=h x h2;simp at this
  |some j=>
   simp only;constructor
   ·intro _;rw [List.findIdx?_eq_some_iff_getElem] at h;obtain ⟨h1,h2,_⟩:=h;simp at h2;rw [←h2];exact Dt _
   ·intro _;omega
 obtain ⟨k,hk,hk2⟩:=go 0 l;refine ⟨k,hk2,?_⟩;refine Gt2 (N:=l.length+1) rfl ?_;have key:Bc7.ev S (l.length+1) [Jq l, .i .i64 x]=some (match l.findIdx? (·=x) with|some j=> .ret [.i .i64 ((0+j:Nat):Int)]|none=> .yld 0 []):=by
  refine E2 l (fun i=>[.i .i64 (i:Int)]) (fun i r=>match r.findIdx? (·=x) with|some j=> .ret [.i .i64 ((i+j:Nat):Int)]|none=> .yld 0 []) rfl (by omega) (fun i c r hd hi hc=> ?_) ?_
  ·by_cases h:x=c
   ·right;subst h;simp (disch:=omega) only [Ys,hc,Nt,Xz,EVM,EVC,xe,EVP,EV,simprocAttr];simp [Hs3,Out.goes]
   ·left;have h':¬c=x:=fun e=>h e.symm;simp (disch:=omega) only [Ys,hc,h,h',Nt,Xz,EVM,EVC,xe,EVP,EV,simprocAttr];refine ⟨trivial,?_⟩;simp only [Hs3,h',decide_false,Ad,if_false];cases r.findIdx? (·=x) with
    |none=>rfl
    |some j=>simp;omega
  ·simp (disch:=omega) only [Ys,Nt,Xz,EVM,EVC,xe,EVP,EV,simprocAttr];simp [Out.goes]
 rw [hk];cases h:l.findIdx? (·=x) with
 |none=>
  rw [h] at key;simp (disch:=omega) only [Ys,key,Nt,EVM,EVC,xe,EVP,EV,simprocAttr]
 |some j=>
  rw [h] at key;simp (disch:=omega) only [Ys,key,Nt,EVM,EVC,xe,EVP,EV,simprocAttr]
theorem ez (l:List Int) (x:Int) (hl:l.length≤1000000):S bq 2 [Jq l, .i .i64 x]=some [.b (decide (x∈l))]:=by refine Hj2 (N:=1) rfl ?_;obtain ⟨k,h1,h2⟩:=Dq3 l x hl;simp (disch:=omega) only [Gh7,h2,EVM,EVC,xe,EVP,EV,simprocAttr];simp [h1]
theorem Ad2 (r:Rec) (ts:List Int) (hl:ts.length≤1000000):S Ut 1 [r.pv,Jq ts]=some [.b (!decide (r.typ∈ts))]:=by refine Hj3 (N:=1) rfl ?_;have h:=ez ts r.typ hl;simp (disch:=omega) only [Gh8,Z1,h,EVC,xe,EVP,EV,simprocAttr]
theorem V3 (g:List Rec) (ts:List Int) (hl:g.length≤1000000) (ht:ts.length≤1000000):S Tt 2 [Al g,Jq ts]=some [.b (I2 g ts)]:=by
 refine Iv9 (N:=1) rfl ?_;have h:=Ik g Ut [Jq ts] (fun r=> !decide (r.typ∈ts)) hl (fun r _=>Ad2 r ts ht);have e:(!(g.any fun r=> !decide (r.typ∈ts)))=I2 g ts:=by unfold I2;rw [List.not_any_eq_all_not];simp
 rw [←e];generalize (g.any fun r=> !decide (r.typ∈ts))=b at*;simp (disch:=omega) only [Hs6,Z1,Am1,h,EVC,xe,EVP,EV,simprocAttr]
theorem fb (g:List Rec) (hl:g.length≤1000000):S Bv6 1 [Al g]=some [.b (Dv2 g)]:=by
 obtain ⟨N,hN⟩:∃N,N=g.length+2:=⟨_,rfl⟩;refine Iw0 (N:=N) rfl ?_;have key:Eb0.ev S N [Al g]=some (if Dv2 g=true then .yld 0 [] else .ret [.b false]):=by
  cases g with
  |nil=>
   refine Gp 0 (fun _=>[.i .i64 1]) (fun _=> .yld 0 []) ?_ (by omega) (fun i hi=>absurd hi (by omega)) ⟨?_,rfl⟩
   ·simp (disch:=omega) only [EVC,xe,EVP,EV,simprocAttr]
   ·have hlt:¬(1:Int)<(([]:List Rec).length:Int):=by simp
    simp (disch:=omega) only [V7,hlt,EVC,xe,EVP,EV,simprocAttr]
  |cons p r=>
   have hlr:(p::r).length=r.length+1:=rfl;have:=E2 (fn:=S) (N:=N) (η:=[Al (p::r)]) (id:=1) (init:=[.c (.i .i64 1)]) (body:=Ct7) r (fun i=>[.i .i64 ((i:Int)+1)]) (fun i l=>if (match (p::r)[i]? with|some q=>Uq q l|none=>true)=true then .yld 0 [] else .ret [.b false]) ?_ (by omega) (fun i c l hd hi hc=> ?_) ?_
   ·exact this
   ·simp (disch:=omega) only [EVC,xe,EVP,EV,simprocAttr]
    try rfl
   ·obtain ⟨q,hq⟩:∃q,(p::r)[i]? =some q:=⟨_,Az (by rw [hlr];omega)⟩;have hc':(p::r)[i+1]? =some c:=by simpa using hc
    have e1:((i:Int)+1 - 1).toNat=i:=by omega
    have e2:((i:Int)+1).toNat=i+1:=by omega
    have hlt:(i:Int)+1<((p::r).length:Int):=by rw [hlr];omega
    have hsg:=Ab3 c.typ;rw [hq,hc'];generalize (p::r)=g' at*;have step:Uq q (c::l)=((!decide (c.typ=q.typ)||(!(decide (c.typ=6)||decide (c.typ=5)||decide (c.typ=39)) && (decide (c.typ=46)||decide (c.ttl=q.ttl)))) && Uq c l):=rfl;by_cases h1:c.typ=q.typ
    ·rcases Aq (decide (c.typ=6)||decide (c.typ=5)||decide (c.typ=39)) with h2|h2
     ·right;have er:Uq q (c::l)=false:=by rw [step,h2];simp [h1]
      rw [h2] at hsg;simp only [er,Ad,if_false];refine ⟨?_,rfl⟩;rw [h1] at hsg;simp (disch:=omega) only [V7,hlt,e1,e2,hq,hc',h1,hsg,EVC,xe,EVP,EV,simprocAttr]
     ·rw [h2] at hsg;rw [h2] at step;rw [h1] at hsg;by_cases h3:c.typ=46
      ·left;have er:Uq q (c::l)=Uq c l:=by rw [step];simp [h3]
       have h3':q.typ=46:=by rw [←h1];exact h3
       rw [h3'] at hsg;refine ⟨?_,by simp only [er]⟩;simp (disch:=omega) only [V7,hlt,e1,e2,hq,hc',h1,h3',hsg,EVC,xe,EVP,EV,simprocAttr]
       try simp
      ·have h3':¬q.typ=46:=by rw [←h1];exact h3
       by_cases h4:c.ttl=q.ttl
       ·left;have er:Uq q (c::l)=Uq c l:=by rw [step];simp [h4]
        refine ⟨?_,by simp only [er]⟩;simp (disch:=omega) only [V7,hlt,e1,e2,hq,hc',h1,h3',h4,hsg,EVC,xe,EVP,EV,simprocAttr]
        try simp
       ·right;have er:Uq q (c::l)=false:=by rw [step];simp [h1,h3',h4]
        simp only [er,Ad,if_false];refine ⟨?_,rfl⟩;simp (disch:=omega) only [V7,hlt,e1,e2,hq,hc',h1,h3',h4,hsg,EVC,xe,EVP,EV,simprocAttr]
    ·left;have er:Uq q (c::l)=Uq c l:=by rw [step];simp [h1]
     refine ⟨?_,by simp only [er]⟩;simp (disch:=omega) only [V7,hlt,e1,e2,hq,hc',h1,EVC,xe,EVP,EV,simprocAttr]
     try simp
   ·have hlt:¬(r.length:Int)+1<((p::r).length:Int):=by rw [hlr];omega
    obtain ⟨q,hq⟩:∃q,(p::r)[r.length]? =some q:=⟨_,Az (by rw [hlr];omega)⟩;rw [hq];refine ⟨?_,by simp [Uq,Out.goes]⟩;generalize (p::r)=g' at*;simp (disch:=omega) only [V7,hlt,EVC,xe,EVP,EV,simprocAttr];simp [Uq]
 rcases Aq (Dv2 g) with h|h
 ·rw [h,if_pos rfl] at key;rw [h];simp (disch:=omega) only [V7,key,EVC,xe,EVP,EV,simprocAttr]
 ·rw [h,if_neg (by simp)] at key;rw [h];simp (disch:=omega) only [V7,key,EVC,xe,EVP,EV,simprocAttr]
theorem Dq5 (a b:List Rec) (ha:a.length≤1000000) (hb:b.length≤1000000):S Bw8 2 [Al a,Al b]=some [.b (decide (a=b))]:=by
 obtain ⟨N,hN⟩:∃N,N=a.length+1:=⟨_,rfl⟩;refine Iy7 (N:=N) rfl ?_;by_cases hl:a.length=b.length
 ·have key:Eb8.ev S N [Al a,Al b]=some (if a.drop 0=b.drop 0 then .yld 0 [] else .ret [.b false]):=by
   refine Gp a.length (fun i=>[.i .i64 (i:Int)]) (fun i=>if a.drop i=b.drop i then .yld 0 [] else .ret [.b false]) rfl (by omega) (fun i hi=> ?_) ?_
   ·have h1:a[i]? =some a[i]:=Az hi;have h2:b[i]? =some b[i]:=Az (by omega);have d1:a.drop i=a[i]::a.drop (i+1):=Cd hi;have d2:b.drop i=b[i]::b.drop (i+1):=Cd (by omega);rw [d1,d2];generalize a[i]=x at*;generalize b[i]'(by omega)=y at*;have hlt:(i:Int)<(a.length:Int):=by omega
    by_cases h:x=y
    ·left;subst h;refine ⟨?_,by simp⟩;simp (disch:=omega) only [yd,hlt,h1,h2,EVC,xe,EVP,EV,simprocAttr]
     try simp
    ·right;rw [if_neg (by simp [h])];refine ⟨?_,rfl⟩;simp (disch:=omega) only [yd,hlt,h1,h2,h,EVC,xe,EVP,EV,simprocAttr]
   ·have hlt:¬(a.length:Int)<(a.length:Int):=by omega
    have e:a.drop a.length=b.drop a.length:=by rw [List.drop_length,hl,List.drop_length]
    rw [if_pos e];refine ⟨?_,rfl⟩;simp (disch:=omega) only [yd,hlt,EVC,xe,EVP,EV,simprocAttr]
  have hl':(a.length:Int)=(b.length:Int):=by omega
  rw [Eh,Eh] at key;by_cases h:a=b
  ·rw [if_pos h] at key;have e:decide (a=b)=true:=by simp [h]
   rw [e];simp (disch:=omega) only [yd,hl',key,EVC,xe,EVP,EV,simprocAttr]
  ·rw [if_neg h] at key;have e:decide (a=b)=false:=by simp [h]
   rw [e];simp (disch:=omega) only [yd,hl',key,EVC,xe,EVP,EV,simprocAttr]
 ·have hl':¬(a.length:Int)=(b.length:Int):=by omega
  have e:decide (a=b)=false:=decide_eq_false fun q=>hl (by rw [q]);rw [e];simp (disch:=omega) only [yd,hl',EVC,xe,EVP,EV,simprocAttr]
end Go.X.G
/- Zones in the program: proper. -/
namespace Go.X.G
open Go Go.X
section
variable (o cut red:List UInt8) (g:List Rec) (x:Rec) (N:Nat)
def zj (n:List UInt8):Bool:=decide (n[0]? =some 42)
theorem Ic4 (hx:g[0]? =some x) (hl:g.length≤1000000) (hn:x.name≠[]) (p4 p5 p6 p7 p8 p9 p10 p11 p12 p13:PV):
  Cy7.ev S N [.s o,Al g, .s cut, .s red,p4,p5,p6,p7,p8,p9,p10,p11,p12,p13]=some (.ret [.b (!zj x.name||(!F5 g 2 && !F5 g 39))]):=by
 have k2:=J0 g 2 hl;have k39:=J0 g 39 hl;obtain ⟨c,hc⟩:∃c,x.name[0]? =some c:=⟨_,Az (Bd.2 hn)⟩;unfold zj;rw [hc];by_cases h1:c=42
 ·have h1':(c.toNat:Int)=42:=by rw [h1];rfl
  rcases Aq (F5 g 2) with h2|h2
  ·rw [h2] at k2;simp (disch:=omega) only [Fg2,hx,hc,h1',k2,EVC,xe,EVP,EV,simprocAttr];simp [h1,h2]
  ·rw [h2] at k2;simp (disch:=omega) only [Fg2,hx,hc,h1',k2,k39,EVC,xe,EVP,EV,simprocAttr];simp [h1,h2]
 ·have h1':¬(c.toNat:Int)=42:=fun q=>h1 (UInt8.toNat_inj.1 (show c.toNat=42 by omega));simp (disch:=omega) only [Fg2,hx,hc,h1',EVC,xe,EVP,EV,simprocAttr];simp [h1]
theorem Ic3 (hx:g[0]? =some x) (hl:g.length≤1000000) (hn:x.name≠[]) (p4 p5 p6 p7 p8 p9 p10:PV):
  uv.ev S N [.s o,Al g, .s cut, .s red,p4,p5,p6,p7,p8,p9,p10]=some (.ret [.b ((if (!decide (x.name=o) && F5 g 2)=true then I2 g [2,43,47,46,1,28] else !F5 g 43) && (!zj x.name||(!F5 g 2 && !F5 g 39)))]):=by
 have k2:=J0 g 2 hl;have k43:=J0 g 43 hl;have kd:S Tt 2 [Al g, .l 1 [.i .i64 2, .i .i64 43, .i .i64 47, .i .i64 46, .i .i64 1, .i .i64 28]]=some [.b (I2 g [2,43,47,46,1,28])]:=V3 g [2,43,47,46,1,28] hl (by decide);have hlit:Jc 1 [.i .i64 2, .i .i64 43, .i .i64 47, .i .i64 46, .i .i64 1, .i .i64 28]=some (.l 1 [.i .i64 2, .i .i64 43, .i .i64 47, .i .i64 46, .i .i64 1, .i .i64 28]):=rfl;have t:=fun p11 p12 p13=>Ic4 o cut red g x N hx hl hn p4 p5 p6 p7 p8 p9 p10 p11 p12 p13;have x7:=Bz uv.eq_1;have x6:=Bz Bp0.eq_1;have x5:=Bz Br3.eq_1;have x4:=Bz Cj0.eq_1;have x3:=Bz Cv3.eq_1;by_cases h0:x.name=o
 ·rcases Aq (F5 g 43) with h1|h1<;>rw [h1] at k43<;>simp (disch:=omega) only [x7,x6,x5,x4,x3,t,hx,h0,k43,hlit,EVC,xe,EVP,EV,simprocAttr]<;>simp [h1]
 ·rcases Aq (F5 g 2) with h2|h2
  ·rw [h2] at k2;rcases Aq (I2 g [2,43,47,46,1,28]) with h3|h3<;>rw [h3] at kd<;>simp (disch:=omega) only [x7,x6,x5,x4,x3,t,hx,h0,k2,kd,hlit,EVC,xe,EVP,EV,simprocAttr]<;>simp [h0,h2,h3]
  ·rw [h2] at k2;rcases Aq (F5 g 43) with h1|h1<;>rw [h1] at k43<;>simp (disch:=omega) only [x7,x6,x5,x4,x3,t,hx,h0,k2,k43,hlit,EVC,xe,EVP,EV,simprocAttr]<;>simp [h0,h1,h2]
theorem Hv6 (hx:g[0]? =some x) (hl:g.length≤1000000) (hn:x.name≠[]) (p4 p5 p6 p7:PV):
  X7.ev S N [.s o,Al g, .s cut, .s red,p4,p5,p6,p7]=some (.ret [.b ((!F5 g 5||I2 g [5,46,47]) && decide (red=[]) && (decide (cut=[])||I2 g [1,28]) && ((if (!decide (x.name=o) && F5 g 2)=true then I2 g [2,43,47,46,1,28] else !F5 g 43) && (!zj x.name||(!F5 g 2 && !F5 g 39))))]):=by
 have k5:=J0 g 5 hl;have kc:S Tt 2 [Al g, .l 1 [.i .i64 5, .i .i64 46, .i .i64 47]]=some [.b (I2 g [5,46,47])]:=V3 g [5,46,47] hl (by decide);have ka:S Tt 2 [Al g, .l 1 [.i .i64 1, .i .i64 28]]=some [.b (I2 g [1,28])]:=V3 g [1,28] hl (by decide);have hlit1:Jc 1 [.i .i64 5, .i .i64 46, .i .i64 47]=some (.l 1 [.i .i64 5, .i .i64 46, .i .i64 47]):=rfl;have hlit2:Jc 1 [.i .i64 1, .i .i64 28]=some (.l 1 [.i .i64 1, .i .i64 28]):=rfl;have t:=fun p8 p9 p10=>Ic3 o cut red g x N hx hl hn p4 p5 p6 p7 p8 p9 p10;generalize ((if (!decide (x.name=o) && F5 g 2)=true then I2 g [2,43,47,46,1,28] else !F5 g 43) && (!zj x.name||(!F5 g 2 && !F5 g 39)))=B at*;have x13:=Bz X7.eq_1;have x12:=Bz ln.eq_1;have x11:=Bz lp.eq_1;have x10:=Bz lr.eq_1;have x9:=Bz Bm4.eq_1;have x8:=Bz Bm9.eq_1;rcases Aq (F5 g 5) with h1|h1<;>rw [h1] at k5
 ·rcases Aq (I2 g [5,46,47]) with h2|h2<;>rw [h2] at kc
  ·by_cases h3:red=[]
   ·replace h3:=eq_true h3;by_cases h4:cut=[]
    ·replace h4:=eq_true h4;simp (disch:=omega) only [x13,x12,x11,x10,x9,x8,t,k5,kc,h3,h4,hlit1,hlit2,EVC,xe,EVP,EV,simprocAttr]
     (clear x13 x12 x11 x10 x9 x8 t;simp [*])
    ·rcases Aq (I2 g [1,28]) with h5|h5<;>rw [h5] at ka<;>simp (disch:=omega) only [x13,x12,x11,x10,x9,x8,t,k5,kc,ka,h3,h4,hlit1,hlit2,EVC,xe,EVP,EV,simprocAttr]<;>(clear x13 x12 x11 x10 x9 x8 t;simp [*])
   ·simp (disch:=omega) only [x13,x12,x11,x10,x9,x8,t,k5,kc,h3,hlit1,hlit2,EVC,xe,EVP,EV,simprocAttr]
    (clear x13 x12 x11 x10 x9 x8 t;simp [*])
  ·simp (disch:=omega) only [x13,x12,x11,k5,kc,hlit1,hlit2,EVC,xe,EVP,EV,simprocAttr]
   (clear x13 x12 x11 x10 x9 x8 t;simp [*])
 ·by_cases h3:red=[]
  ·replace h3:=eq_true h3;by_cases h4:cut=[]
   ·replace h4:=eq_true h4;simp (disch:=omega) only [x13,x12,x11,x10,x9,x8,t,k5,h3,h4,hlit1,hlit2,EVC,xe,EVP,EV,simprocAttr]
    (clear x13 x12 x11 x10 x9 x8 t;simp [*])
   ·rcases Aq (I2 g [1,28]) with h5|h5<;>rw [h5] at ka<;>simp (disch:=omega) only [x13,x12,x11,x10,x9,x8,t,k5,ka,h3,h4,hlit1,hlit2,EVC,xe,EVP,EV,simprocAttr]<;>(clear x13 x12 x11 x10 x9 x8 t;simp [*])
  ·simp (disch:=omega) only [x13,x12,x11,x10,x9,x8,t,k5,h3,hlit1,hlit2,EVC,xe,EVP,EV,simprocAttr]
   (clear x13 x12 x11 x10 x9 x8 t;simp [*])
end
theorem yc (o cut red:List UInt8) (g:List Rec) (hg:g≠[]) (hl:g.length≤1000000) (ho:o.length≤9223372036854775807) (hn:(nmG g).length≤9223372036854775807):
  S Bw6 4 [.s o,Al g, .s cut, .s red]=some [.b (propG o g (decide (cut≠[])) (decide (red≠[])))]:=by
 obtain ⟨x,r,rfl⟩:∃x r,g=x::r:=by
  cases g with
  |nil=>exact absurd rfl hg
  |cons x r=>exact ⟨x,r,rfl⟩
 have hx:(x::r)[0]? =some x:=rfl;have hnm:nmG (x::r)=x.name:=rfl;rw [hnm] at hn;unfold propG;rw [hnm];generalize (x::r)=g at*;obtain ⟨N,hN⟩:∃N,N=1:=⟨_,rfl⟩;refine Iy5 (N:=N) rfl ?_;have hu:=Gm x.name o hn ho;have k6:=J0 g 6 hl;have k2:=J0 g 2 hl;have ku:=fb g hl;have xt:=Bz Ah0.eq_1;have x18:=Bz lq.eq_1;have x17:=Bz lw.eq_1;have x16:=Bz lz.eq_1;have x15:=Bz lg.eq_1;have x14:=Bz lh.eq_1;have e1:decide (cut≠[])= !decide (cut=[]):=by simp
 have e2:decide (red≠[])= !decide (red=[]):=by simp
 rw [e1,e2,Bool.not_not,Bool.not_not];rcases Aq (under x.name o) with h0|h0<;>rw [h0] at hu
 ·have hne:x.name≠[]:=fz (C1.1 h0).1;have t:=fun p4 p5 p6 p7=>Hv6 o cut red g x N hx hl hne p4 p5 p6 p7;have eS:zj x.name=decide (x.name[0]? =some 42):=rfl;rw [eS] at t;generalize hA:(!F5 g 5||I2 g [5,46,47])=A at*;generalize hB:(if (!decide (x.name=o) && F5 g 2)=true then I2 g [2,43,47,46,1,28] else !F5 g 43)=B at*;generalize hC:(!decide (x.name[0]? =some 42)||(!F5 g 2 && !F5 g 39))=C at*;generalize decide (red=[])=D at*;generalize (decide (cut=[])||I2 g [1,28])=E' at*;clear hB hC hA;rcases Aq (F5 g 6) with h6|h6<;>rw [h6] at k6
  ·by_cases hno:x.name=o
   ·replace hno:=eq_true hno;rcases Aq (Dv2 g) with h1|h1<;>rw [h1] at ku
    ·rcases Aq (F5 g 2) with h2|h2<;>rw [h2] at k2
     ·simp (disch:=omega) only [xt,x18,x17,x16,x15,x14,t,hx,hu,k6,hno,ku,k2,EVC,xe,EVP,EV,simprocAttr]
      (clear xt x18 x17 x16 x15 x14 t;simp [*,Bool.and_assoc])
     ·simp (disch:=omega) only [xt,x18,x17,x16,x15,x14,t,hx,hu,k6,hno,ku,k2,EVC,xe,EVP,EV,simprocAttr]
      (clear xt x18 x17 x16 x15 x14 t;simp [*])
    ·simp (disch:=omega) only [xt,x18,x17,x16,x15,x14,t,hx,hu,k6,hno,ku,EVC,xe,EVP,EV,simprocAttr]
     (clear xt x18 x17 x16 x15 x14 t;simp [*])
   ·simp (disch:=omega) only [xt,x18,x17,x16,x15,x14,t,hx,hu,k6,hno,EVC,xe,EVP,EV,simprocAttr]
    (clear xt x18 x17 x16 x15 x14 t;simp [*])
  ·by_cases hno:x.name=o
   ·replace hno:=eq_true hno;simp (disch:=omega) only [xt,x18,x17,x16,x15,x14,t,hx,hu,k6,hno,EVC,xe,EVP,EV,simprocAttr]
    (clear xt x18 x17 x16 x15 x14 t;simp [*])
   ·rcases Aq (Dv2 g) with h1|h1<;>rw [h1] at ku
    ·simp (disch:=omega) only [xt,x18,x17,x16,x15,x14,t,hx,hu,k6,hno,ku,EVC,xe,EVP,EV,simprocAttr]
     (clear xt x18 x17 x16 x15 x14 t;simp [*,Bool.and_assoc])
    ·simp (disch:=omega) only [xt,x18,x17,x16,x15,x14,t,hx,hu,k6,hno,ku,EVC,xe,EVP,EV,simprocAttr]
     (clear xt x18 x17 x16 x15 x14 t;simp [*])
 ·simp (disch:=omega) only [xt,x18,x17,x16,x15,x14,hx,hu,EVC,xe,EVP,EV,simprocAttr]
  (clear xt x18 x17 x16 x15 x14;simp [*])
end Go.X.G
/- Zones in the program: Check and New. -/
namespace Go.X.G
open Go Go.X
def Gv (gs:List (List Rec)):PV:= .l 1 (gs.map Al)
theorem N0 (l:List (List Rec)):Gy (Gv l)=some (.i .i64 (l.length:Int)):=by simp [Gv,Gy]
theorem E3 (l:List (List Rec)) (k:IntKind) (z:Int) (h:0≤z):H6 1 (Gv l) (.i k z)=(l[z.toNat]?).map Al:=by simp [Gv,ct _ _ _ _ h]
theorem Bz5 (x:List Rec):Jc 1 [Al x]=some (Gv [x]):=rfl
theorem d5 (l:List (List Rec)) (x:List Rec) (h:l.length+1≤1073741824):H8 1 (Gv l) (Gv [x])=some (Gv (l++[x])):=by have:=T6 1 (l.map Al) [Al x] (by simpa using h);simpa [Gv] using this
theorem Fl7 {α:Type} (l:List α) (s i:Nat) (c:α) (h:l[i]? =some c) (hs:s≤i):sl l s (i+1)=sl l s i++[c]:=by unfold sl;have hi:=(Aw.1 h).1;rw [Cc,h,List.drop_append_of_le_length (by rw [An];omega)];rfl
theorem Bg3 (l:List Rec) (hl:l.length≤1000000):S Bw7 1 [Al l]=some [Gv (grp l)]:=by
 obtain ⟨N,hN⟩:∃N,N=l.length+1:=⟨_,rfl⟩;refine Iy6 (N:=N) rfl ?_;have key:Eb7.ev S N [Al l]=some (.yld 0 [Gv ([]++T4 (sl l 0 0) l)]):=by
  refine Iw l (fun i (g:List (List Rec)×Nat)=>[Gv g.1, .i .i64 (g.2:Int), .i .i64 (i:Int)]) (fun i g r=> .yld 0 [Gv (g.1++T4 (sl l g.2 i) r)]) (fun i g=>g.2≤i∧g.1.length≤i) ([],0) ?_ (by simp) (by omega) (fun i g c r hd hi hc hI=> ?_) (fun g hI=> ?_)
  ·rfl
  ·left;obtain ⟨out,st⟩:=g;obtain ⟨hI1,hI2⟩:=hI;simp only at hI1 hI2 ⊢;have hlt:(i:Int)<(l.length:Int):=by omega
   have e1:((i:Int)+1).toNat=i+1:=by omega
   have e2:(i:Int).toNat=i:=by omega
   have e3:(st:Int).toNat=st:=by omega
   have hsl:=Fl7 l st i c hc hI1;have hsl2:List.drop st (List.take (i+1) l)=sl l st i++[c]:=hsl;have hsl3:sl l st st=[]:=by unfold sl;rw [List.drop_eq_nil_iff,An];omega
   have hsl4:sl l (i+1) (i+1)=[]:=by unfold sl;rw [List.drop_eq_nil_iff,An];omega
   have hr:r=l.drop (i+1):=by have:=congrArg List.tail hd;simpa using this.symm
   by_cases hc2:(match r with|[]=>true|y::_=> !decide (y.name=c.name))=true
   ·refine ⟨(out++[sl l st i++[c]],i+1),?_,⟨by simp,by simp;omega⟩,?_⟩
    ·cases r with
     |nil=>
      have hend:(i:Int)+1=(l.length:Int):=by have:=congrArg List.length hr;simp at this;omega
      simp only;simp (disch:=omega) only [Ad9,hlt,hend.symm,e1,e2,e3,hc,hsl2,Bz5,d5,EVC,xe,EVP,EV,simprocAttr]
      try (congr 3;omega)
     |cons y r'=>
      have hy:l[i+1]? =some y:=by have:=congrArg (fun q=>q[0]?) hr;simpa [A7] using this.symm
      have hyl:=(Aw.1 hy).1;have hend:¬(i:Int)+1=(l.length:Int):=by omega
      have hyc:¬y.name=c.name:=by simpa using hc2
      simp only;simp (disch:=omega) only [Ad9,hlt,hend,e1,e2,e3,hc,hy,hyc,hsl2,Bz5,d5,EVC,xe,EVP,EV,simprocAttr]
      try congr 3
    ·have eg:T4 (sl l st i) (c::r)=(sl l st i++[c])::T4 [] r:=by
      cases r with
      |nil=>rfl
      |cons y r'=>rw [T4,if_pos hc2]
     simp only [eg,hsl4];simp
   ·refine ⟨(out,st),?_,⟨by simp;omega,by simp;omega⟩,?_⟩
    ·cases r with
     |nil=>simp at hc2
     |cons y r'=>
      have hy:l[i+1]? =some y:=by have:=congrArg (fun q=>q[0]?) hr;simpa [A7] using this.symm
      have hyl:=(Aw.1 hy).1;have hend:¬(i:Int)+1=(l.length:Int):=by omega
      have hyc:y.name=c.name:=by simpa using hc2
      simp only;simp (disch:=omega) only [Ad9,hlt,hend,e1,e2,e3,hc,hy,hyc,EVC,xe,EVP,EV,simprocAttr]
      try rfl
    ·have eg:T4 (sl l st i) (c::r)=T4 (sl l st i++[c]) r:=by
      cases r with
      |nil=>simp at hc2
      |cons y r'=>rw [T4,if_neg hc2]
     simp only [eg,hsl]
  ·have hlt:¬(l.length:Int)<(l.length:Int):=by omega
   refine ⟨?_,rfl⟩;simp (disch:=omega) only [Ad9,hlt,EVC,xe,EVP,EV,simprocAttr];simp [T4]
 have e:[]++T4 (sl l 0 0) l=grp l:=by simp [sl,grp]
 rw [e] at key;generalize grp l=gs at*;simp (disch:=omega) only [Ad9,key,EVC,xe,EVP,EV,simprocAttr]
def Az2 (o:List UInt8):List (List Rec)→List UInt8→List UInt8→Bool→Option Bool
 |[],_,_,soa=>some soa
 |g::gs,cut,red,soa=>
  if propG o g (decide (Ds (nmG g) cut≠[])) (decide (Ds (nmG g) red≠[]))=true then
   Az2 o gs (if Ds (nmG g) cut=[]∧nmG g≠o∧F5 g 2=true then nmG g else Ds (nmG g) cut) (if F5 g 39=true then nmG g else Ds (nmG g) red) (soa||decide (nmG g=o))
  else none
theorem Bm3 (o:List UInt8):∀(gs:List (List Rec)) (cut red:List UInt8) (soa:Bool),j9 o gs cut red soa=decide (Az2 o gs cut red soa=some true)
 |[],_,_,soa=>by simp [j9,Az2]
 |g::gs,cut,red,soa=>by
  simp only [j9,Az2];split
  ·exact Bm3 o gs _ _ _
  ·simp
def Hp9:Option Bool→Out
 |some b=> .yld 0 [.b b]
 |none=> .ret [.i .i64 13]
section
variable (z:Zone) (g:List Rec) (gs:List (List Rec)) (x:Rec) (N:Nat) (i:Nat) (cut red:List UInt8) (soa:Bool)
theorem It5 (hi:gs[i]? =some g) (hx:g[0]? =some x) (hxl:x.name.length≤9223372036854775807) (hcl:cut.length≤9223372036854775807) (p1 p2 p3 p4 p5:PV):
  ∃p11,S8.ev S N [z.pv,p1,p2,p3,p4,p5,Gv gs, .s cut, .s red, .b soa, .i .i64 (i:Int)]=S9.ev S N [z.pv,p1,p2,p3,p4,p5,Gv gs, .s cut, .s red, .b soa, .i .i64 (i:Int),p11, .s (Ds x.name cut)]:=by
 have x17:=Bz S8.eq_1;have x16:=Bz lf.eq_1;have x0:=Bz Cr0.eq_1;have hu:=Gm x.name cut hxl hcl;have ei:(i:Int).toNat=i:=by omega
 by_cases h1:cut=[]
 ·refine ⟨.u,?_⟩;have e:Ds x.name cut=cut:=by unfold Ds;simp [h1]
  rw [e];replace h1:=eq_true h1;simp (disch:=omega) only [x17,x16,x0,h1,hi,hx,ei,E3,EVC,xe,EVP,EV,simprocAttr]
 ·rcases Aq (under x.name cut) with h2|h2<;>rw [h2] at hu
  ·refine ⟨.b true,?_⟩;have e:Ds x.name cut=cut:=by unfold Ds;simp [h2]
   rw [e];simp (disch:=omega) only [x17,x16,x0,h1,hu,hi,hx,ei,E3,EVC,xe,EVP,EV,simprocAttr]
  ·refine ⟨.b false,?_⟩;have e:Ds x.name cut=[]:=by unfold Ds;simp [h1,h2]
   rw [e];simp (disch:=omega) only [x17,x16,x0,h1,hu,hi,hx,ei,E3,EVC,xe,EVP,EV,simprocAttr]
theorem It4 (hi:gs[i]? =some g) (hx:g[0]? =some x) (hxl:x.name.length≤9223372036854775807) (hrl:red.length≤9223372036854775807) (p1 p2 p3 p4 p5 p11 p12:PV):
  ∃p13,S9.ev S N [z.pv,p1,p2,p3,p4,p5,Gv gs, .s cut, .s red, .b soa, .i .i64 (i:Int),p11,p12]=X8.ev S N [z.pv,p1,p2,p3,p4,p5,Gv gs, .s cut, .s red, .b soa, .i .i64 (i:Int),p11,p12,p13, .s (Ds x.name red)]:=by
 have x15:=Bz S9.eq_1;have x14:=Bz lm.eq_1;have x1:=Bz Cf5.eq_1;have hu:=Gm x.name red hxl hrl;have ei:(i:Int).toNat=i:=by omega
 by_cases h1:red=[]
 ·refine ⟨.u,?_⟩;have e:Ds x.name red=red:=by unfold Ds;simp [h1]
  rw [e];replace h1:=eq_true h1;simp (disch:=omega) only [x15,x14,x1,h1,hi,hx,ei,E3,EVC,xe,EVP,EV,simprocAttr]
 ·rcases Aq (under x.name red) with h2|h2<;>rw [h2] at hu
  ·refine ⟨.b true,?_⟩;have e:Ds x.name red=red:=by unfold Ds;simp [h2]
   rw [e];simp (disch:=omega) only [x15,x14,x1,h1,hu,hi,hx,ei,E3,EVC,xe,EVP,EV,simprocAttr]
  ·refine ⟨.b false,?_⟩;have e:Ds x.name red=[]:=by unfold Ds;simp [h1,h2]
   rw [e];simp (disch:=omega) only [x15,x14,x1,h1,hu,hi,hx,ei,E3,EVC,xe,EVP,EV,simprocAttr]
theorem It3 (hi:gs[i]? =some g) (hx:g[0]? =some x) (hnm:nmG g=x.name) (hg:g≠[]) (hl:g.length≤1000000) (hil:i≤1000000) (hxl:x.name.length≤9223372036854775807) (hzl:z.origin.length≤9223372036854775807) (cu re:List UInt8) (p1 p2 p3 p4 p5 p7 p8 p11 p13:PV):
  X8.ev S N [z.pv,p1,p2,p3,p4,p5,Gv gs,p7,p8, .b soa, .i .i64 (i:Int),p11, .s cu,p13, .s re]=
   some (if propG z.origin g (decide (cu≠[])) (decide (re≠[]))=true then .yld 1 [.s (if cu=[]∧x.name≠z.origin∧F5 g 2=true then x.name else cu), .s (if F5 g 39=true then x.name else re), .b (soa||decide (x.name=z.origin)), .i .i64 ((i:Int)+1)] else .ret [.i .i64 13]):=by
 have hp:=yc z.origin cu re g hg hl hzl (by rw [hnm];exact hxl);have k2:=J0 g 2 hl;have k39:=J0 g 39 hl;have ei:(i:Int).toNat=i:=by omega
 generalize propG z.origin g (decide (cu≠[])) (decide (re≠[]))=P at*;cases P
 ·simp (disch:=omega) only [Q7,hp,hi,hx,ei,E3,EVC,xe,EVP,EV,simprocAttr]
  try simp
 ·by_cases h1:cu=[]
  ·by_cases h2:x.name=z.origin
   ·rcases Aq (F5 g 39) with h3|h3<;>rw [h3] at k39
    ·cases soa<;>(have h1':=eq_true h1;have h2':=eq_true h2;simp (disch:=omega) only [Q7,hp,hi,hx,ei,h1',h2',k39,E3,EVC,xe,EVP,EV,simprocAttr];simp [h2,h3])
    ·cases soa<;>(have h1':=eq_true h1;have h2':=eq_true h2;simp (disch:=omega) only [Q7,hp,hi,hx,ei,h1',h2',k39,E3,EVC,xe,EVP,EV,simprocAttr];simp [h2,h3])
   ·rcases Aq (F5 g 2) with h4|h4<;>rw [h4] at k2
    ·rcases Aq (F5 g 39) with h3|h3<;>rw [h3] at k39
     ·cases soa<;>(have h1':=eq_true h1;simp (disch:=omega) only [Q7,hp,hi,hx,ei,h1',h2,k2,k39,E3,EVC,xe,EVP,EV,simprocAttr];simp [h1,h2,h3,h4])
     ·cases soa<;>(have h1':=eq_true h1;simp (disch:=omega) only [Q7,hp,hi,hx,ei,h1',h2,k2,k39,E3,EVC,xe,EVP,EV,simprocAttr];simp [h1,h2,h3,h4])
    ·rcases Aq (F5 g 39) with h3|h3<;>rw [h3] at k39
     ·cases soa<;>(have h1':=eq_true h1;simp (disch:=omega) only [Q7,hp,hi,hx,ei,h1',h2,k2,k39,E3,EVC,xe,EVP,EV,simprocAttr];simp [h2,h3,h4])
     ·cases soa<;>(have h1':=eq_true h1;simp (disch:=omega) only [Q7,hp,hi,hx,ei,h1',h2,k2,k39,E3,EVC,xe,EVP,EV,simprocAttr];simp [h2,h3,h4])
  ·by_cases h2:x.name=z.origin
   ·rcases Aq (F5 g 39) with h3|h3<;>rw [h3] at k39
    ·cases soa<;>(have h2':=eq_true h2;simp (disch:=omega) only [Q7,hp,hi,hx,ei,h1,h2',k39,E3,EVC,xe,EVP,EV,simprocAttr];simp [h1,h2,h3])
    ·cases soa<;>(have h2':=eq_true h2;simp (disch:=omega) only [Q7,hp,hi,hx,ei,h1,h2',k39,E3,EVC,xe,EVP,EV,simprocAttr];simp [h1,h2,h3])
   ·rcases Aq (F5 g 39) with h3|h3<;>rw [h3] at k39
    ·cases soa<;>(simp (disch:=omega) only [Q7,hp,hi,hx,ei,h1,h2,k39,E3,EVC,xe,EVP,EV,simprocAttr];simp [h1,h2,h3])
    ·cases soa<;>(simp (disch:=omega) only [Q7,hp,hi,hx,ei,h1,h2,k39,E3,EVC,xe,EVP,EV,simprocAttr];simp [h1,h2,h3])
end
theorem tq:∀(n:Nat) (l:List Rec),l.length≤n→(∀g∈grp l,g≠[]∧∀x∈g,x∈l)∧(grp l).length≤l.length
 |_,[],_=>by simp [grp,T4]
 |0,x::r,hn=>by simp at hn
 |n+1,x::r,hn=>by
  obtain ⟨g,l',h1,h2,h3,h4,h5⟩:=Qp x r;have hlen:=congrArg List.length h1;have hg0:0<g.length:=Bd.2 h2;simp only [Ab,A0] at hlen hn;obtain ⟨i1,i2⟩:=tq n l' (by omega);rw [h5];refine ⟨fun g' hg'=> ?_,by simp;omega⟩;rcases Am.1 hg' with rfl|hg'
  ·exact ⟨h2,fun w hw=>by rw [h1];exact B3 _ hw⟩
  ·obtain ⟨j1,j2⟩:=i1 g' hg';exact ⟨j1,fun w hw=>by rw [h1];exact Br _ (j2 w hw)⟩
theorem Bf1 (p:Prop) [Decidable p] (a b:List UInt8) (ha:a.length≤9223372036854775807) (hb:b.length≤9223372036854775807):(if p then a else b).length≤9223372036854775807:=by split<;>assumption
theorem Ir8 (z:Zone) (hz:z.wf) (hl:z.recs.length≤1000000) (N:Nat) (hN:z.recs.length+1<N) (p1 p2 p3 p4 p5:PV):
  Ec6.ev S N [z.pv,p1,p2,p3,p4,p5,Gv (grp z.recs)]=some (Hp9 (Az2 z.origin (grp z.recs) [] [] false)):=by
 obtain ⟨gf1,gf2⟩:=tq z.recs.length z.recs (Af _);have hgl:∀g∈grp z.recs,g.length≤1000000:=fun g hg=>by
  have:∀(n:Nat) (l:List Rec),l.length≤n→∀g∈grp l,g.length≤l.length:=by
   intro n
   induction n with
   |zero=>intro l hl g hg;cases l with
    |nil=>simp [grp,T4] at hg
    |cons x r=>simp at hl
   |succ n ih=>
    intro l hl g hg;cases l with
    |nil=>simp [grp,T4] at hg
    |cons x r=>
     obtain ⟨g0,l',h1,h2,h3,h4,h5⟩:=Qp x r;have hlen:=congrArg List.length h1;have hg0:0<g0.length:=Bd.2 h2;simp only [Ab,A0] at hlen hl;rw [h5] at hg;rcases Am.1 hg with rfl|hg
     ·simp only [A0];omega
     ·have:=ih l' (by omega) g hg;simp only [A0];omega
  exact C9 (this _ _ (Af _) g hg) hl
 generalize grp z.recs=gs at*;have:=Iw (fn:=S) (N:=N) (η:=[z.pv,p1,p2,p3,p4,p5,Gv gs]) (id:=1) (init:=[.c (.s []), .c (.s []), .c (.b false), .c (.i .i64 0)]) (body:=Vh) gs (fun i (a:List UInt8×List UInt8×Bool)=>[.s a.1, .s a.2.1, .b a.2.2, .i .i64 (i:Int)]) (fun i a r=>Hp9 (Az2 z.origin r a.1 a.2.1 a.2.2)) (fun i a=>a.1.length≤9223372036854775807∧a.2.1.length≤9223372036854775807) ([],[],false) ?_ (by simp) (by omega) (fun i a g r hd hi hc hI=> ?_) (fun a hI=> ?_)
 ·exact this
 ·simp (disch:=omega) only [EVC,xe,EVP,EV,simprocAttr]
  try rfl
 ·obtain ⟨cut,red,soa⟩:=a;obtain ⟨hI1,hI2⟩:=hI;simp only at hI1 hI2 ⊢;have hgm:=Bq hc;obtain ⟨hg,hgz⟩:=gf1 g hgm;obtain ⟨x,hx,hxm⟩:∃x,g[0]? =some x∧x∈g:=by
   cases g with
   |nil=>exact absurd rfl hg
   |cons x r=>exact ⟨x,rfl, .head _⟩
  have hnm:nmG g=x.name:=by
   cases g with
   |nil=>exact absurd rfl hg
   |cons y r=>simp at hx;rw [←hx];rfl
  have hxl:x.name.length≤9223372036854775807:=(hz.recs.2 x (hgz x hxm)).name;have hzl:z.origin.length≤9223372036854775807:=hz.origin;obtain ⟨p11,kA⟩:=It5 z g gs x N i cut red soa hc hx hxl hI1 p1 p2 p3 p4 p5;have hku:(Ds x.name cut).length≤9223372036854775807:=by unfold Ds;split<;>simp [hI1]
  have hkr:(Ds x.name red).length≤9223372036854775807:=by unfold Ds;split<;>simp [hI2]
  obtain ⟨p13,kB⟩:=It4 z g gs x N i cut red soa hc hx hxl hI2 p1 p2 p3 p4 p5 p11 (.s (Ds x.name cut));have kC:=It3 z g gs x N i soa hc hx hnm hg (hgl g hgm) (by omega) hxl hzl (Ds x.name cut) (Ds x.name red) p1 p2 p3 p4 p5 (.s cut) (.s red) p11 p13;have kall:=kA.trans (kB.trans kC);have hlt:(i:Int)<(gs.length:Int):=by omega
  have hb:Vh.ev S N [z.pv,p1,p2,p3,p4,p5,Gv gs, .s cut, .s red, .b soa, .i .i64 (i:Int)]=S8.ev S N [z.pv,p1,p2,p3,p4,p5,Gv gs, .s cut, .s red, .b soa, .i .i64 (i:Int)]:=by have xb:=Bz Vh.eq_1;simp (disch:=omega) only [xb,hlt,N0,EVC,xe,EVP,EV,simprocAttr]
  have hb2:=hb.trans kall;have estep:Az2 z.origin (g::r) cut red soa=if propG z.origin g (decide (Ds x.name cut≠[])) (decide (Ds x.name red≠[]))=true then Az2 z.origin r (if Ds x.name cut=[]∧x.name≠z.origin∧F5 g 2=true then x.name else Ds x.name cut) (if F5 g 39=true then x.name else Ds x.name red) (soa||decide (x.name=z.origin)) else none:=by simp only [Az2,hnm]
  by_cases hP:propG z.origin g (decide (Ds x.name cut≠[])) (decide (Ds x.name red≠[]))=true
  ·left;rw [if_pos hP] at hb2 estep;refine ⟨(if Ds x.name cut=[]∧x.name≠z.origin∧F5 g 2=true then x.name else Ds x.name cut,if F5 g 39=true then x.name else Ds x.name red,soa||decide (x.name=z.origin)),hb2,⟨?_,?_⟩,?_⟩
   ·exact Bf1 _ _ _ hxl hku
   ·exact Bf1 _ _ _ hxl hkr
   ·rw [estep]
  ·right;rw [if_neg hP] at hb2 estep;rw [estep];exact ⟨hb2,rfl⟩
 ·have hlt:¬(gs.length:Int)<(gs.length:Int):=by omega
  have xb:=Bz Vh.eq_1;refine ⟨?_,rfl⟩;simp (disch:=omega) only [xb,hlt,N0,EVC,xe,EVP,EV,simprocAttr];rfl
theorem nj (z:Zone) (hz:z.wf):Ez z=if vld z.origin=false then 2 else if 2048<z.recs.length∨P4 z.recs=true then 9 else if z.recs.all Iz=false then 5 else if z.recs≠sortR z.recs then 7 else if Az2 z.origin (grp z.recs) [] [] false=some true then 0 else 13:=by
 unfold Ez;rcases Aq (vld z.origin) with h1|h1
 ·have n1:¬vld z.origin=false:=by simp [h1]
  rw [if_neg n1,if_neg n1];by_cases h2:2048<z.recs.length
  ·rw [if_pos h2,if_pos (.inl h2)]
  ·rw [if_neg h2];have hcr:=Ay7 z.recs;rcases Aq (z.recs.all fun r=>decide ((findR z.recs r.name r.typ).length≤64)) with h3|h3
   ·rw [h3] at hcr;have hn2:¬(2048<z.recs.length∨P4 z.recs=true):=by
     rintro (q|q)
     ·exact h2 q
     ·rw [hcr] at q;cases q
    have n3:¬(z.recs.all fun r=>decide ((findR z.recs r.name r.typ).length≤64))=false:=by simp only [h3];simp
    rw [if_neg n3,if_neg hn2];rcases Aq (z.recs.all Iz) with h4|h4
    ·have n4:¬z.recs.all Iz=false:=by simp only [h4];simp
     rw [if_neg n4,if_neg n4];by_cases h5:z.recs=sortR z.recs
     ·have n5:¬z.recs≠sortR z.recs:=by simpa using h5
      rw [if_neg n5,if_neg n5];have hv:∀r∈z.recs,Iz r=true:=Bw.1 h4;have hr:z.recs.Pairwise ltR:=by rw [h5];exact (Ph z.recs hv).1
      have hk:=uq z (fun r h=>Y4 (hv r h)) (Am6 hr) z.recs.length [] z.recs [] [] false (Af _) rfl (by simp) ⟨by simp,by simp,by simp,by simp⟩;rw [Bm3,decide_eq_true_eq] at hk;have hk2:=An9 z hv hr;have hk3:Az2 z.origin (grp z.recs) [] [] false=some true↔(findR z.recs z.origin 6).length=1∧T3 z.recs z.origin 2=true∧∀r∈z.recs,H4 z r=true:=by rw [hk,←hk2];simp
      by_cases h6:Az2 z.origin (grp z.recs) [] [] false=some true
      ·obtain ⟨a,b,c⟩:=hk3.1 h6;have c':z.recs.all (H4 z)=true:=Bw.2 c;have n7:¬((findR z.recs z.origin 6).length≠1∨T3 z.recs z.origin 2=false):=by simp [a,b]
       have n8:¬z.recs.all (H4 z)=false:=by simp only [c'];simp
       rw [if_pos h6,if_neg n7,if_neg n8]
      ·rw [if_neg h6];by_cases h7:(findR z.recs z.origin 6).length≠1∨T3 z.recs z.origin 2=false
       ·rw [if_pos h7]
       ·rw [if_neg h7];by_cases h8:z.recs.all (H4 z)=false
        ·rw [if_pos h8]
        ·exfalso;simp only [not_or,ne_eq,I7,Ex] at h7 h8;exact h6 (hk3.2 ⟨h7.1,h7.2,Bw.1 h8⟩)
     ·rw [if_pos h5,if_pos h5]
    ·rw [if_pos h4,if_pos h4]
   ·rw [h3] at hcr;rw [if_pos h3,if_pos (.inr hcr)]
 ·rw [if_pos h1,if_pos h1]
theorem Tz (z:Zone) (hz:z.wf) (hl:z.recs.length≤1000000):S ir 1 [z.pv]=some [.i .i64 (Ez z)]:=by
 obtain ⟨N,hN⟩:∃N,N=z.recs.length+2:=⟨_,rfl⟩;refine Ib8 (N:=N) rfl ?_;rw [nj z hz];have hzl:z.origin.length≤9223372036854775807:=hz.origin;have k1:=B4 z.origin hzl;have k2:=Ay6 z.recs hl;have k3:=Ik z.recs Bx0 [] (fun r=> !Iz r) hl (fun r hr=>by refine Iy9 (N:=1) rfl ?_;have:=Dk9 r (hz.recs.2 r hr);simp (disch:=omega) only [Ht9,this,EVC,xe,EVP,EV,simprocAttr])
 have e3:(z.recs.any fun r=> !Iz r)= !z.recs.all Iz:=by rw [List.not_all_eq_any_not]
 rw [e3] at k3;have k4:=yz z.recs hz.recs.2 hl;have hsl:(sortR z.recs).length≤1000000:=by obtain ⟨r,h1,h2,_⟩:=Kk Gv1 (by rw [Aw8];exact Gn3) z.recs hz.recs.2 hl;rw [Aw8] at h1;have:=S5 eqF r;rw [Wb h1] at this;omega
 have k5:=Dq5 z.recs (sortR z.recs) hl hsl;have k6:=Bg3 z.recs hl;have k7:=fun p1 p2 p3 p4 p5=>Ir8 z hz hl N (by omega) p1 p2 p3 p4 p5;have xt:=Bz Ah3.eq_1;have x28:=Bz kw.eq_1;have x27:=Bz kx.eq_1;have x26:=Bz ky.eq_1;have x25:=Bz kz.eq_1;have x24:=Bz kf.eq_1;have x23:=Bz kg.eq_1;have x22:=Bz km.eq_1;have x21:=Bz kr.eq_1;have x20:=Bz kt.eq_1;have x19:=Bz lj.eq_1;have x18:=Bz lv.eq_1;rcases Aq (vld z.origin) with h1|h1
 ·have n1:¬vld z.origin=false:=by simp [h1]
  rw [if_neg n1];rw [h1] at k1;by_cases h2:2048<z.recs.length
  ·rw [if_pos (.inl h2)];have h2':(2048:Int)<(z.recs.length:Int):=by omega
   simp (disch:=omega) only [xt,x28,x27,x26,k1,h2',EVC,xe,EVP,EV,simprocAttr]
  ·have h2':¬(2048:Int)<(z.recs.length:Int):=by omega
   rcases Aq (P4 z.recs) with h3|h3<;>rw [h3] at k2
   ·rw [if_pos (.inr h3)];simp (disch:=omega) only [xt,x28,x27,x26,k1,k2,h2',EVC,xe,EVP,EV,simprocAttr]
   ·have n2:¬(2048<z.recs.length∨P4 z.recs=true):=by simp only [h2,h3];simp
    rw [if_neg n2];rcases Aq (z.recs.all Iz) with h4|h4<;>rw [h4] at k3
    ·have n4:¬z.recs.all Iz=false:=by simp only [h4];simp
     rw [if_neg n4];by_cases h5:z.recs=sortR z.recs
     ·have n5:¬z.recs≠sortR z.recs:=by simpa using h5
      rw [if_neg n5];have e5:decide (z.recs=sortR z.recs)=true:=decide_eq_true h5;rw [e5] at k5;clear h5 e5;generalize sortR z.recs=sr at*;cases h6:Az2 z.origin (grp z.recs) [] [] false with
      |none=>
       rw [h6] at k7;simp only [Hp9] at k7;generalize grp z.recs=gs at*;rw [if_neg (by simp)];simp (disch:=omega) only [xt,x28,x27,x26,x25,x24,x23,x22,x21,x20,x19,x18,k1,k2,h2',k3,k4,k5,k6,k7,N0,EVC,xe,EVP,EV,simprocAttr]
      |some b=>
       rw [h6] at k7;simp only [Hp9] at k7;generalize grp z.recs=gs at*;cases b
       ·rw [if_neg (by simp)];simp (disch:=omega) only [xt,x28,x27,x26,x25,x24,x23,x22,x21,x20,x19,x18,k1,k2,h2',k3,k4,k5,k6,k7,N0,EVC,xe,EVP,EV,simprocAttr]
       ·rw [if_pos rfl];simp (disch:=omega) only [xt,x28,x27,x26,x25,x24,x23,x22,x21,x20,x19,x18,k1,k2,h2',k3,k4,k5,k6,k7,N0,EVC,xe,EVP,EV,simprocAttr]
     ·rw [if_pos h5];have e5:decide (z.recs=sortR z.recs)=false:=decide_eq_false h5;rw [e5] at k5;clear h5 e5;generalize sortR z.recs=sr at*;simp (disch:=omega) only [xt,x28,x27,x26,x25,x24,x23,x22,x21,k1,k2,h2',k3,k4,k5,EVC,xe,EVP,EV,simprocAttr]
    ·rw [if_pos h4];simp (disch:=omega) only [xt,x28,x27,x26,x25,x24,k1,k2,h2',k3,EVC,xe,EVP,EV,simprocAttr]
     try simp
 ·rw [if_pos h1];rw [h1] at k1;simp (disch:=omega) only [xt,x28,k1,EVC,xe,EVP,EV,simprocAttr]
theorem Nz (l:List Rec) (hw:∀r∈l,r.wf) (hl:l.length≤1000000):(sortR l).length≤l.length:=by obtain ⟨r,h1,h2,_⟩:=Kk Gv1 (by rw [Aw8];exact Gn3) l hw hl;rw [Aw8] at h1;have:=S5 eqF r;rw [Wb h1] at this;omega
end Go.X.G
/- Delegations and names of a zone, as the reference finds them; what exists. -/
namespace Go.X.G
open Go Go.X
def Bf9 (x:List UInt8):List (List UInt8)→List (List UInt8)
 |[]=>[x]
 |y::r=>if Jw y x<0 then y::Bf9 x r else if y=x then y::r else x::y::r
theorem insN_mem (x z:List UInt8):∀(l:List (List UInt8)),z∈Bf9 x l↔z=x∨z∈l
 |[]=>by simp [Bf9]
 |y::r=>by
  have ih:=insN_mem x z r;simp only [Bf9];split
  ·simp only [Am,ih];grind
  ·split
   ·rename_i h;subst h;simp only [Am];grind
   ·simp only [Am]
theorem Sg (x:List UInt8):∀(l:List (List UInt8)),l.Pairwise ltN→(Bf9 x l).Pairwise ltN
 |[],_=>by simp [Bf9]
 |y::r,h=>by
  obtain ⟨h1,h2⟩:=A3.1 h;have ih:=Sg x r h2;simp only [Bf9];by_cases c:Jw y x<0
  ·rw [if_pos c];refine A3.2 ⟨fun w hw=> ?_,ih⟩;rcases (insN_mem x w r).1 hw with rfl|hw
   ·exact (E4 _ _).1 c
   ·exact h1 w hw
  ·rw [if_neg c];by_cases e:y=x
   ·rw [if_pos e];exact h
   ·rw [if_neg e];have hxy:ltN x y:=by
     rcases to_N.tri x y with q|q|q
     ·exact q
     ·exact absurd q.symm e
     ·exact absurd ((E4 _ _).2 q) c
    refine A3.2 ⟨fun w hw=> ?_,h⟩;rcases Am.1 hw with rfl|hw
    ·exact hxy
    ·exact to_N.tr _ _ _ hxy (h1 w hw)
def Ez2 (l:List (List UInt8)):List (List UInt8):=l.foldl (fun a x=>Bf9 x a) []
theorem av (l:List (List UInt8)):Ez2 l=setN l:=by
 have:∀(l a:List (List UInt8)),a.Pairwise ltN→(l.foldl (fun a x=>Bf9 x a) a).Pairwise ltN∧∀z,z∈l.foldl (fun a x=>Bf9 x a) a↔z∈a∨z∈l:=by
  intro l
  induction l with
  |nil=>intro a h;exact ⟨h,fun z=>by simp⟩
  |cons x r ih=>
   intro a h;obtain ⟨h1,h2⟩:=ih (Bf9 x a) (Sg x a h);refine ⟨h1,fun z=> ?_⟩;rw [List.foldl_cons,h2,insN_mem,Am]
   grind
 obtain ⟨h1,h2⟩:=this l [] List.Pairwise.nil;exact Rn to_N _ _ h1 (Mn l) fun x=>by rw [J3];rw [Ez2,h2 x];simp
end Go.X.G
