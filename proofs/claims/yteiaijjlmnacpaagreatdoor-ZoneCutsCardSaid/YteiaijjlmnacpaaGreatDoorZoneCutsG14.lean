/- Zones in the program: proper. -/
import Derived.Test.YteiaijjlmnacpaaGreatDoorZoneCutsG13
import Derived.Test.YteiaijjlmnacpaaGreatDoorZoneCutsG9
open Bool renaming eq_false_or_eq_true→Ak,and_eq_true→Av,or_eq_true→An,not_eq_true'→A9,eq_iff_iff→Cn,not_eq_false→Jw,true_and→Jx2
open Classical renaming not_not→N5
open Int renaming toNat_natCast→Jv
open List renaming getElem?_eq_some_iff→Aq,getElem?_eq_getElem→Ax,length_append→Az,mem_cons→Ag,length_take→Al,mem_of_getElem?→Am,append_assoc→Ap,pairwise_cons→As,length_cons→A0,getElem?_append_right→A3,getElem?_drop→A6,length_pos_iff→Bv,all_eq_true→By,mem_append_right→Bg,take_append_drop→Bl,drop_eq_getElem_cons→Bp,mem_append→Br,length_drop→Bt,mem_filter→B0,cons_append→B3,take_add_one→B6,getElem?_cons_zero→B9,any_eq_true→Cj,nil_append→Cv,mem_append_left→Cl,take_of_length_le→Cr,take_length→C2,getElem?_of_mem→C7,getElem?_cons_succ→Dk,length_filter_le→Dv,drop_zero→Dy,length_map→Dt,append_nil→D2,mem_map→D4,filter_cons_of_pos→D9,filter_eq_nil_iff→Ec,filter_append→Ed,mem_of_mem_take→Fj,flatMap_cons→Fp,suffix_iff_eq_drop→Gc,mem_of_mem_drop→Gd,filter_cons→H3,drop_append_of_le_length→Ir,drop_of_length_le→Xf,drop_length→Fq0
open Nat renaming le_refl→Ac,zero_le→Cg,le_trans→Df,mul_le_mul→G2,min_eq_left→N1,mul_one→Bg7
set_option maxHeartbeats 1000000
set_option linter.unusedVariables false
set_option linter.unusedSimpArgs false
namespace Go.X.G
open Go Go.X
section
variable (o cut red:List UInt8) (g:List Rec) (x:Rec) (N:Nat)
def As5 (n:List UInt8):Bool:=decide (n[0]? =some 42)
theorem Lf5 (hx:g[0]? =some x) (hl:g.length≤1000000) (hn:x.name≠[]) (p4 p5 p6 p7 p8 p9 p10 p11 p12 p13:PV):
  Dn7.ev S N [.s o,Ad g,.s cut,.s red,p4,p5,p6,p7,p8,p9,p10,p11,p12,p13]=some (.ret [.b (!As5 x.name||(!F7 g 2 && !F7 g 39))]):=by
 have k2:=J6 g 2 hl
 have k39:=J6 g 39 hl
 obtain ⟨c,hc⟩:∃c,x.name[0]? =some c:=⟨_,Ax (Bv.2 hn)⟩
 unfold As5
 rw [hc]
 by_cases h1:c=42
 ·have h1':(c.toNat:Int)=42:=by rw [h1];rfl
  rcases Ak (F7 g 2) with h2|h2
  ·rw [h2] at k2
   simp (disch:=omega) only [Ix3,hx,hc,h1',k2,EVC,xe,EVP,↓reduceIte,EV,Nat.reduceAdd,Nat.reduceEqDiff,Int.reduceToNat,reduceCtorEq]
   simp [h1,h2]
  ·rw [h2] at k2
   simp (disch:=omega) only [Ix3,hx,hc,h1',k2,k39,EVC,xe,EVP,↓reduceIte,EV,Nat.reduceAdd,Nat.reduceEqDiff,Int.reduceToNat,reduceCtorEq]
   simp [h1,h2]
 ·have h1':¬(c.toNat:Int)=42:=fun q=>h1 (UInt8.toNat_inj.1 (show c.toNat=42 by omega))
  simp (disch:=omega) only [Ix3,hx,hc,h1',EVC,xe,EVP,↓reduceIte,EV,Nat.reduceAdd,Nat.reduceEqDiff,Int.reduceToNat,reduceCtorEq]
  simp [h1]
theorem Lf4 (hx:g[0]? =some x) (hl:g.length≤1000000) (hn:x.name≠[]) (p4 p5 p6 p7 p8 p9 p10:PV):
  Aq4.ev S N [.s o,Ad g,.s cut,.s red,p4,p5,p6,p7,p8,p9,p10]=some (.ret [.b ((if (!decide (x.name=o) && F7 g 2)=true then I9 g [2,43,47,46,1,28] else !F7 g 43) && (!As5 x.name||(!F7 g 2 && !F7 g 39)))]):=by
 have k2:=J6 g 2 hl
 have k43:=J6 g 43 hl
 have kd:S Vj 2 [Ad g,.l 1 [.i .i64 2,.i .i64 43,.i .i64 47,.i .i64 46,.i .i64 1,.i .i64 28]]=some [.b (I9 g [2,43,47,46,1,28])]:=Xl g [2,43,47,46,1,28] hl (by decide)
 have hlit:J1 1 [.i .i64 2,.i .i64 43,.i .i64 47,.i .i64 46,.i .i64 1,.i .i64 28]=some (.l 1 [.i .i64 2,.i .i64 43,.i .i64 47,.i .i64 46,.i .i64 1,.i .i64 28]):=rfl
 have t:=fun p11 p12 p13=>Lf5 o cut red g x N hx hl hn p4 p5 p6 p7 p8 p9 p10 p11 p12 p13
 have x7:=A4 Aq4.eq_1
 have x6:=A4 Dv3.eq_1
 have x5:=A4 Dx1.eq_1
 have x4:=A4 Db2.eq_1
 have x3:=A4 Dg3.eq_1
 by_cases h0:x.name=o
 ·rcases Ak (F7 g 43) with h1|h1<;>rw [h1] at k43<;>simp (disch:=omega) only [x7,x6,x5,x4,x3,t,hx,h0,k43,hlit,EVC,xe,EVP,↓reduceIte,EV,Nat.reduceAdd,Nat.reduceEqDiff,Int.reduceToNat,reduceCtorEq]<;>simp [h1]
 ·rcases Ak (F7 g 2) with h2|h2
  ·rw [h2] at k2
   rcases Ak (I9 g [2,43,47,46,1,28]) with h3|h3<;>rw [h3] at kd<;>simp (disch:=omega) only [x7,x6,x5,x4,x3,t,hx,h0,k2,kd,hlit,EVC,xe,EVP,↓reduceIte,EV,Nat.reduceAdd,Nat.reduceEqDiff,Int.reduceToNat,reduceCtorEq]<;>simp [h0,h2,h3]
  ·rw [h2] at k2
   rcases Ak (F7 g 43) with h1|h1<;>rw [h1] at k43<;>simp (disch:=omega) only [x7,x6,x5,x4,x3,t,hx,h0,k2,k43,hlit,EVC,xe,EVP,↓reduceIte,EV,Nat.reduceAdd,Nat.reduceEqDiff,Int.reduceToNat,reduceCtorEq]<;>simp [h0,h1,h2]
theorem Jt5 (hx:g[0]? =some x) (hl:g.length≤1000000) (hn:x.name≠[]) (p4 p5 p6 p7:PV):
  Z1.ev S N [.s o,Ad g,.s cut,.s red,p4,p5,p6,p7]=some (.ret [.b ((!F7 g 5||I9 g [5,46,47]) && decide (red=[]) && (decide (cut=[])||I9 g [1,28]) && ((if (!decide (x.name=o) && F7 g 2)=true then I9 g [2,43,47,46,1,28] else !F7 g 43) && (!As5 x.name||(!F7 g 2 && !F7 g 39))))]):=by
 have k5:=J6 g 5 hl
 have kc:S Vj 2 [Ad g,.l 1 [.i .i64 5,.i .i64 46,.i .i64 47]]=some [.b (I9 g [5,46,47])]:=Xl g [5,46,47] hl (by decide)
 have ka:S Vj 2 [Ad g,.l 1 [.i .i64 1,.i .i64 28]]=some [.b (I9 g [1,28])]:=Xl g [1,28] hl (by decide)
 have hlit1:J1 1 [.i .i64 5,.i .i64 46,.i .i64 47]=some (.l 1 [.i .i64 5,.i .i64 46,.i .i64 47]):=rfl
 have hlit2:J1 1 [.i .i64 1,.i .i64 28]=some (.l 1 [.i .i64 1,.i .i64 28]):=rfl
 have t:=fun p8 p9 p10=>Lf4 o cut red g x N hx hl hn p4 p5 p6 p7 p8 p9 p10
 generalize ((if (!decide (x.name=o) && F7 g 2)=true then I9 g [2,43,47,46,1,28] else !F7 g 43) && (!As5 x.name||(!F7 g 2 && !F7 g 39)))=B at*
 have x13:=A4 Z1.eq_1
 have x12:=A4 sj.eq_1
 have x11:=A4 sk.eq_1
 have x10:=A4 sq.eq_1
 have x9:=A4 Dj5.eq_1
 have x8:=A4 Dk4.eq_1
 rcases Ak (F7 g 5) with h1|h1<;>rw [h1] at k5
 ·rcases Ak (I9 g [5,46,47]) with h2|h2<;>rw [h2] at kc
  ·by_cases h3:red=[]
   ·replace h3:=eq_true h3
    by_cases h4:cut=[]
    ·replace h4:=eq_true h4
     simp (disch:=omega) only [x13,x12,x11,x10,x9,x8,t,k5,kc,h3,h4,hlit1,hlit2,EVC,xe,EVP,↓reduceIte,EV,Nat.reduceAdd,Nat.reduceEqDiff,Int.reduceToNat,reduceCtorEq]
     (clear x13 x12 x11 x10 x9 x8 t;simp [*])
    ·rcases Ak (I9 g [1,28]) with h5|h5<;>rw [h5] at ka<;>simp (disch:=omega) only [x13,x12,x11,x10,x9,x8,t,k5,kc,ka,h3,h4,hlit1,hlit2,EVC,xe,EVP,↓reduceIte,EV,Nat.reduceAdd,Nat.reduceEqDiff,Int.reduceToNat,reduceCtorEq]<;>(clear x13 x12 x11 x10 x9 x8 t;simp [*])
   ·simp (disch:=omega) only [x13,x12,x11,x10,x9,x8,t,k5,kc,h3,hlit1,hlit2,EVC,xe,EVP,↓reduceIte,EV,Nat.reduceAdd,Nat.reduceEqDiff,Int.reduceToNat,reduceCtorEq]
    (clear x13 x12 x11 x10 x9 x8 t;simp [*])
  ·simp (disch:=omega) only [x13,x12,x11,k5,kc,hlit1,hlit2,EVC,xe,EVP,↓reduceIte,EV,Nat.reduceAdd,Nat.reduceEqDiff,Int.reduceToNat,reduceCtorEq]
   (clear x13 x12 x11 x10 x9 x8 t;simp [*])
 ·by_cases h3:red=[]
  ·replace h3:=eq_true h3
   by_cases h4:cut=[]
   ·replace h4:=eq_true h4
    simp (disch:=omega) only [x13,x12,x11,x10,x9,x8,t,k5,h3,h4,hlit1,hlit2,EVC,xe,EVP,↓reduceIte,EV,Nat.reduceAdd,Nat.reduceEqDiff,Int.reduceToNat,reduceCtorEq]
    (clear x13 x12 x11 x10 x9 x8 t;simp [*])
   ·rcases Ak (I9 g [1,28]) with h5|h5<;>rw [h5] at ka<;>simp (disch:=omega) only [x13,x12,x11,x10,x9,x8,t,k5,ka,h3,h4,hlit1,hlit2,EVC,xe,EVP,↓reduceIte,EV,Nat.reduceAdd,Nat.reduceEqDiff,Int.reduceToNat,reduceCtorEq]<;>(clear x13 x12 x11 x10 x9 x8 t;simp [*])
  ·simp (disch:=omega) only [x13,x12,x11,x10,x9,x8,t,k5,h3,hlit1,hlit2,EVC,xe,EVP,↓reduceIte,EV,Nat.reduceAdd,Nat.reduceEqDiff,Int.reduceToNat,reduceCtorEq]
   (clear x13 x12 x11 x10 x9 x8 t;simp [*])
end
theorem Ar4 (o cut red:List UInt8) (g:List Rec) (hg:g≠[]) (hl:g.length≤1000000) (ho:o.length≤9223372036854775807) (hn:(nmG g).length≤9223372036854775807):
  S Cc2 4 [.s o,Ad g,.s cut,.s red]=some [.b (propG o g (decide (cut≠[])) (decide (red≠[])))]:=by
 obtain ⟨x,r,rfl⟩:∃x r,g=x::r:=by
  cases g with
  |nil=>exact absurd rfl hg
  |cons x r=>exact ⟨x,r,rfl⟩
 have hx:(x::r)[0]? =some x:=rfl
 have hnm:nmG (x::r)=x.name:=rfl
 rw [hnm] at hn
 unfold propG
 rw [hnm]
 generalize (x::r)=g at*
 obtain ⟨N,hN⟩:∃N,N=1:=⟨_,rfl⟩
 refine Lz9 (N:=N) rfl ?_
 have hu:=Hj x.name o hn ho
 have k6:=J6 g 6 hl
 have k2:=J6 g 2 hl
 have ku:=lg g hl
 have xt:=A4 Bn6.eq_1
 have x18:=A4 rc.eq_1
 have x17:=A4 rh.eq_1
 have x16:=A4 rl.eq_1
 have x15:=A4 rn.eq_1
 have x14:=A4 rp.eq_1
 have e1:decide (cut≠[])= !decide (cut=[]):=by simp
 have e2:decide (red≠[])= !decide (red=[]):=by simp
 rw [e1,e2,Bool.not_not,Bool.not_not]
 rcases Ak (under x.name o) with h0|h0<;>rw [h0] at hu
 ·have hne:x.name≠[]:=lf (B7.1 h0).1
  have t:=fun p4 p5 p6 p7=>Jt5 o cut red g x N hx hl hne p4 p5 p6 p7
  have eS:As5 x.name=decide (x.name[0]? =some 42):=rfl
  rw [eS] at t
  generalize hA:(!F7 g 5||I9 g [5,46,47])=A at*
  generalize hB:(if (!decide (x.name=o) && F7 g 2)=true then I9 g [2,43,47,46,1,28] else !F7 g 43)=B at*
  generalize hC:(!decide (x.name[0]? =some 42)||(!F7 g 2 && !F7 g 39))=C at*
  generalize decide (red=[])=D at*
  generalize (decide (cut=[])||I9 g [1,28])=E' at*
  clear hB hC hA
  rcases Ak (F7 g 6) with h6|h6<;>rw [h6] at k6
  ·by_cases hno:x.name=o
   ·replace hno:=eq_true hno
    rcases Ak (Fk2 g) with h1|h1<;>rw [h1] at ku
    ·rcases Ak (F7 g 2) with h2|h2<;>rw [h2] at k2
     ·simp (disch:=omega) only [xt,x18,x17,x16,x15,x14,t,hx,hu,k6,hno,ku,k2,EVC,xe,EVP,↓reduceIte,EV,Nat.reduceAdd,Nat.reduceEqDiff,Int.reduceToNat,reduceCtorEq]
      (clear xt x18 x17 x16 x15 x14 t;simp [*,Bool.and_assoc])
     ·simp (disch:=omega) only [xt,x18,x17,x16,x15,x14,t,hx,hu,k6,hno,ku,k2,EVC,xe,EVP,↓reduceIte,EV,Nat.reduceAdd,Nat.reduceEqDiff,Int.reduceToNat,reduceCtorEq]
      (clear xt x18 x17 x16 x15 x14 t;simp [*])
    ·simp (disch:=omega) only [xt,x18,x17,x16,x15,x14,t,hx,hu,k6,hno,ku,EVC,xe,EVP,↓reduceIte,EV,Nat.reduceAdd,Nat.reduceEqDiff,Int.reduceToNat,reduceCtorEq]
     (clear xt x18 x17 x16 x15 x14 t;simp [*])
   ·simp (disch:=omega) only [xt,x18,x17,x16,x15,x14,t,hx,hu,k6,hno,EVC,xe,EVP,↓reduceIte,EV,Nat.reduceAdd,Nat.reduceEqDiff,Int.reduceToNat,reduceCtorEq]
    (clear xt x18 x17 x16 x15 x14 t;simp [*])
  ·by_cases hno:x.name=o
   ·replace hno:=eq_true hno
    simp (disch:=omega) only [xt,x18,x17,x16,x15,x14,t,hx,hu,k6,hno,EVC,xe,EVP,↓reduceIte,EV,Nat.reduceAdd,Nat.reduceEqDiff,Int.reduceToNat,reduceCtorEq]
    (clear xt x18 x17 x16 x15 x14 t;simp [*])
   ·rcases Ak (Fk2 g) with h1|h1<;>rw [h1] at ku
    ·simp (disch:=omega) only [xt,x18,x17,x16,x15,x14,t,hx,hu,k6,hno,ku,EVC,xe,EVP,↓reduceIte,EV,Nat.reduceAdd,Nat.reduceEqDiff,Int.reduceToNat,reduceCtorEq]
     (clear xt x18 x17 x16 x15 x14 t;simp [*,Bool.and_assoc])
    ·simp (disch:=omega) only [xt,x18,x17,x16,x15,x14,t,hx,hu,k6,hno,ku,EVC,xe,EVP,↓reduceIte,EV,Nat.reduceAdd,Nat.reduceEqDiff,Int.reduceToNat,reduceCtorEq]
     (clear xt x18 x17 x16 x15 x14 t;simp [*])
 ·simp (disch:=omega) only [xt,x18,x17,x16,x15,x14,hx,hu,EVC,xe,EVP,↓reduceIte,EV,Nat.reduceAdd,Nat.reduceEqDiff,Int.reduceToNat,reduceCtorEq]
  (clear xt x18 x17 x16 x15 x14;simp [*])
end Go.X.G
/- Zones in the program: Check and New. -/
namespace Go.X.G
open Go Go.X
def Gw (gs:List (List Rec)):PV:= .l 1 (gs.map Ad)
theorem O0 (l:List (List Rec)):Gn (Gw l)=some (.i .i64 (l.length:Int)):=by simp [Gw,Gn]
theorem E3 (l:List (List Rec)) (k:IntKind) (z:Int) (h:0≤z):H6 1 (Gw l) (.i k z)=(l[z.toNat]?).map Ad:=by simp [Gw,ib _ _ _ _ h]
theorem Cg5 (x:List Rec):J1 1 [Ad x]=some (Gw [x]):=rfl
theorem j7 (l:List (List Rec)) (x:List Rec) (h:l.length+1≤1073741824):Ic 1 (Gw l) (Gw [x])=some (Gw (l++[x])):=by
 have:=Vg 1 (l.map Ad) [Ad x] (by simpa using h)
 simpa [Gw] using this
theorem Ib2 {α:Type} (l:List α) (s i:Nat) (c:α) (h:l[i]? =some c) (hs:s≤i):sl l s (i+1)=sl l s i++[c]:=by
 unfold sl
 have hi:=(Aq.1 h).1
 rw [B6,h,Ir (by rw [Al];omega)]
 rfl
theorem Cr3 (l:List Rec) (hl:l.length≤1000000):S Cc3 1 [Ad l]=some [Gw (grp l)]:=by
 obtain ⟨N,hN⟩:∃N,N=l.length+1:=⟨_,rfl⟩
 refine Lb0 (N:=N) rfl ?_
 have key:Gc2.ev S N [Ad l]=some (.yld 0 [Gw ([]++Vy (sl l 0 0) l)]):=by
  refine En l (fun i (g:List (List Rec)×Nat)=>[Gw g.1,.i .i64 (g.2:Int),.i .i64 (i:Int)]) (fun i g r=> .yld 0 [Gw (g.1++Vy (sl l g.2 i) r)]) (fun i g=>g.2≤i∧g.1.length≤i) ([],0) ?_ (by simp) (by omega) (fun i g c r hd hi hc hI=> ?_) (fun g hI=> ?_)
  ·rfl
  ·left
   obtain ⟨out,st⟩:=g
   obtain ⟨hI1,hI2⟩:=hI
   simp only at hI1 hI2 ⊢
   have hlt:(i:Int)<(l.length:Int):=by omega
   have e1:((i:Int)+1).toNat=i+1:=by omega
   have e2:(i:Int).toNat=i:=by omega
   have e3:(st:Int).toNat=st:=by omega
   have hsl:=Ib2 l st i c hc hI1
   have hsl2:List.drop st (List.take (i+1) l)=sl l st i++[c]:=hsl
   have hsl3:sl l st st=[]:=by unfold sl;rw [List.drop_eq_nil_iff,Al];omega
   have hsl4:sl l (i+1) (i+1)=[]:=by unfold sl;rw [List.drop_eq_nil_iff,Al];omega
   have hr:r=l.drop (i+1):=by
    have:=congrArg List.tail hd
    simpa using this.symm
   by_cases hc2:(match r with|[]=>true|y::_=> !decide (y.name=c.name))=true
   ·refine ⟨(out++[sl l st i++[c]],i+1),?_,⟨by simp,by simp;omega⟩,?_⟩
    ·cases r with
     |nil=>
      have hend:(i:Int)+1=(l.length:Int):=by
       have:=congrArg List.length hr
       simp at this;omega
      simp only
      simp (disch:=omega) only [Bl2,hlt,hend.symm,e1,e2,e3,hc,hsl2,Cg5,j7,EVC,xe,EVP,↓reduceIte,EV,Nat.reduceAdd,Nat.reduceEqDiff,Int.reduceToNat,reduceCtorEq]
      try (congr 3;omega)
     |cons y r'=>
      have hy:l[i+1]? =some y:=by
       have:=congrArg (fun q=>q[0]?) hr
       simpa [A6] using this.symm
      have hyl:=(Aq.1 hy).1
      have hend:¬(i:Int)+1=(l.length:Int):=by omega
      have hyc:¬y.name=c.name:=by simpa using hc2
      simp only
      simp (disch:=omega) only [Bl2,hlt,hend,e1,e2,e3,hc,hy,hyc,hsl2,Cg5,j7,EVC,xe,EVP,↓reduceIte,EV,Nat.reduceAdd,Nat.reduceEqDiff,Int.reduceToNat,reduceCtorEq]
      try congr 3
    ·have eg:Vy (sl l st i) (c::r)=(sl l st i++[c])::Vy [] r:=by
      cases r with
      |nil=>rfl
      |cons y r'=>rw [Vy,if_pos hc2]
     simp only [eg,hsl4]
     simp
   ·refine ⟨(out,st),?_,⟨by simp;omega,by simp;omega⟩,?_⟩
    ·cases r with
     |nil=>simp at hc2
     |cons y r'=>
      have hy:l[i+1]? =some y:=by
       have:=congrArg (fun q=>q[0]?) hr
       simpa [A6] using this.symm
      have hyl:=(Aq.1 hy).1
      have hend:¬(i:Int)+1=(l.length:Int):=by omega
      have hyc:y.name=c.name:=by simpa using hc2
      simp only
      simp (disch:=omega) only [Bl2,hlt,hend,e1,e2,e3,hc,hy,hyc,EVC,xe,EVP,↓reduceIte,EV,Nat.reduceAdd,Nat.reduceEqDiff,Int.reduceToNat,reduceCtorEq]
      try rfl
    ·have eg:Vy (sl l st i) (c::r)=Vy (sl l st i++[c]) r:=by
      cases r with
      |nil=>simp at hc2
      |cons y r'=>rw [Vy,if_neg hc2]
     simp only [eg,hsl]
  ·have hlt:¬(l.length:Int)<(l.length:Int):=by omega
   refine ⟨?_,rfl⟩
   simp (disch:=omega) only [Bl2,hlt,EVC,xe,EVP,↓reduceIte,EV,Nat.reduceAdd,Nat.reduceEqDiff,Int.reduceToNat,reduceCtorEq]
   simp [Vy]
 have e:[]++Vy (sl l 0 0) l=grp l:=by simp [sl,grp]
 rw [e] at key
 generalize grp l=gs at*
 simp (disch:=omega) only [Bl2,key,EVC,xe,EVP,↓reduceIte,EV,Nat.reduceAdd,Nat.reduceEqDiff,Int.reduceToNat,reduceCtorEq]
def Bd3 (o:List UInt8):List (List Rec)→List UInt8→List UInt8→Bool→Option Bool
 |[],_,_,soa=>some soa
 |g::gs,cut,red,soa=>
  if propG o g (decide (Ds (nmG g) cut≠[])) (decide (Ds (nmG g) red≠[]))=true then
   Bd3 o gs (if Ds (nmG g) cut=[]∧nmG g≠o∧F7 g 2=true then nmG g else Ds (nmG g) cut) (if F7 g 39=true then nmG g else Ds (nmG g) red) (soa||decide (nmG g=o))
  else none
theorem Dj4 (o:List UInt8):∀(gs:List (List Rec)) (cut red:List UInt8) (soa:Bool),ql o gs cut red soa=decide (Bd3 o gs cut red soa=some true)
 |[],_,_,soa=>by simp [ql,Bd3]
 |g::gs,cut,red,soa=>by
  simp only [ql,Bd3]
  split
  ·exact Dj4 o gs _ _ _
  ·simp
def Kp1:Option Bool→Out
 |some b=> .yld 0 [.b b]
 |none=> .ret [.i .i64 13]
section
variable (z:Zone) (g:List Rec) (gs:List (List Rec)) (x:Rec) (N:Nat) (i:Nat) (cut red:List UInt8) (soa:Bool)
theorem Mv7 (hi:gs[i]? =some g) (hx:g[0]? =some x) (hxl:x.name.length≤9223372036854775807) (hcl:cut.length≤9223372036854775807) (p1 p2 p3 p4 p5:PV):
  ∃p11,Ug.ev S N [z.pv,p1,p2,p3,p4,p5,Gw gs,.s cut,.s red,.b soa,.i .i64 (i:Int)]=Uh.ev S N [z.pv,p1,p2,p3,p4,p5,Gw gs,.s cut,.s red,.b soa,.i .i64 (i:Int),p11,.s (Ds x.name cut)]:=by
 have x17:=A4 Ug.eq_1
 have x16:=A4 rm.eq_1
 have x0:=A4 Eg9.eq_1
 have hu:=Hj x.name cut hxl hcl
 have ei:(i:Int).toNat=i:=by omega
 by_cases h1:cut=[]
 ·refine ⟨.u,?_⟩
  have e:Ds x.name cut=cut:=by unfold Ds;simp [h1]
  rw [e]
  replace h1:=eq_true h1
  simp (disch:=omega) only [x17,x16,x0,h1,hi,hx,ei,E3,EVC,xe,EVP,↓reduceIte,EV,Nat.reduceAdd,Nat.reduceEqDiff,Int.reduceToNat,reduceCtorEq]
 ·rcases Ak (under x.name cut) with h2|h2<;>rw [h2] at hu
  ·refine ⟨.b true,?_⟩
   have e:Ds x.name cut=cut:=by unfold Ds;simp [h2]
   rw [e]
   simp (disch:=omega) only [x17,x16,x0,h1,hu,hi,hx,ei,E3,EVC,xe,EVP,↓reduceIte,EV,Nat.reduceAdd,Nat.reduceEqDiff,Int.reduceToNat,reduceCtorEq]
  ·refine ⟨.b false,?_⟩
   have e:Ds x.name cut=[]:=by unfold Ds;simp [h1,h2]
   rw [e]
   simp (disch:=omega) only [x17,x16,x0,h1,hu,hi,hx,ei,E3,EVC,xe,EVP,↓reduceIte,EV,Nat.reduceAdd,Nat.reduceEqDiff,Int.reduceToNat,reduceCtorEq]
theorem Mv6 (hi:gs[i]? =some g) (hx:g[0]? =some x) (hxl:x.name.length≤9223372036854775807) (hrl:red.length≤9223372036854775807) (p1 p2 p3 p4 p5 p11 p12:PV):
  ∃p13,Uh.ev S N [z.pv,p1,p2,p3,p4,p5,Gw gs,.s cut,.s red,.b soa,.i .i64 (i:Int),p11,p12]=Z2.ev S N [z.pv,p1,p2,p3,p4,p5,Gw gs,.s cut,.s red,.b soa,.i .i64 (i:Int),p11,p12,p13,.s (Ds x.name red)]:=by
 have x15:=A4 Uh.eq_1
 have x14:=A4 rt.eq_1
 have x1:=A4 Eq7.eq_1
 have hu:=Hj x.name red hxl hrl
 have ei:(i:Int).toNat=i:=by omega
 by_cases h1:red=[]
 ·refine ⟨.u,?_⟩
  have e:Ds x.name red=red:=by unfold Ds;simp [h1]
  rw [e]
  replace h1:=eq_true h1
  simp (disch:=omega) only [x15,x14,x1,h1,hi,hx,ei,E3,EVC,xe,EVP,↓reduceIte,EV,Nat.reduceAdd,Nat.reduceEqDiff,Int.reduceToNat,reduceCtorEq]
 ·rcases Ak (under x.name red) with h2|h2<;>rw [h2] at hu
  ·refine ⟨.b true,?_⟩
   have e:Ds x.name red=red:=by unfold Ds;simp [h2]
   rw [e]
   simp (disch:=omega) only [x15,x14,x1,h1,hu,hi,hx,ei,E3,EVC,xe,EVP,↓reduceIte,EV,Nat.reduceAdd,Nat.reduceEqDiff,Int.reduceToNat,reduceCtorEq]
  ·refine ⟨.b false,?_⟩
   have e:Ds x.name red=[]:=by unfold Ds;simp [h1,h2]
   rw [e]
   simp (disch:=omega) only [x15,x14,x1,h1,hu,hi,hx,ei,E3,EVC,xe,EVP,↓reduceIte,EV,Nat.reduceAdd,Nat.reduceEqDiff,Int.reduceToNat,reduceCtorEq]
theorem Mv5 (hi:gs[i]? =some g) (hx:g[0]? =some x) (hnm:nmG g=x.name) (hg:g≠[]) (hl:g.length≤1000000) (hil:i≤1000000) (hxl:x.name.length≤9223372036854775807) (hzl:z.origin.length≤9223372036854775807) (cu re:List UInt8) (p1 p2 p3 p4 p5 p7 p8 p11 p13:PV):
  Z2.ev S N [z.pv,p1,p2,p3,p4,p5,Gw gs,p7,p8,.b soa,.i .i64 (i:Int),p11,.s cu,p13,.s re]=
   some (if propG z.origin g (decide (cu≠[])) (decide (re≠[]))=true then .yld 1 [.s (if cu=[]∧x.name≠z.origin∧F7 g 2=true then x.name else cu),.s (if F7 g 39=true then x.name else re),.b (soa||decide (x.name=z.origin)),.i .i64 ((i:Int)+1)] else .ret [.i .i64 13]):=by
 have hp:=Ar4 z.origin cu re g hg hl hzl (by rw [hnm];exact hxl)
 have k2:=J6 g 2 hl
 have k39:=J6 g 39 hl
 have ei:(i:Int).toNat=i:=by omega
 generalize propG z.origin g (decide (cu≠[])) (decide (re≠[]))=P at*
 cases P
 ·simp (disch:=omega) only [Sv,hp,hi,hx,ei,E3,EVC,xe,EVP,↓reduceIte,EV,Nat.reduceAdd,Nat.reduceEqDiff,Int.reduceToNat,reduceCtorEq]
  try simp
 ·by_cases h1:cu=[]
  ·by_cases h2:x.name=z.origin
   ·rcases Ak (F7 g 39) with h3|h3<;>rw [h3] at k39
    ·cases soa<;>(have h1':=eq_true h1;have h2':=eq_true h2;simp (disch:=omega) only [Sv,hp,hi,hx,ei,h1',h2',k39,E3,EVC,xe,EVP,↓reduceIte,EV,Nat.reduceAdd,Nat.reduceEqDiff,Int.reduceToNat,reduceCtorEq];simp [h2,h3])
    ·cases soa<;>(have h1':=eq_true h1;have h2':=eq_true h2;simp (disch:=omega) only [Sv,hp,hi,hx,ei,h1',h2',k39,E3,EVC,xe,EVP,↓reduceIte,EV,Nat.reduceAdd,Nat.reduceEqDiff,Int.reduceToNat,reduceCtorEq];simp [h2,h3])
   ·rcases Ak (F7 g 2) with h4|h4<;>rw [h4] at k2
    ·rcases Ak (F7 g 39) with h3|h3<;>rw [h3] at k39
     ·cases soa<;>(have h1':=eq_true h1;simp (disch:=omega) only [Sv,hp,hi,hx,ei,h1',h2,k2,k39,E3,EVC,xe,EVP,↓reduceIte,EV,Nat.reduceAdd,Nat.reduceEqDiff,Int.reduceToNat,reduceCtorEq];simp [h1,h2,h3,h4])
     ·cases soa<;>(have h1':=eq_true h1;simp (disch:=omega) only [Sv,hp,hi,hx,ei,h1',h2,k2,k39,E3,EVC,xe,EVP,↓reduceIte,EV,Nat.reduceAdd,Nat.reduceEqDiff,Int.reduceToNat,reduceCtorEq];simp [h1,h2,h3,h4])
    ·rcases Ak (F7 g 39) with h3|h3<;>rw [h3] at k39
     ·cases soa<;>(have h1':=eq_true h1;simp (disch:=omega) only [Sv,hp,hi,hx,ei,h1',h2,k2,k39,E3,EVC,xe,EVP,↓reduceIte,EV,Nat.reduceAdd,Nat.reduceEqDiff,Int.reduceToNat,reduceCtorEq];simp [h2,h3,h4])
     ·cases soa<;>(have h1':=eq_true h1;simp (disch:=omega) only [Sv,hp,hi,hx,ei,h1',h2,k2,k39,E3,EVC,xe,EVP,↓reduceIte,EV,Nat.reduceAdd,Nat.reduceEqDiff,Int.reduceToNat,reduceCtorEq];simp [h2,h3,h4])
  ·by_cases h2:x.name=z.origin
   ·rcases Ak (F7 g 39) with h3|h3<;>rw [h3] at k39
    ·cases soa<;>(have h2':=eq_true h2;simp (disch:=omega) only [Sv,hp,hi,hx,ei,h1,h2',k39,E3,EVC,xe,EVP,↓reduceIte,EV,Nat.reduceAdd,Nat.reduceEqDiff,Int.reduceToNat,reduceCtorEq];simp [h1,h2,h3])
    ·cases soa<;>(have h2':=eq_true h2;simp (disch:=omega) only [Sv,hp,hi,hx,ei,h1,h2',k39,E3,EVC,xe,EVP,↓reduceIte,EV,Nat.reduceAdd,Nat.reduceEqDiff,Int.reduceToNat,reduceCtorEq];simp [h1,h2,h3])
   ·rcases Ak (F7 g 39) with h3|h3<;>rw [h3] at k39
    ·cases soa<;>(simp (disch:=omega) only [Sv,hp,hi,hx,ei,h1,h2,k39,E3,EVC,xe,EVP,↓reduceIte,EV,Nat.reduceAdd,Nat.reduceEqDiff,Int.reduceToNat,reduceCtorEq];simp [h1,h2,h3])
    ·cases soa<;>(simp (disch:=omega) only [Sv,hp,hi,hx,ei,h1,h2,k39,E3,EVC,xe,EVP,↓reduceIte,EV,Nat.reduceAdd,Nat.reduceEqDiff,Int.reduceToNat,reduceCtorEq];simp [h1,h2,h3])
end
theorem Aj9:∀(n:Nat) (l:List Rec),l.length≤n→(∀g∈grp l,g≠[]∧∀x∈g,x∈l)∧(grp l).length≤l.length
 |_,[],_=>by simp [grp,Vy]
 |0,x::r,hn=>by simp at hn
 |n+1,x::r,hn=>by
  obtain ⟨g,l',h1,h2,h3,h4,h5⟩:=Rs x r
  have hlen:=congrArg List.length h1
  have hg0:0<g.length:=Bv.2 h2
  simp only [Az,A0] at hlen hn
  obtain ⟨i1,i2⟩:=Aj9 n l' (by omega)
  rw [h5]
  refine ⟨fun g' hg'=> ?_,by simp;omega⟩
  rcases Ag.1 hg' with rfl|hg'
  ·exact ⟨h2,fun w hw=>by rw [h1];exact Cl _ hw⟩
  ·obtain ⟨j1,j2⟩:=i1 g' hg'
   exact ⟨j1,fun w hw=>by rw [h1];exact Bg _ (j2 w hw)⟩
theorem Cp1 (p:Prop) [Decidable p] (a b:List UInt8) (ha:a.length≤9223372036854775807) (hb:b.length≤9223372036854775807):(if p then a else b).length≤9223372036854775807:=by split<;>assumption
theorem Mq1 (z:Zone) (hz:z.wf) (hl:z.recs.length≤1000000) (N:Nat) (hN:z.recs.length+1<N) (p1 p2 p3 p4 p5:PV):
  Gf0.ev S N [z.pv,p1,p2,p3,p4,p5,Gw (grp z.recs)]=some (Kp1 (Bd3 z.origin (grp z.recs) [] [] false)):=by
 obtain ⟨gf1,gf2⟩:=Aj9 z.recs.length z.recs (Ac _)
 have hgl:∀g∈grp z.recs,g.length≤1000000:=fun g hg=>by
  have:∀(n:Nat) (l:List Rec),l.length≤n→∀g∈grp l,g.length≤l.length:=by
   intro n
   induction n with
   |zero=>intro l hl g hg;cases l with
    |nil=>simp [grp,Vy] at hg
    |cons x r=>simp at hl
   |succ n ih=>
    intro l hl g hg
    cases l with
    |nil=>simp [grp,Vy] at hg
    |cons x r=>
     obtain ⟨g0,l',h1,h2,h3,h4,h5⟩:=Rs x r
     have hlen:=congrArg List.length h1
     have hg0:0<g0.length:=Bv.2 h2
     simp only [Az,A0] at hlen hl
     rw [h5] at hg
     rcases Ag.1 hg with rfl|hg
     ·simp only [A0];omega
     ·have:=ih l' (by omega) g hg
      simp only [A0];omega
  exact Df (this _ _ (Ac _) g hg) hl
 generalize grp z.recs=gs at*
 have:=En (fn:=S) (N:=N) (η:=[z.pv,p1,p2,p3,p4,p5,Gw gs]) (id:=1) (init:=[.c (.s []),.c (.s []),.c (.b false),.c (.i .i64 0)]) (body:=Xx) gs (fun i (a:List UInt8×List UInt8×Bool)=>[.s a.1,.s a.2.1,.b a.2.2,.i .i64 (i:Int)]) (fun i a r=>Kp1 (Bd3 z.origin r a.1 a.2.1 a.2.2)) (fun i a=>a.1.length≤9223372036854775807∧a.2.1.length≤9223372036854775807) ([],[],false) ?_ (by simp) (by omega) (fun i a g r hd hi hc hI=> ?_) (fun a hI=> ?_)
 ·exact this
 ·simp (disch:=omega) only [EVC,xe,EVP,↓reduceIte,EV,Nat.reduceAdd,Nat.reduceEqDiff,Int.reduceToNat,reduceCtorEq]
  try rfl
 ·obtain ⟨cut,red,soa⟩:=a
  obtain ⟨hI1,hI2⟩:=hI
  simp only at hI1 hI2 ⊢
  have hgm:=Am hc
  obtain ⟨hg,hgz⟩:=gf1 g hgm
  obtain ⟨x,hx,hxm⟩:∃x,g[0]? =some x∧x∈g:=by
   cases g with
   |nil=>exact absurd rfl hg
   |cons x r=>exact ⟨x,rfl,.head _⟩
  have hnm:nmG g=x.name:=by
   cases g with
   |nil=>exact absurd rfl hg
   |cons y r=>simp at hx;rw [←hx];rfl
  have hxl:x.name.length≤9223372036854775807:=(hz.recs.2 x (hgz x hxm)).name
  have hzl:z.origin.length≤9223372036854775807:=hz.origin
  obtain ⟨p11,kA⟩:=Mv7 z g gs x N i cut red soa hc hx hxl hI1 p1 p2 p3 p4 p5
  have hku:(Ds x.name cut).length≤9223372036854775807:=by unfold Ds;split<;>simp [hI1]
  have hkr:(Ds x.name red).length≤9223372036854775807:=by unfold Ds;split<;>simp [hI2]
  obtain ⟨p13,kB⟩:=Mv6 z g gs x N i cut red soa hc hx hxl hI2 p1 p2 p3 p4 p5 p11 (.s (Ds x.name cut))
  have kC:=Mv5 z g gs x N i soa hc hx hnm hg (hgl g hgm) (by omega) hxl hzl (Ds x.name cut) (Ds x.name red) p1 p2 p3 p4 p5 (.s cut) (.s red) p11 p13
  have kall:=kA.trans (kB.trans kC)
  have hlt:(i:Int)<(gs.length:Int):=by omega
  have hb:Xx.ev S N [z.pv,p1,p2,p3,p4,p5,Gw gs,.s cut,.s red,.b soa,.i .i64 (i:Int)]=Ug.ev S N [z.pv,p1,p2,p3,p4,p5,Gw gs,.s cut,.s red,.b soa,.i .i64 (i:Int)]:=by
   have xb:=A4 Xx.eq_1
   simp (disch:=omega) only [xb,hlt,O0,EVC,xe,EVP,↓reduceIte,EV,Nat.reduceAdd,Nat.reduceEqDiff,Int.reduceToNat,reduceCtorEq]
  have hb2:=hb.trans kall
  have estep:Bd3 z.origin (g::r) cut red soa=if propG z.origin g (decide (Ds x.name cut≠[])) (decide (Ds x.name red≠[]))=true then Bd3 z.origin r (if Ds x.name cut=[]∧x.name≠z.origin∧F7 g 2=true then x.name else Ds x.name cut) (if F7 g 39=true then x.name else Ds x.name red) (soa||decide (x.name=z.origin)) else none:=by
   simp only [Bd3,hnm]
  by_cases hP:propG z.origin g (decide (Ds x.name cut≠[])) (decide (Ds x.name red≠[]))=true
  ·left
   rw [if_pos hP] at hb2 estep
   refine ⟨(if Ds x.name cut=[]∧x.name≠z.origin∧F7 g 2=true then x.name else Ds x.name cut,if F7 g 39=true then x.name else Ds x.name red,soa||decide (x.name=z.origin)),hb2,⟨?_,?_⟩,?_⟩
   ·exact Cp1 _ _ _ hxl hku
   ·exact Cp1 _ _ _ hxl hkr
   ·rw [estep]
  ·right
   rw [if_neg hP] at hb2 estep
   rw [estep]
   exact ⟨hb2,rfl⟩
 ·have hlt:¬(gs.length:Int)<(gs.length:Int):=by omega
  have xb:=A4 Xx.eq_1
  refine ⟨?_,rfl⟩
  simp (disch:=omega) only [xb,hlt,O0,EVC,xe,EVP,↓reduceIte,EV,Nat.reduceAdd,Nat.reduceEqDiff,Int.reduceToNat,reduceCtorEq]
  rfl
theorem uv (z:Zone) (hz:z.wf):K0 z=if vld z.origin=false then 2 else if 2048<z.recs.length∨Q5 z.recs=true then 9 else if z.recs.all M1=false then 5 else if z.recs≠sortR z.recs then 7 else if Bd3 z.origin (grp z.recs) [] [] false=some true then 0 else 13:=by
 unfold K0
 rcases Ak (vld z.origin) with h1|h1
 ·have n1:¬vld z.origin=false:=by simp [h1]
  rw [if_neg n1,if_neg n1]
  by_cases h2:2048<z.recs.length
  ·rw [if_pos h2,if_pos (.inl h2)]
  ·rw [if_neg h2]
   have hcr:=Bc8 z.recs
   rcases Ak (z.recs.all fun r=>decide ((findR z.recs r.name r.typ).length≤64)) with h3|h3
   ·rw [h3] at hcr
    have hn2:¬(2048<z.recs.length∨Q5 z.recs=true):=by
     rintro (q|q)
     ·exact h2 q
     ·rw [hcr] at q;cases q
    have n3:¬(z.recs.all fun r=>decide ((findR z.recs r.name r.typ).length≤64))=false:=by simp only [h3];simp
    rw [if_neg n3,if_neg hn2]
    rcases Ak (z.recs.all M1) with h4|h4
    ·have n4:¬z.recs.all M1=false:=by simp only [h4];simp
     rw [if_neg n4,if_neg n4]
     by_cases h5:z.recs=sortR z.recs
     ·have n5:¬z.recs≠sortR z.recs:=by simpa using h5
      rw [if_neg n5,if_neg n5]
      have hv:∀r∈z.recs,M1 r=true:=By.1 h4
      have hr:z.recs.Pairwise ltR:=by rw [h5];exact (dq z.recs hv).1
      have hk:=Aq3 z (fun r h=>b8 (hv r h)) (Bs1 hr) z.recs.length [] z.recs [] [] false (Ac _) rfl (by simp) ⟨by simp,by simp,by simp,by simp⟩
      rw [Dj4,decide_eq_true_eq] at hk
      have hk2:=Bt6 z hv hr
      have hk3:Bd3 z.origin (grp z.recs) [] [] false=some true↔(findR z.recs z.origin 6).length=1∧U3 z.recs z.origin 2=true∧∀r∈z.recs,K4 z r=true:=by
       rw [hk,←hk2];simp
      by_cases h6:Bd3 z.origin (grp z.recs) [] [] false=some true
      ·obtain ⟨a,b,c⟩:=hk3.1 h6
       have c':z.recs.all (K4 z)=true:=By.2 c
       have n7:¬((findR z.recs z.origin 6).length≠1∨U3 z.recs z.origin 2=false):=by simp [a,b]
       have n8:¬z.recs.all (K4 z)=false:=by simp only [c'];simp
       rw [if_pos h6,if_neg n7,if_neg n8]
      ·rw [if_neg h6]
       by_cases h7:(findR z.recs z.origin 6).length≠1∨U3 z.recs z.origin 2=false
       ·rw [if_pos h7]
       ·rw [if_neg h7]
        by_cases h8:z.recs.all (K4 z)=false
        ·rw [if_pos h8]
        ·exfalso
         simp only [not_or,ne_eq,N5,Jw] at h7 h8
         exact h6 (hk3.2 ⟨h7.1,h7.2,By.1 h8⟩)
     ·rw [if_pos h5,if_pos h5]
    ·rw [if_pos h4,if_pos h4]
   ·rw [h3] at hcr
    rw [if_pos h3,if_pos (.inr hcr)]
 ·rw [if_pos h1,if_pos h1]
theorem U2 (z:Zone) (hz:z.wf) (hl:z.recs.length≤1000000):S nn 1 [z.pv]=some [.i .i64 (K0 z)]:=by
 obtain ⟨N,hN⟩:∃N,N=z.recs.length+2:=⟨_,rfl⟩
 refine Lf0 (N:=N) rfl ?_
 rw [uv z hz]
 have hzl:z.origin.length≤9223372036854775807:=hz.origin
 have k1:=B4 z.origin hzl
 have k2:=Bc7 z.recs hl
 have k3:=Ij z.recs Cc6 [] (fun r=> !M1 r) hl (fun r hr=>by
  refine Lb3 (N:=1) rfl ?_
  have:=Et4 r (hz.recs.2 r hr)
  simp (disch:=omega) only [Kt9,this,EVC,xe,EVP,↓reduceIte,EV,Nat.reduceAdd,Nat.reduceEqDiff,Int.reduceToNat,reduceCtorEq])
 have e3:(z.recs.any fun r=> !M1 r)= !z.recs.all M1:=by rw [List.not_all_eq_any_not]
 rw [e3] at k3
 have k4:=Ar3 z.recs hz.recs.2 hl
 have hsl:(sortR z.recs).length≤1000000:=by
  obtain ⟨r,h1,h2,_⟩:=Kh Ip5 (by rw [By1];exact Jd1) z.recs hz.recs.2 hl
  rw [By1] at h1
  have:=Uc eqF r
  rw [Yq h1] at this
  omega
 have k5:=Fj6 z.recs (sortR z.recs) hl hsl
 have k6:=Cr3 z.recs hl
 have k7:=fun p1 p2 p3 p4 p5=>Mq1 z hz hl N (by omega) p1 p2 p3 p4 p5
 have xt:=A4 Bn9.eq_1
 have x28:=A4 qt.eq_1
 have x27:=A4 q7.eq_1
 have x26:=A4 q8.eq_1
 have x25:=A4 q9.eq_1
 have x24:=A4 rj.eq_1
 have x23:=A4 rk.eq_1
 have x22:=A4 rq.eq_1
 have x21:=A4 rx.eq_1
 have x20:=A4 ry.eq_1
 have x19:=A4 rz.eq_1
 have x18:=A4 rf.eq_1
 rcases Ak (vld z.origin) with h1|h1
 ·have n1:¬vld z.origin=false:=by simp [h1]
  rw [if_neg n1]
  rw [h1] at k1
  by_cases h2:2048<z.recs.length
  ·rw [if_pos (.inl h2)]
   have h2':(2048:Int)<(z.recs.length:Int):=by omega
   simp (disch:=omega) only [xt,x28,x27,x26,k1,h2',EVC,xe,EVP,↓reduceIte,EV,Nat.reduceAdd,Nat.reduceEqDiff,Int.reduceToNat,reduceCtorEq]
  ·have h2':¬(2048:Int)<(z.recs.length:Int):=by omega
   rcases Ak (Q5 z.recs) with h3|h3<;>rw [h3] at k2
   ·rw [if_pos (.inr h3)]
    simp (disch:=omega) only [xt,x28,x27,x26,k1,k2,h2',EVC,xe,EVP,↓reduceIte,EV,Nat.reduceAdd,Nat.reduceEqDiff,Int.reduceToNat,reduceCtorEq]
   ·have n2:¬(2048<z.recs.length∨Q5 z.recs=true):=by simp only [h2,h3];simp
    rw [if_neg n2]
    rcases Ak (z.recs.all M1) with h4|h4<;>rw [h4] at k3
    ·have n4:¬z.recs.all M1=false:=by simp only [h4];simp
     rw [if_neg n4]
     by_cases h5:z.recs=sortR z.recs
     ·have n5:¬z.recs≠sortR z.recs:=by simpa using h5
      rw [if_neg n5]
      have e5:decide (z.recs=sortR z.recs)=true:=decide_eq_true h5
      rw [e5] at k5
      clear h5 e5
      generalize sortR z.recs=sr at*
      cases h6:Bd3 z.origin (grp z.recs) [] [] false with
      |none=>
       rw [h6] at k7
       simp only [Kp1] at k7
       generalize grp z.recs=gs at*
       rw [if_neg (by simp)]
       simp (disch:=omega) only [xt,x28,x27,x26,x25,x24,x23,x22,x21,x20,x19,x18,k1,k2,h2',k3,k4,k5,k6,k7,O0,EVC,xe,EVP,↓reduceIte,EV,Nat.reduceAdd,Nat.reduceEqDiff,Int.reduceToNat,reduceCtorEq]
      |some b=>
       rw [h6] at k7
       simp only [Kp1] at k7
       generalize grp z.recs=gs at*
       cases b
       ·rw [if_neg (by simp)]
        simp (disch:=omega) only [xt,x28,x27,x26,x25,x24,x23,x22,x21,x20,x19,x18,k1,k2,h2',k3,k4,k5,k6,k7,O0,EVC,xe,EVP,↓reduceIte,EV,Nat.reduceAdd,Nat.reduceEqDiff,Int.reduceToNat,reduceCtorEq]
       ·rw [if_pos rfl]
        simp (disch:=omega) only [xt,x28,x27,x26,x25,x24,x23,x22,x21,x20,x19,x18,k1,k2,h2',k3,k4,k5,k6,k7,O0,EVC,xe,EVP,↓reduceIte,EV,Nat.reduceAdd,Nat.reduceEqDiff,Int.reduceToNat,reduceCtorEq]
     ·rw [if_pos h5]
      have e5:decide (z.recs=sortR z.recs)=false:=decide_eq_false h5
      rw [e5] at k5
      clear h5 e5
      generalize sortR z.recs=sr at*
      simp (disch:=omega) only [xt,x28,x27,x26,x25,x24,x23,x22,x21,k1,k2,h2',k3,k4,k5,EVC,xe,EVP,↓reduceIte,EV,Nat.reduceAdd,Nat.reduceEqDiff,Int.reduceToNat,reduceCtorEq]
    ·rw [if_pos h4]
     simp (disch:=omega) only [xt,x28,x27,x26,x25,x24,k1,k2,h2',k3,EVC,xe,EVP,↓reduceIte,EV,Nat.reduceAdd,Nat.reduceEqDiff,Int.reduceToNat,reduceCtorEq]
     try simp
 ·rw [if_pos h1]
  rw [h1] at k1
  simp (disch:=omega) only [xt,x28,k1,EVC,xe,EVP,↓reduceIte,EV,Nat.reduceAdd,Nat.reduceEqDiff,Int.reduceToNat,reduceCtorEq]
theorem dv (l:List Rec) (hw:∀r∈l,r.wf) (hl:l.length≤1000000):(sortR l).length≤l.length:=by
 obtain ⟨r,h1,h2,_⟩:=Kh Ip5 (by rw [By1];exact Jd1) l hw hl
 rw [By1] at h1
 have:=Uc eqF r
 rw [Yq h1] at this
 omega
end Go.X.G
/- Delegations and names of a zone, as the reference finds them; what exists. -/
namespace Go.X.G
open Go Go.X
theorem Bf6 (n:List UInt8) (hn:n.length≤9223372036854775807):S Cb3 1 [.s n]=some [.s (parentN n),.b (T4 n)]:=by
 refine Lx6 (N:=1) rfl ?_
 have k1:=split_ok n hn
 have hl:=Gz n
 unfold parentN T4
 by_cases h:lbl n=[]
 ·have e:¬(vld n=true∧n≠[46]):=fun ⟨h1,h2⟩=>h2 ((Tm h1).1 h)
  have e2:(vld n && !decide (n=[46]))=false:=by
   rcases Ak (vld n) with h1|h1
   ·have:=(Tm h1).1 h
    simp [this]
   ·simp [h1]
  rw [if_neg e,e2]
  rw [h] at k1
  simp (disch:=omega) only [Jx6,k1,EVM,EVC,xe,EVP,↓reduceIte,EV,Nat.reduceAdd,Nat.reduceEqDiff,Int.reduceToNat,reduceCtorEq]
  try simp
 ·have h1:vld n=true:=by
   rcases Ak (vld n) with h1|h1
   ·exact h1
   ·exact absurd (z8 h1) h
  have h2:n≠[46]:=fun e=>h ((Tm h1).2 e)
  have e2:(vld n && !decide (n=[46]))=true:=by simp [h1,h2]
  rw [if_pos ⟨h1,h2⟩,e2]
  have hp:=Bv.2 h
  have ls:H5 1 (Bq (lbl n)) (.i .i64 1) (.i .i64 ((lbl n).length:Int))=some (Bq ((lbl n).drop 1)):=by
   rw [Ky _ _ _ _ _ (by omega) (by omega) (by omega)]
   simp
  have k2:=Id8 ((lbl n).drop 1) (by simp;omega) (fun x hx=>Cg9 n x (Gd hx))
  have h0:¬((lbl n).length:Int)=0:=by omega
  simp (disch:=omega) only [Jx6,k1,k2,ls,h0,EVM,EVC,xe,EVP,↓reduceIte,EV,Nat.reduceAdd,Nat.reduceEqDiff,Int.reduceToNat,reduceCtorEq]
theorem Bt2 (z:Zone) (n:List UInt8) (hz:z.wf) (hl:z.recs.length≤1000000) (hn:n.length≤9223372036854775807):S Bx7 2 [z.pv,.s n]=some [.s (cutN z n),.b (decide (cutN z n≠[]))]:=by
 refine Ld2 (N:=z.recs.length+1) rfl ?_
 have g1:=hz.origin
 unfold K3 at g1
 have key:Gd6.ev S (z.recs.length+1) [z.pv,.s n]=some (.yld 0 [.s (Xk z n [] z.recs)]):=by
  refine En z.recs (fun i (b:List UInt8)=>[.s b,.i .i64 (i:Int)]) (fun i b r=> .yld 0 [.s (Xk z n b r)]) (fun i b=>b=[]∨under n b=true) [] rfl (.inl rfl) (by omega) (fun i b c r hd hi hc hI=> ?_) (fun b hI=> ?_)
  ·left
   have g2:=(hz.recs.2 c (Am hc)).name
   unfold K3 at g2
   refine ⟨if Ch z c && under n c.name && (decide (b=[])||decide ((lbl c.name).length<(lbl b).length)) then c.name else b,?_,Ct5 hI,rfl⟩
   by_cases h1:c.typ=2
   ·have k1:=Im c.name z.origin g2 g1
    have k2:=Hk n c.name hn g2
    rcases Ak (Dn c.name z.origin) with h3|h3
    ·rcases Ak (under n c.name) with h4|h4
     ·rw [h3] at k1
      rw [h4] at k2
      by_cases h5:b=[]
      ·simp (disch:=omega) only [bz,hc,h1,h3,h4,h5,k1,k2,EVM,EVC,xe,EVP,↓reduceIte,EV,Nat.reduceAdd,Nat.reduceEqDiff,Int.reduceToNat,reduceCtorEq]
       simp [Ch,h1,h3,h4,h5]
      ·have hb:=hI.resolve_left h5
       have k3:=Hc c.name g2
       have k4:=Hc b (by have:=Lq (B7.1 hb).2.1;omega)
       by_cases h6:(lbl c.name).length<(lbl b).length
       ·have h8:((lbl c.name).length:Int)<((lbl b).length:Int):=by omega
        simp (disch:=omega) only [bz,hc,h1,h3,h4,h5,h8,k1,k2,k3,k4,EVM,EVC,xe,EVP,↓reduceIte,EV,Nat.reduceAdd,Nat.reduceEqDiff,Int.reduceToNat,reduceCtorEq]
        simp [Ch,h1,h3,h4,h5,h6]
       ·have h8:¬((lbl c.name).length:Int)<((lbl b).length:Int):=by omega
        simp (disch:=omega) only [bz,hc,h1,h3,h4,h5,h8,k1,k2,k3,k4,EVM,EVC,xe,EVP,↓reduceIte,EV,Nat.reduceAdd,Nat.reduceEqDiff,Int.reduceToNat,reduceCtorEq]
        simp [Ch,h1,h3,h4,h5,h6]
     ·rw [h3] at k1
      rw [h4] at k2
      simp (disch:=omega) only [bz,hc,h1,h3,h4,k1,k2,EVM,EVC,xe,EVP,↓reduceIte,EV,Nat.reduceAdd,Nat.reduceEqDiff,Int.reduceToNat,reduceCtorEq]
      simp [Ch,h1,h3,h4]
    ·rw [h3] at k1
     simp (disch:=omega) only [bz,hc,h1,h3,k1,EVM,EVC,xe,EVP,↓reduceIte,EV,Nat.reduceAdd,Nat.reduceEqDiff,Int.reduceToNat,reduceCtorEq]
     simp [Ch,h1,h3]
   ·simp (disch:=omega) only [bz,hc,h1,EVM,EVC,xe,EVP,↓reduceIte,EV,Nat.reduceAdd,Nat.reduceEqDiff,Int.reduceToNat,reduceCtorEq]
    simp [Ch,h1]
  ·simp (disch:=omega) only [bz,EVM,EVC,xe,EVP,↓reduceIte,EV,Nat.reduceAdd,Nat.reduceEqDiff,Int.reduceToNat,reduceCtorEq]
   simp [Xk,Out.goes]
 rw [show Xk z n [] z.recs=cutN z n from rfl] at key
 simp (disch:=omega) only [bz,key,EVM,EVC,xe,EVP,↓reduceIte,EV,Nat.reduceAdd,Nat.reduceEqDiff,Int.reduceToNat,reduceCtorEq]
 try simp
def az (x:List UInt8):List (List UInt8)→List (List UInt8)
 |[]=>[x]
 |y::r=>if Iw y x<0 then y::az x r else if y=x then y::r else x::y::r
def K5 (x:List UInt8):List (List UInt8)→Nat
 |[]=>0
 |y::r=>if Iw y x<0 then K5 x r+1 else 0
theorem z7 (x:List UInt8):∀l,K5 x l≤l.length
 |[]=>Ac _
 |y::r=>by have:=z7 x r;simp only [K5];split<;>simp;omega
theorem Cp9 (x:List UInt8):∀(l:List (List UInt8)),az x l=match l[K5 x l]? with
  |some y=>if y=x then l else l.take (K5 x l)++[x]++l.drop (K5 x l)
  |none=>l.take (K5 x l)++[x]++l.drop (K5 x l)
 |[]=>rfl
 |y::r=>by
  simp only [az,K5]
  by_cases h:Iw y x<0
  ·simp only [if_pos h,Dk]
   rw [Cp9 x r]
   cases h2:r[K5 x r]? with
   |none=>simp
   |some z=>by_cases h3:z=x<;>simp [h3]
  ·simp only [if_neg h,B9]
   by_cases h3:y=x<;>simp [h3]
theorem Aj8 (x:List UInt8):∀l,(az x l).length≤l.length+1
 |[]=>by simp [az]
 |y::r=>by
  have:=Aj8 x r
  simp only [az]
  split
  ·simp;omega
  ·split<;>simp
theorem insN_mem (x z:List UInt8):∀(l:List (List UInt8)),z∈az x l↔z=x∨z∈l
 |[]=>by simp [az]
 |y::r=>by
  have ih:=insN_mem x z r
  simp only [az]
  split
  ·simp only [Ag,ih];grind
  ·split
   ·rename_i h;subst h;simp only [Ag];grind
   ·simp only [Ag]
theorem T1 (x:List UInt8):∀(l:List (List UInt8)),l.Pairwise ltN→(az x l).Pairwise ltN
 |[],_=>by simp [az]
 |y::r,h=>by
  obtain ⟨h1,h2⟩:=As.1 h
  have ih:=T1 x r h2
  simp only [az]
  by_cases c:Iw y x<0
  ·rw [if_pos c]
   refine As.2 ⟨fun w hw=> ?_,ih⟩
   rcases (insN_mem x w r).1 hw with rfl|hw
   ·exact (E4 _ _).1 c
   ·exact h1 w hw
  ·rw [if_neg c]
   by_cases e:y=x
   ·rw [if_pos e];exact h
   ·rw [if_neg e]
    have hxy:ltN x y:=by
     rcases to_N.tri x y with q|q|q
     ·exact q
     ·exact absurd q.symm e
     ·exact absurd ((E4 _ _).2 q) c
    refine As.2 ⟨fun w hw=> ?_,h⟩
    rcases Ag.1 hw with rfl|hw
    ·exact hxy
    ·exact to_N.tr _ _ _ hxy (h1 w hw)
def Cz6 (l:List (List UInt8)):List (List UInt8):=l.foldl (fun a x=>az x a) []
theorem Tj (l:List (List UInt8)):Cz6 l=setN l:=by
 have:∀(l a:List (List UInt8)),a.Pairwise ltN→(l.foldl (fun a x=>az x a) a).Pairwise ltN∧∀z,z∈l.foldl (fun a x=>az x a) a↔z∈a∨z∈l:=by
  intro l
  induction l with
  |nil=>intro a h;exact ⟨h,fun z=>by simp⟩
  |cons x r ih=>
   intro a h
   obtain ⟨h1,h2⟩:=ih (az x a) (T1 x a h)
   refine ⟨h1,fun z=> ?_⟩
   rw [List.foldl_cons,h2,insN_mem,Ag]
   grind
 obtain ⟨h1,h2⟩:=this l [] List.Pairwise.nil
 exact Ss to_N _ _ h1 (Ny l) fun x=>by
  rw [Kq]
  rw [Cz6,h2 x]
  simp
theorem Fj1 (l:List Rec) (g:List (List UInt8)) (i:Nat) (x:Rec) (hx:l[i]? =some x) (hw:x.name.length≤9223372036854775807) (hg:∀r∈g,r.length≤9223372036854775807) (N:Nat) (hN:g.length<N) (hl:g.length≤1000000):
  Ch7.ev S N [Ad l,Bq g,.i .i64 (i:Int)]=some (.yld 2 [.i .i64 (K5 x.name g:Int)]):=by
 have key:Ch7.ev S N [Ad l,Bq g,.i .i64 (i:Int)]=some (.yld 2 [.i .i64 ((0+K5 x.name g:Nat):Int)]):=by
  refine Dq g (fun k=>[.i .i64 (k:Int)]) (fun k r=> .yld 2 [.i .i64 ((k+K5 x.name r:Nat):Int)]) rfl hN (fun k c r hd hk hc=> ?_) ?_
  ·have h1:=U1 c x.name (hg c (Am hc)) hw
   by_cases h:Iw c x.name<0
   ·left
    simp (disch:=omega) only [bw,hc,hx,h1,h,EVM,EVC,xe,EVP,↓reduceIte,EV,Nat.reduceAdd,Nat.reduceEqDiff,Int.reduceToNat,reduceCtorEq]
    refine ⟨trivial,?_⟩
    simp only [K5,if_pos h]
    congr 3;push_cast;omega
   ·right
    simp (disch:=omega) only [bw,hc,hx,h1,EVM,EVC,xe,EVP,↓reduceIte,EV,Nat.reduceAdd,Nat.reduceEqDiff,Int.reduceToNat,reduceCtorEq]
    simp [K5,h,Out.goes]
  ·simp (disch:=omega) only [bw,EVM,EVC,xe,EVP,↓reduceIte,EV,Nat.reduceAdd,Nat.reduceEqDiff,Int.reduceToNat,reduceCtorEq]
   simp [K5,Out.goes]
 simpa using key
theorem kw (l:List Rec) (hl:l.length≤1000000) (hw:∀r∈l,r.name.length≤9223372036854775807):S Bw9 1 [Ad l]=some [Bq (setN (l.map Rec.name))]:=by
 refine Ly0 (N:=l.length+1) rfl ?_
 have key:Gb6.ev S (l.length+1) [Ad l]=some (.yld 0 [Bq (Cz6 (l.map Rec.name))]):=by
  refine En l (fun i (g:List (List UInt8))=>[Bq g,.i .i64 (i:Int)]) (fun i g r=> .yld 0 [Bq ((r.map Rec.name).foldl (fun acc x=>az x acc) g)]) (fun i g=>g.length≤i∧∀r∈g,r.length≤9223372036854775807) [] rfl ⟨Ac _,fun r h=>by cases h⟩ (by omega) (fun i g c r hd hi hc hI=> ?_) (fun g hI=> ?_)
  ·left
   obtain ⟨h1,h2⟩:=hI
   have hcw:=hw c (Am hc)
   have h3:=Fj1 l g i c hc hcw h2 (l.length+1) (by omega) (by omega)
   have h4:=z7 c.name g
   have h5:=Aj8 c.name g
   refine ⟨az c.name g,?_,⟨by omega,fun r hr=> ?_⟩,rfl⟩
   ·rw [Cp9]
    cases h6:g[K5 c.name g]? with
    |none=>
     have h7:=List.getElem?_eq_none_iff.1 h6
     have h8:K5 c.name g=g.length:=by omega
     simp (disch:=first|omega|(simp;omega)) only [bw,hc,h3,h8,EVM,EVC,xe,EVP,↓reduceIte,EV,Nat.reduceAdd,Nat.reduceEqDiff,Int.reduceToNat,reduceCtorEq]
     simp
    |some y=>
     have h7:=(Aq.1 h6).1
     by_cases h9:y=c.name
     ·simp (disch:=omega) only [bw,hc,h3,h6,h9,EVM,EVC,xe,EVP,↓reduceIte,EV,Nat.reduceAdd,Nat.reduceEqDiff,Int.reduceToNat,reduceCtorEq]
     ·simp (disch:=first|omega|(simp;omega)) only [bw,hc,h3,h6,h9,EVM,EVC,xe,EVP,↓reduceIte,EV,Nat.reduceAdd,Nat.reduceEqDiff,Int.reduceToNat,reduceCtorEq]
      simp
   ·rcases (insN_mem c.name r g).1 hr with h|h
    ·subst h;exact hcw
    ·exact h2 r h
  ·simp (disch:=omega) only [bw,EVM,EVC,xe,EVP,↓reduceIte,EV,Nat.reduceAdd,Nat.reduceEqDiff,Int.reduceToNat,reduceCtorEq]
   simp [Out.goes]
 rw [Tj] at key
 simp (disch:=omega) only [bw,key,EVM,EVC,xe,EVP,↓reduceIte,EV,Nat.reduceAdd,Nat.reduceEqDiff,Int.reduceToNat,reduceCtorEq]
def S9 (n:List UInt8):Rec:=⟨n,0,0,⟨false,0,0,[],[],[],0,0,0,0,0,0,0⟩⟩
def Bv2 (z:Zone) (n:List UInt8):List (List UInt8):=if T3 z n=true then [] else if under n z.origin=true then upN z.origin n else []
theorem m3 (n:List UInt8):(parentN n).length≤254:=by
 unfold parentN
 split
 ·rename_i h;exact Aj3 h.1 1
 ·simp
theorem Bt1 (z:Zone) (acc:List Rec) (n:List UInt8) (p1 p2 p3 p4:PV) (x:Rec) (i:Nat) (N:Nat) (hx:z.recs[i]? =some x) (hxn:x.name=n) (hn:n.length≤9223372036854775807) (ho:z.origin.length≤9223372036854775807) (ha:acc.length≤1000000) (hN:1000<N) (hp1:p1=Ad acc) (hp2:p2= .i .i64 (i:Int)):
  Ch9.ev S N [z.pv,p1,p2,p3,p4]=some (.yld 2 [Ad (acc++(if under n z.origin=true then upN z.origin n else []).map S9)]):=by
 subst hp1 hp2
 have init:E.evs [z.pv,Ad acc,.i .i64 (i:Int),p3,p4] [(.v 1),(.proj 0 (.idx 16 (.proj 1 (.v 0)) (.v 2))),(.c (.i .i64 (0)))]=some [Ad acc,.s n,.i .i64 0]:=by
  simp (disch:=omega) only [hx,hxn,EVM,EVC,xe,EVP,↓reduceIte,EV,Nat.reduceAdd,Nat.reduceEqDiff,Int.reduceToNat,reduceCtorEq]
 rcases Ak (under n z.origin) with hu|hu
 ·rw [if_pos hu]
  obtain ⟨v1,v2,_⟩:=B7.1 hu
  have hlb:=Gz n
  have h0:jn ((lbl n).drop 0)=n:=og v1
  generalize hm:(lbl n).length - (lbl z.origin).length=m at*
  have hup:∀k,k≤m→(upN z.origin n)[k]? =some (jn ((lbl n).drop k)):=fun k hk=>Pr (by omega)
  have hul:(upN z.origin n).length=m+1:=by simp [upN,hm]
  have e0:(upN z.origin n).take (m+1)=upN z.origin n:=Cr (by omega)
  have:=Ev (fn:=S) (N:=N) (η:=[z.pv,Ad acc,.i .i64 (i:Int),p3,p4]) (id:=3) (init:=[(.v 1),(.proj 0 (.idx 16 (.proj 1 (.v 0)) (.v 2))),(.c (.i .i64 (0)))]) (body:=Ap2) (m+1)
   (fun k=>[Ad (acc++((upN z.origin n).take k).map S9),.s (if k≤m then jn ((lbl n).drop k) else parentN z.origin),.i .i64 (k:Int)])
   (fun _=> .yld 2 [Ad (acc++(upN z.origin n).map S9)]) ?_ (by omega) (fun k hk=> ?_) ?_
  ·exact this
  ·rw [init,if_pos (Cg _),h0]
   simp
  ·have hk':k≤m:=by omega
   rw [if_pos hk']
   have q4:=Aj3 v1 k
   have hcu:under (jn ((lbl n).drop k)) z.origin=true:=((J8 hu).1 (Am (hup k hk'))).2
   have k2:=Hk (jn ((lbl n).drop k)) z.origin (by omega) ho
   have k1:=Bf6 (jn ((lbl n).drop k)) (by omega)
   rw [hcu] at k2
   have q5:((upN z.origin n).take (k+1)).map S9=((upN z.origin n).take k).map S9++[S9 (jn ((lbl n).drop k))]:=by rw [B6,hup k hk',List.map_append];rfl
   have q6:(acc++((upN z.origin n).take k).map S9).length≤1000300:=by rw [Az,Dt,Al];omega
   by_cases hlt:k<m
   ·left
    rw [if_pos (by omega)]
    obtain ⟨q1,q2⟩:=Bn1 hu (k:=k) (by omega)
    rw [q1,q2] at k1
    rw [q5,←Ap]
    generalize acc++((upN z.origin n).take k).map S9=a at*
    refine ⟨?_,rfl⟩
    generalize jn ((lbl n).drop (k+1))=nx at*
    generalize jn ((lbl n).drop k)=cu at*
    simp (disch:=omega) only [Sq,k1,k2,S9,EVM,EVC,xe,EVP,↓reduceIte,EV,Nat.reduceAdd,Nat.reduceEqDiff,Int.reduceToNat,reduceCtorEq]
   ·have ek:k=m:=by omega
    subst ek
    rw [if_neg (by omega)]
    have q3:jn ((lbl n).drop k)=z.origin:=(b9 hu (by omega)).2 (by omega)
    rw [q3] at k1 k2 q5 ⊢
    rcases Ak (T4 z.origin) with hp|hp
    ·left
     rw [hp] at k1
     rw [q5,←Ap]
     generalize acc++((upN z.origin n).take k).map S9=a at*
     refine ⟨?_,rfl⟩
     generalize parentN z.origin=nx at*
     simp (disch:=omega) only [Sq,k1,k2,S9,EVM,EVC,xe,EVP,↓reduceIte,EV,Nat.reduceAdd,Nat.reduceEqDiff,Int.reduceToNat,reduceCtorEq]
    ·right
     rw [hp] at k1
     rw [e0] at q5
     rw [q5,←Ap]
     generalize acc++((upN z.origin n).take k).map S9=a at*
     refine ⟨?_,rfl⟩
     generalize parentN z.origin=nx at*
     simp (disch:=omega) only [Sq,k1,k2,S9,EVM,EVC,xe,EVP,↓reduceIte,EV,Nat.reduceAdd,Nat.reduceEqDiff,Int.reduceToNat,reduceCtorEq]
  ·rw [e0,if_neg (by omega)]
   refine ⟨?_,rfl⟩
   have k2:=Hk (parentN z.origin) z.origin (by have:=m3 z.origin;omega) ho
   rw [Cy8 v2] at k2
   generalize acc++(upN z.origin n).map S9=a at*
   generalize parentN z.origin=nx at*
   simp (disch:=omega) only [Sq,k2,EVM,EVC,xe,EVP,↓reduceIte,EV,Nat.reduceAdd,Nat.reduceEqDiff,Int.reduceToNat,reduceCtorEq]
 ·rw [hu]
  have k2:=Hk n z.origin hn ho
  rw [hu] at k2
  have:=Ev (fn:=S) (N:=N) (η:=[z.pv,Ad acc,.i .i64 (i:Int),p3,p4]) (id:=3) (init:=[(.v 1),(.proj 0 (.idx 16 (.proj 1 (.v 0)) (.v 2))),(.c (.i .i64 (0)))]) (body:=Ap2) 0
   (fun k=>[Ad acc,.s n,.i .i64 0]) (fun _=> .yld 2 [Ad acc]) init (by omega) (fun k hk=>by omega) ?_
  ·rw [if_neg (by simp),List.map_nil,D2]
   exact this
  ·refine ⟨?_,rfl⟩
   simp (disch:=omega) only [Sq,k2,EVM,EVC,xe,EVP,↓reduceIte,EV,Nat.reduceAdd,Nat.reduceEqDiff,Int.reduceToNat,reduceCtorEq]
theorem y6 (z:Zone) (x:List UInt8):x∈z.recs.flatMap (fun r=>Bv2 z r.name)↔Fk5 z x:=by
 unfold Fk5 Bv2
 simp only [List.mem_flatMap]
 constructor
 ·rintro ⟨r,hr,h⟩
  rcases Ak (T3 z r.name) with h1|h1
  ·rw [if_pos h1] at h;cases h
  ·rcases Ak (under r.name z.origin) with h2|h2
   ·rw [if_neg (by simp [h1]),if_pos h2] at h
    obtain ⟨h4,h5⟩:=(J8 h2).1 h
    exact ⟨r,hr,h2,h1,h4,h5⟩
   ·rw [if_neg (by simp [h1]),if_neg (by simp [h2])] at h;cases h
 ·rintro ⟨r,hr,h1,h2,h4,h5⟩
  exact ⟨r,hr,by rw [if_neg (by simp [h2]),if_pos h1];exact (J8 h1).2 ⟨h4,h5⟩⟩
theorem y7 (z:Zone) (n:List UInt8):(Bv2 z n).length≤256:=by
 unfold Bv2
 split
 ·simp
 ·split
  ·exact X8 _ _
  ·simp
theorem Cz5 (l:List (List UInt8)):(l.map S9).map Rec.name=l:=by
 rw [List.map_map]
 exact (List.map_congr_left fun _ _=>rfl).trans (List.map_id l)
theorem Nc (z:Zone) (hz:z.wf) (hl:z.recs.length≤1000):S nb 1 [z.pv]=some [Bq (namesN z)]:=by
 refine Lc5 (N:=z.recs.length+1001) rfl ?_
 have g1:=hz.origin
 unfold K3 at g1
 have key:Gc9.ev S (z.recs.length+1001) [z.pv]=some (.yld 0 [Ad ([]++(z.recs.flatMap fun r=>Bv2 z r.name).map S9)]):=by
  refine En z.recs (fun i (b:List Rec)=>[Ad b,.i .i64 (i:Int)]) (fun i b r=> .yld 0 [Ad (b++(r.flatMap fun r=>Bv2 z r.name).map S9)]) (fun i b=>b.length≤256*i) [] rfl (Cg _) (by omega) (fun i b c r hd hi hc hI=> ?_) (fun b hI=> ?_)
  ·left
   have g2:=(hz.recs.2 c (Am hc)).name
   unfold K3 at g2
   have k1:=Bt2 z c.name hz (by omega) g2
   have hh:=Ih4 z c.name
   have hol:=y7 z c.name
   refine ⟨b++(Bv2 z c.name).map S9,?_,by rw [Az,Dt];omega,by simp⟩
   have k5:∀p3 p4,Ch9.ev S (z.recs.length+1001) [z.pv,Ad b,.i .i64 (i:Int),p3,p4]=some (.yld 2 [Ad (b++(if under c.name z.origin=true then upN z.origin c.name else []).map S9)]):=fun p3 p4=>Bt1 z b c.name _ _ p3 p4 c i _ hc rfl g2 g1 (by omega) (by omega) rfl rfl
   unfold Bv2
   by_cases h1:cutN z c.name=[]
   ·have h2:T3 z c.name=false:=by rw [hh];simp [h1]
    rw [if_neg (by simp [h2])]
    rw [h1] at k1
    generalize b++(if under c.name z.origin=true then upN z.origin c.name else []).map S9=b' at*
    simp (disch:=omega) only [Sq,hc,k1,k5,EVM,EVC,xe,EVP,↓reduceIte,EV,Nat.reduceAdd,Nat.reduceEqDiff,Int.reduceToNat,reduceCtorEq]
    try simp (disch:=omega) only [Sq,hc,k1,k5,ne_eq,not_true,decide_false,EVM,EVC,xe,EVP,↓reduceIte,EV,Nat.reduceAdd,Nat.reduceEqDiff,Int.reduceToNat,reduceCtorEq]
   ·by_cases h2:cutN z c.name=c.name
    ·have h3:T3 z c.name=false:=by rw [hh];simp [h2]
     rw [if_neg (by simp [h3])]
     rw [h2] at k1
     have h4:decide (c.name≠[])=true:=by rw [h2] at h1;simpa using h1
     rw [h4] at k1
     generalize b++(if under c.name z.origin=true then upN z.origin c.name else []).map S9=b' at*
     simp (disch:=omega) only [Sq,hc,k1,k5,EVM,EVC,xe,EVP,↓reduceIte,EV,Nat.reduceAdd,Nat.reduceEqDiff,Int.reduceToNat,reduceCtorEq]
    ·have h3:T3 z c.name=true:=by rw [hh];simp [h1,h2]
     rw [if_pos h3]
     have h4:decide (cutN z c.name≠[])=true:=by simpa using h1
     rw [h4] at k1
     simp (disch:=omega) only [Sq,hc,k1,h2,EVM,EVC,xe,EVP,↓reduceIte,EV,Nat.reduceAdd,Nat.reduceEqDiff,Int.reduceToNat,reduceCtorEq]
     try simp
  ·simp (disch:=omega) only [Sq,EVM,EVC,xe,EVP,↓reduceIte,EV,Nat.reduceAdd,Nat.reduceEqDiff,Int.reduceToNat,reduceCtorEq]
   simp [Out.goes]
 rw [Cv] at key
 have hxl:(z.recs.flatMap fun r=>Bv2 z r.name).length≤256*z.recs.length:=by
  have:∀l:List Rec,(l.flatMap fun r=>Bv2 z r.name).length≤256*l.length:=by
   intro l
   induction l with
   |nil=>simp
   |cons x r ih=>
    have:=y7 z x.name
    rw [Fp,Az,A0];omega
  exact this _
 have hxw:∀x∈z.recs.flatMap fun r=>Bv2 z r.name,x.length≤9223372036854775807:=fun x hx=>by
  obtain ⟨r,hr,_,_,h4,_⟩:=(y6 z x).1 hx
  have:=Lq (B7.1 h4).2.1
  omega
 have he:setN (z.recs.flatMap fun r=>Bv2 z r.name)=namesN z:=zw z _ (y6 z)
 generalize (z.recs.flatMap fun r=>Bv2 z r.name)=un at*
 have k6:=kw (un.map S9) (by rw [Dt];omega) (fun r hr=>by
  obtain ⟨x,hx,rfl⟩:=D4.1 hr
  exact hxw x hx)
 rw [Cz5,he] at k6
 generalize un.map S9=ur at*
 generalize namesN z=nz at*
 simp (disch:=omega) only [Sq,key,k6,EVM,EVC,xe,EVP,↓reduceIte,EV,Nat.reduceAdd,Nat.reduceEqDiff,Int.reduceToNat,reduceCtorEq]
end Go.X.G
/- What exists in a zone, and what encloses a name; names with another end. -/
namespace Go.X.G
open Go Go.X
def exB (z:Zone) (x:List UInt8):Bool:=z.recs.any fun r=>under r.name z.origin && !T3 z r.name && under r.name x && under x z.origin
theorem Gf4 (z:Zone) (x:List UInt8):exB z x=true↔Fk5 z x:=by
 unfold exB Fk5
 simp only [Cj,Av,A9,and_assoc]
theorem Zw (z:Zone) (x:List UInt8):decide (x∈namesN z)=exB z x:=by
 rw [Cn,Gf4,←Wq]
 simp
theorem Jt (z:Zone) (hl:z.recs.length≤1000):(namesN z).length≤1000000:=by
 have h1:=Rh (Jx1 z)
 have h2:∀l:List Rec,(l.flatMap fun r=>upN z.origin r.name).length≤256*l.length:=by
  intro l
  induction l with
  |nil=>simp
  |cons x r ih=>
   have:=X8 z.origin x.name
   rw [Fp,Az,A0];omega
 have h3:=h2 (z.recs.filter fun r=>under r.name z.origin && !T3 z r.name)
 have h4:=Dv (fun r=>under r.name z.origin && !T3 z r.name) z.recs
 show (setN (Jx1 z)).length≤1000000
 unfold Jx1 at h1 ⊢
 omega
theorem Pn (z:Zone) (n:List UInt8) (hz:z.wf) (hl:z.recs.length≤1000):S ny 2 [z.pv,.s n]=some [.b (exB z n)]:=by
 refine Lc4 (N:=1) rfl ?_
 have k1:=N8 z hz hl
 have k2:=Rj (namesN z) n (Jt z hl)
 rw [Zw] at k2
 generalize namesN z=nz at*
 simp (disch:=omega) only [Lj3,k1,k2,EVM,EVC,xe,EVP,↓reduceIte,EV,Nat.reduceAdd,Nat.reduceEqDiff,Int.reduceToNat,reduceCtorEq]
theorem Bj1 (z:Zone) (n:List UInt8) (hz:z.wf) (hl:z.recs.length≤1000):S Cd1 2 [z.pv,.s n]=some [.b (exB z n)]:=by
 have hn:=Jt z hl
 refine Lc3 (N:=(namesN z).length+1) rfl ?_
 have k1:=Nc z hz hl
 rw [←Zw]
 generalize namesN z=nz at*
 have key:Gc8.ev S (nz.length+1) [z.pv,.s n,Bq nz]=some (if n∈nz then .ret [.b true] else .yld 0 []):=by
  refine Dq nz (fun i=>[.i .i64 (i:Int)]) (fun i r=>if n∈r then .ret [.b true] else .yld 0 []) rfl (by omega) (fun i c r hd hi hc=> ?_) ?_
  ·by_cases h:c=n
   ·right
    simp (disch:=omega) only [Bl3,hc,h,EVM,EVC,xe,EVP,↓reduceIte,EV,Nat.reduceAdd,Nat.reduceEqDiff,Int.reduceToNat,reduceCtorEq]
    simp [Out.goes]
   ·left
    have h2:¬n=c:=fun e=>h e.symm
    simp (disch:=omega) only [Bl3,hc,h,EVM,EVC,xe,EVP,↓reduceIte,EV,Nat.reduceAdd,Nat.reduceEqDiff,Int.reduceToNat,reduceCtorEq]
    simp [h2]
  ·simp (disch:=omega) only [Bl3,EVM,EVC,xe,EVP,↓reduceIte,EV,Nat.reduceAdd,Nat.reduceEqDiff,Int.reduceToNat,reduceCtorEq]
   simp [Out.goes]
 by_cases h:n∈nz
 ·rw [if_pos h] at key
  simp (disch:=omega) only [Bl3,k1,key,EVM,EVC,xe,EVP,↓reduceIte,EV,Nat.reduceAdd,Nat.reduceEqDiff,Int.reduceToNat,reduceCtorEq]
  try simp [h]
 ·rw [if_neg h] at key
  simp (disch:=omega) only [Bl3,k1,key,EVM,EVC,xe,EVP,↓reduceIte,EV,Nat.reduceAdd,Nat.reduceEqDiff,Int.reduceToNat,reduceCtorEq]
  try simp [h]
def Ft9 (z:Zone) (n:List UInt8):Option (List UInt8):=(upN z.origin n).find? (exB z)
def encN (z:Zone) (n:List UInt8):List UInt8:=if under n z.origin=true then (Ft9 z n).getD [] else []
theorem Gw6 {n:List UInt8} (h:vld n=true):n≠[]:=fun e=>by subst e;simp [vld,nm] at h
theorem Uq {z:Zone} {n e:List UInt8} (hu:under n z.origin=true) (h:Ft9 z n=some e):under n e=true∧exB z e=true:=by
 unfold Ft9 at h
 have h1:=List.mem_of_find?_eq_some h
 have h2:=List.find?_some h
 exact ⟨((J8 hu).1 h1).1,h2⟩
theorem Lj (z:Zone) (n:List UInt8) (hz:z.wf) (hl:z.recs.length≤1000) (hn:n.length≤9223372036854775807):S nd 2 [z.pv,.s n]=some [.s (encN z n),.b (decide (encN z n≠[]))]:=by
 refine Ld1 (N:=1000) rfl ?_
 have g1:=hz.origin
 unfold K3 at g1
 have k0:=Hj n z.origin hn g1
 unfold encN
 rcases Ak (under n z.origin) with hu|hu
 ·rw [if_pos hu]
  rw [hu] at k0
  have k1:=N8 z hz hl
  have hnl:=Jt z hl
  have k2:∀x,S nq 2 [Bq (namesN z),.s x]=some [.b (exB z x)]:=fun x=>by rw [←Zw];exact Rj (namesN z) x hnl
  generalize namesN z=nz at*
  obtain ⟨v1,v2,_⟩:=B7.1 hu
  have hlb:=Gz n
  have h0:jn ((lbl n).drop 0)=n:=og v1
  let res:Option (List UInt8)→Out:=fun o=>match o with|some e=> .yld 0 [.s e]|none=> .ret [.s [],.b false]
  have key:Gd5.ev S 1000 [z.pv,.s n,.b true,Bq nz]=some (res (Ft9 z n)):=by
   have:=Ev (fn:=S) (N:=1000) (η:=[z.pv,.s n,.b true,Bq nz]) (id:=1) (init:=[(.v 1)]) (body:=Er3) ((lbl n).length - (lbl z.origin).length)
    (fun k=>[.s (jn ((lbl n).drop k))]) (fun k=>res (((upN z.origin n).drop k).find? (exB z))) ?_ (by omega) (fun k hk=> ?_) ?_
   ·exact this
   ·rw [h0]
    simp (disch:=omega) only [EVM,EVC,xe,EVP,↓reduceIte,EV,Nat.reduceAdd,Nat.reduceEqDiff,Int.reduceToNat,reduceCtorEq]
   ·have hup:(upN z.origin n)[k]? =some (jn ((lbl n).drop k)):=Pr (Nat.le_of_lt hk)
    have hd:(upN z.origin n).drop k=jn ((lbl n).drop k)::(upN z.origin n).drop (k+1):=by
     obtain ⟨h1,h2⟩:=Aq.1 hup
     rw [Bp h1,h2]
    obtain ⟨q1,q2⟩:=Bn1 hu hk
    have q3:¬jn ((lbl n).drop k)=z.origin:=fun h=>by have:=(b9 hu (Nat.le_of_lt hk)).1 h;omega
    have q4:=Aj3 v1 k
    have k1:=Xb (jn ((lbl n).drop k)) (by omega)
    rw [q1,q2] at k1
    have k3:=k2 (jn ((lbl n).drop k))
    rw [hd]
    generalize jn ((lbl n).drop (k+1))=nx at*
    generalize jn ((lbl n).drop k)=cu at*
    rcases Ak (exB z cu) with h5|h5
    ·right
     rw [h5] at k3
     rw [List.find?_cons_of_pos h5]
     refine ⟨?_,rfl⟩
     simp (disch:=omega) only [lr,k3,EVM,EVC,xe,EVP,↓reduceIte,EV,Nat.reduceAdd,Nat.reduceEqDiff,Int.reduceToNat,reduceCtorEq]
     rfl
    ·left
     rw [h5] at k3
     rw [List.find?_cons_of_neg (by simp [h5])]
     refine ⟨?_,rfl⟩
     simp (disch:=omega) only [lr,k1,k3,q3,EVM,EVC,xe,EVP,↓reduceIte,EV,Nat.reduceAdd,Nat.reduceEqDiff,Int.reduceToNat,reduceCtorEq]
   ·have hup:(upN z.origin n)[(lbl n).length - (lbl z.origin).length]? =some (jn ((lbl n).drop ((lbl n).length - (lbl z.origin).length))):=Pr (Ac _)
    have hd:(upN z.origin n).drop ((lbl n).length - (lbl z.origin).length)=[jn ((lbl n).drop ((lbl n).length - (lbl z.origin).length))]:=by
     obtain ⟨h1,h2⟩:=Aq.1 hup
     have h9:(upN z.origin n).drop ((lbl n).length - (lbl z.origin).length+1)=[]:=Xf (by simp [upN])
     rw [Bp h1,h2,h9]
    have q3:=(b9 hu (Ac _)).2 rfl
    rw [hd,q3]
    have k3:=k2 z.origin
    rcases Ak (exB z z.origin) with h5|h5
    ·rw [h5] at k3
     rw [List.find?_cons_of_pos h5]
     refine ⟨?_,rfl⟩
     simp (disch:=omega) only [lr,k3,EVM,EVC,xe,EVP,↓reduceIte,EV,Nat.reduceAdd,Nat.reduceEqDiff,Int.reduceToNat,reduceCtorEq]
     rfl
    ·rw [h5] at k3
     rw [List.find?_cons_of_neg (by simp [h5]),List.find?_nil]
     refine ⟨?_,rfl⟩
     simp (disch:=omega) only [lr,k3,EVM,EVC,xe,EVP,↓reduceIte,EV,Nat.reduceAdd,Nat.reduceEqDiff,Int.reduceToNat,reduceCtorEq]
     rfl
  cases he:Ft9 z n with
  |none=>
   rw [he] at key
   simp only [res] at key
   simp (disch:=omega) only [lr,k0,k1,key,EVM,EVC,xe,EVP,↓reduceIte,EV,Nat.reduceAdd,Nat.reduceEqDiff,Int.reduceToNat,reduceCtorEq]
   simp
  |some e=>
   rw [he] at key
   simp only [res] at key
   have h6:=Gw6 (B7.1 (Uq hu he).1).2.1
   simp (disch:=omega) only [lr,k0,k1,key,EVM,EVC,xe,EVP,↓reduceIte,EV,Nat.reduceAdd,Nat.reduceEqDiff,Int.reduceToNat,reduceCtorEq]
   simp [h6]
 ·rw [if_neg (by simp [hu])]
  rw [hu] at k0
  simp (disch:=omega) only [lr,k0,EVM,EVC,xe,EVP,↓reduceIte,EV,Nat.reduceAdd,Nat.reduceEqDiff,Int.reduceToNat,reduceCtorEq]
  try simp
def bestF (n:List UInt8):List UInt8→List (List UInt8)→List UInt8
 |b,[]=>b
 |b,x::r=>bestF n (if under n x && (decide (b=[])||decide ((lbl b).length<(lbl x).length)) then x else b) r
theorem Z4 (n:List UInt8):∀(l:List (List UInt8)) (b:List UInt8),(b=[]∨under n b=true)→
  (bestF n b l=[]→b=[]∧∀x∈l,under n x=false)∧
  (bestF n b l≠[]→under n (bestF n b l)=true∧(bestF n b l=b∨bestF n b l∈l)∧(b≠[]→(lbl b).length≤(lbl (bestF n b l)).length)∧∀x∈l,under n x=true→(lbl x).length≤(lbl (bestF n b l)).length)
 |[],b,hb=>by
  simp only [bestF]
  refine ⟨fun h=>⟨h,fun r hr=>by simp at hr⟩,fun h=>⟨hb.resolve_left h,.inl trivial,fun _=>Ac _,fun r hr=>by simp at hr⟩⟩
 |x::rs,b,hb=>by
  simp only [bestF]
  have hne:under n x=true→x≠[]:=fun h=>Gw6 (B7.1 h).2.1
  by_cases hc:(under n x && (decide (b=[])||decide ((lbl b).length<(lbl x).length)))=true
  ·rw [if_pos hc]
   simp only [Av,An,decide_eq_true_eq] at hc
   obtain ⟨c2,c3⟩:=hc
   obtain ⟨h1,h2⟩:=Z4 n rs x (.inr c2)
   refine ⟨fun h=>absurd (h1 h).1 (hne c2),fun h=> ?_⟩
   obtain ⟨g1,g2,g3,g4⟩:=h2 h
   refine ⟨g1,.inr ?_,fun hb0=> ?_,fun y hy hy2=> ?_⟩
   ·rcases g2 with g2|g2
    ·rw [g2];exact .head _
    ·exact .tail _ g2
   ·have:=g3 (hne c2)
    rcases c3 with c3|c3
    ·exact absurd c3 hb0
    ·omega
   ·rcases Ag.1 hy with rfl|hy
    ·exact g3 (hne c2)
    ·exact g4 y hy hy2
  ·rw [if_neg hc]
   obtain ⟨h1,h2⟩:=Z4 n rs b hb
   have hr:under n x=true→b≠[]∧(lbl x).length≤(lbl b).length:=by
    intro c2
    simp only [c2,Jx2,An,decide_eq_true_eq,not_or,Nat.not_lt] at hc
    exact hc
   refine ⟨fun h=> ?_,fun h=> ?_⟩
   ·obtain ⟨g1,g2⟩:=h1 h
    refine ⟨g1,fun y hy=> ?_⟩
    rcases Ag.1 hy with rfl|hy
    ·rcases Ak (under n y) with h3|h3
     ·exact absurd g1 (hr h3).1
     ·exact h3
    ·exact g2 y hy
   ·obtain ⟨g1,g2,g3,g4⟩:=h2 h
    refine ⟨g1,?_,g3,fun y hy hy2=> ?_⟩
    ·rcases g2 with g2|g2
     ·exact .inl g2
     ·exact .inr (.tail _ g2)
    ·rcases Ag.1 hy with rfl|hy
     ·obtain ⟨q1,q2⟩:=hr hy2
      have:=g3 q1
      omega
     ·exact g4 y hy hy2
theorem Fv4 {a b c:List UInt8} (h1:under a b=true) (h2:under b c=true):under a c=true:=by
 obtain ⟨v1,_,s1⟩:=B7.1 h1
 obtain ⟨_,v3,s2⟩:=B7.1 h2
 exact B7.2 ⟨v1,v3,s2.trans s1⟩
theorem En4 (z:Zone) (n:List UInt8):bestF n [] (namesN z)=encN z n:=by
 obtain ⟨h1,h2⟩:=Z4 n (namesN z) [] (.inl rfl)
 have hin:∀x,x∈namesN z↔exB z x=true:=fun x=>by rw [←Zw];simp
 have hor:∀x,exB z x=true→under x z.origin=true:=fun x hx=>by
  obtain ⟨_,_,_,_,_,h⟩:=(Gf4 z x).1 hx
  exact h
 unfold encN
 by_cases hb:bestF n [] (namesN z)=[]
 ·have:=(h1 hb).2
  rw [hb]
  rcases Ak (under n z.origin) with hu|hu
  ·rw [if_pos hu]
   cases he:Ft9 z n with
   |none=>rfl
   |some e=>
    obtain ⟨g1,g2⟩:=Uq hu he
    have:=this e ((hin e).2 g2)
    rw [g1] at this;cases this
  ·rw [if_neg (by simp [hu])]
 ·obtain ⟨g1,g2,_,g4⟩:=h2 hb
  have g3:exB z (bestF n [] (namesN z))=true:=(hin _).1 (g2.resolve_left hb)
  have hu:under n z.origin=true:=Fv4 g1 (hor _ g3)
  rw [if_pos hu]
  generalize bestF n [] (namesN z)=b at*
  have hm:b∈upN z.origin n:=(J8 hu).2 ⟨g1,hor _ g3⟩
  cases he:Ft9 z n with
  |none=>
   unfold Ft9 at he
   rw [List.find?_eq_none] at he
   exact absurd g3 (he b hm)
  |some e=>
   obtain ⟨q1,q2⟩:=Uq hu he
   have q3:=g4 e ((hin e).2 q2) q1
   have q4:(lbl b).length≤(lbl e).length:=by
    unfold Ft9 at he
    obtain ⟨_,pa,pb,he2,he3⟩:=List.find?_eq_some_iff_append.1 he
    obtain ⟨v1,v2,vs⟩:=B7.1 hu
    have hbm:=hm
    rw [he2] at hbm
    rcases Br.1 hbm with hbm|hbm
    ·have:=he3 b hbm
     rw [g3] at this;cases this
    ·rcases Ag.1 hbm with rfl|hbm
     ·exact Ac _
     ·obtain ⟨j,hj⟩:=C7 hbm
      have e1:(upN z.origin n)[pa.length]? =some e:=by rw [he2,A3 (Ac _)];simp
      have e2:(upN z.origin n)[pa.length+1+j]? =some b:=by
       rw [he2,A3 (by omega),show pa.length+1+j - pa.length=j+1 by omega]
       simpa using hj
      have l2:=(Aq.1 e2).1
      rw [show (upN z.origin n).length=(lbl n).length - (lbl z.origin).length+1 by simp [upN]] at l2
      rw [Pr (by omega)] at e1 e2
      injection e1 with e1
      injection e2 with e2
      rw [←e1,←e2,(J7 v1 _).2,(J7 v1 _).2,Bt,Bt]
      omega
   obtain ⟨_,vb,sb⟩:=B7.1 g1
   obtain ⟨_,ve,se⟩:=B7.1 q1
   rw [Gc] at sb se
   show b=e
   refine Nl vb ve ?_
   rw [sb,se,Nat.le_antisymm q4 q3]
theorem dm (z:Zone) (n:List UInt8) (hz:z.wf) (hl:z.recs.length≤1000) (hn:n.length≤9223372036854775807):S Cd3 2 [z.pv,.s n]=some [.s (encN z n),.b (decide (encN z n≠[]))]:=by
 have hnl:=Jt z hl
 refine Ld0 (N:=(namesN z).length+1) rfl ?_
 have k1:=Nc z hz hl
 have hv:∀x∈namesN z,x.length≤254:=fun x hx=>by
  obtain ⟨_,_,_,_,_,h⟩:=(Wq z x).1 hx
  exact Lq (B7.1 h).1
 rw [←En4]
 generalize namesN z=nz at*
 have key:Gd4.ev S (nz.length+1) [z.pv,.s n,Bq nz]=some (.yld 0 [.s (bestF n [] nz)]):=by
  refine En nz (fun i (b:List UInt8)=>[.s b,.i .i64 (i:Int)]) (fun i b r=> .yld 0 [.s (bestF n b r)]) (fun i b=>b.length≤254) [] rfl (by simp) (by omega) (fun i b c r hd hi hc hI=> ?_) (fun b hI=> ?_)
  ·left
   have g2:=hv c (Am hc)
   have k2:=Hk n c hn (by omega)
   refine ⟨if under n c && (decide (b=[])||decide ((lbl b).length<(lbl c).length)) then c else b,?_,by split<;>omega,rfl⟩
   rcases Ak (under n c) with h1|h1
   ·rw [h1] at k2
    by_cases h2:b=[]
    ·simp (disch:=omega) only [Ar8,hc,h1,h2,k2,EVM,EVC,xe,EVP,↓reduceIte,EV,Nat.reduceAdd,Nat.reduceEqDiff,Int.reduceToNat,reduceCtorEq]
     simp
    ·have k3:=Hc b (by omega)
     have k4:=Hc c (by omega)
     by_cases h3:(lbl b).length<(lbl c).length
     ·have h4:((lbl b).length:Int)<((lbl c).length:Int):=by omega
      simp (disch:=omega) only [Ar8,hc,h1,h2,h4,k2,k3,k4,EVM,EVC,xe,EVP,↓reduceIte,EV,Nat.reduceAdd,Nat.reduceEqDiff,Int.reduceToNat,reduceCtorEq]
      simp [h3,h2]
     ·have h4:¬((lbl b).length:Int)<((lbl c).length:Int):=by omega
      simp (disch:=omega) only [Ar8,hc,h1,h2,h4,k2,k3,k4,EVM,EVC,xe,EVP,↓reduceIte,EV,Nat.reduceAdd,Nat.reduceEqDiff,Int.reduceToNat,reduceCtorEq]
      simp [h3,h2]
   ·rw [h1] at k2
    simp (disch:=omega) only [Ar8,hc,h1,k2,EVM,EVC,xe,EVP,↓reduceIte,EV,Nat.reduceAdd,Nat.reduceEqDiff,Int.reduceToNat,reduceCtorEq]
    simp
  ·simp (disch:=omega) only [Ar8,EVM,EVC,xe,EVP,↓reduceIte,EV,Nat.reduceAdd,Nat.reduceEqDiff,Int.reduceToNat,reduceCtorEq]
   simp [bestF,Out.goes]
 generalize bestF n [] nz=be at*
 simp (disch:=omega) only [Ar8,k1,key,EVM,EVC,xe,EVP,↓reduceIte,EV,Nat.reduceAdd,Nat.reduceEqDiff,Int.reduceToNat,reduceCtorEq]
 try simp
end Go.X.G
/- The law LookupSoas. -/
namespace Go.X.G
open Go Go.X
theorem Nv (z:Zone) (n:List UInt8) (t:Int) (hl:z.recs.length≤1000000):S ng 3 [z.pv,.s n,.i .i64 t]=some [Ad (findR z.recs n t)]:=by
 refine Ld4 (N:=1) rfl ?_
 simp (disch:=omega) only [Lj4,Gv0,xe,EVP,↓reduceIte,EV,Nat.reduceAdd,Nat.reduceEqDiff,Int.reduceToNat,reduceCtorEq]
def zero:Dat:=⟨false,0,0,[],[],[],0,0,0,0,0,0,0⟩
end Go.X.G
/- The laws of zones: what they call. -/
namespace Go.X.G
open Go Go.X
theorem Ls (o:List UInt8) (l:List Rec):PV.a [.s o,Ad l]=Zone.pv ⟨o,l⟩:=rfl
theorem Ft7 (z:Zone):(⟨z.origin,z.recs⟩:Zone)=z:=rfl
def c3 (s:List UInt8):List UInt8:=s.take 300
def J3 (r:Rec):Rec:=⟨c3 r.name,r.typ,r.ttl,{r.data with host:=c3 r.data.host,mail:=c3 r.data.mail,text:=c3 r.data.text}⟩
def smallZ (z:Zone):Zone:=⟨c3 z.origin,(z.recs.take 70).map J3⟩
theorem Dl6 (s:List UInt8):(c3 s).length≤300:=by unfold c3;rw [Al];omega
theorem Ct6 {r:Rec} (h:r.wf):(J3 r).wf:=by
 have hs:∀s:List UInt8,K3 (c3 s):=fun s=>by have:=Dl6 s;unfold K3;omega
 exact ⟨hs _,h.typ,h.ttl,⟨h.data.hi,h.data.lo,hs _,hs _,hs _,h.data.a,h.data.b,h.data.c,h.data.d,h.data.e,h.data.f,h.data.bits⟩⟩
theorem Bp8 {z:Zone} (h:z.wf):(smallZ z).wf:=by
 refine ⟨by have:=Dl6 z.origin;unfold smallZ K3;simp only;omega,by simp [smallZ];omega,fun r hr=> ?_⟩
 simp only [smallZ,D4] at hr
 obtain ⟨x,hx,rfl⟩:=hr
 exact Ct6 (h.recs.2 x (Fj hx))
theorem As7 (z:Zone):(smallZ z).recs.length≤70:=by simp [smallZ];omega
theorem V0 (s:List UInt8) (hs:s.length≤9223372036854775807):c9 (.s s) (.i .i64 0) (.i .i64 (if (300:Int)<(s.length:Int) then 300 else (s.length:Int)))=some (.s (c3 s)):=by
 unfold c3
 by_cases h:(300:Int)<(s.length:Int)
 ·rw [if_pos h]
  have h1:(0:Int)≤0∧(0:Int)≤300∧(300:Int)≤(s.length:Int):=by omega
  simp only [c9,h1,and_self,if_true]
  rfl
 ·rw [if_neg h]
  have h1:(0:Int)≤0∧(0:Int)≤(s.length:Int)∧(s.length:Int)≤(s.length:Int):=by omega
  simp only [c9,h1,and_self,if_true,Jv,C2]
  rw [Cr (by omega)]
  rfl
theorem Fp2 (n:Int):Fp1 (.i .i64 n) (.i .i64 300)=some (.i .i64 (if (300:Int)<n then 300 else n)):=by simp [Fp1]
theorem Gq8 (z:Zone) (hz:z.wf):S Cf7 1 [z.pv]=some [(smallZ z).pv]:=by
 obtain ⟨N,hN⟩:∃N:Nat,N=72:=⟨_,rfl⟩
 refine Lf2 (N:=N) rfl ?_
 have hzl:z.origin.length≤9223372036854775807:=hz.origin
 have hrl:=hz.recs.1
 have key:Gf1.ev S N [z.pv]=some (.yld 0 [Ad ((z.recs.take 70).map J3)]):=by
  have hm:(z.recs.take 70).length≤70:=by simp;omega
  refine Dq (z.recs.take 70) (fun i=>[Ad ((z.recs.take i).map J3),.i .i64 (i:Int)]) (fun i r=> .yld 0 [Ad ((z.recs.take 70).map J3)]) rfl (by omega) (fun i c r hd hi hc=> ?_) ?_
  ·left
   refine ⟨?_,rfl⟩
   have hi70:i<70:=by omega
   have hc':z.recs[i]? =some c:=by rw [←hc,List.getElem?_take_of_lt hi70]
   have hil:=(Aq.1 hc').1
   have hcw:=hz.recs.2 c (Am hc')
   have e:(z.recs.take (i+1)).map J3=(z.recs.take i).map J3++[J3 c]:=by rw [B6,hc'];simp
   have hlen:((z.recs.take i).map J3).length=i:=by rw [Dt,Al];omega
   have s1:=V0 c.name hcw.name
   have s2:=V0 c.data.host hcw.data.host
   have s3:=V0 c.data.mail hcw.data.mail
   have s4:=V0 c.data.text hcw.data.text
   have h1:(i:Int)<(z.recs.length:Int):=by omega
   have h2:(i:Int)<70:=by omega
   have ei:(i:Int).toNat=i:=by omega
   rw [e]
   generalize (z.recs.take i).map J3=a at*
   simp (disch:=omega) only [Fq8,h1,h2,ei,hc',Fp2,s1,s2,s3,s4,EVC,xe,EVP,↓reduceIte,EV,Nat.reduceAdd,Nat.reduceEqDiff,Int.reduceToNat,reduceCtorEq]
   rfl
  ·refine ⟨?_,rfl⟩
   have e:z.recs.take (z.recs.take 70).length=z.recs.take 70:=by
    rw [Al]
    by_cases h:z.recs.length≤70
    ·rw [Nat.min_eq_right h,C2,Cr h]
    ·rw [N1 (by omega)]
   have hlen:((z.recs.take 70).length:Int)=if 70<z.recs.length then 70 else (z.recs.length:Int):=by
    rw [Al];split<;>omega
   rw [e,hlen]
   by_cases h:70<z.recs.length
   ·rw [if_pos h]
    have h1:(70:Int)<(z.recs.length:Int):=by omega
    generalize (z.recs.take 70).map J3=a at*
    simp (disch:=omega) only [Fq8,h1,EVC,xe,EVP,↓reduceIte,EV,Nat.reduceAdd,Nat.reduceEqDiff,Int.reduceToNat,reduceCtorEq]
   ·rw [if_neg h]
    have h1:¬(z.recs.length:Int)<(z.recs.length:Int):=by omega
    generalize (z.recs.take 70).map J3=a at*
    simp (disch:=omega) only [Fq8,h1,EVC,xe,EVP,↓reduceIte,EV,Nat.reduceAdd,Nat.reduceEqDiff,Int.reduceToNat,reduceCtorEq]
 have s0:=V0 z.origin hzl
 unfold smallZ
 generalize (z.recs.take 70).map J3=a at*
 simp (disch:=omega) only [Fq8,key,Fp2,s0,Ls,EVC,xe,EVP,↓reduceIte,EV,Nat.reduceAdd,Nat.reduceEqDiff,Int.reduceToNat,reduceCtorEq]
theorem vj (a b:List (List UInt8)) (ha:a.length≤1000000) (hb:b.length≤1000000):S Bx6 2 [Bq a,Bq b]=some [.b (decide (a=b))]:=by
 obtain ⟨N,hN⟩:∃N,N=a.length+1:=⟨_,rfl⟩
 refine Lc9 (N:=N) rfl ?_
 by_cases hl:a.length=b.length
 ·have key:Gd3.ev S N [Bq a,Bq b]=some (if a.drop 0=b.drop 0 then .yld 0 [] else .ret [.b false]):=by
   refine Ev a.length (fun i=>[.i .i64 (i:Int)]) (fun i=>if a.drop i=b.drop i then .yld 0 [] else .ret [.b false]) rfl (by omega) (fun i hi=> ?_) ?_
   ·have h1:a[i]? =some a[i]:=Ax hi
    have h2:b[i]? =some b[i]:=Ax (by omega)
    have d1:a.drop i=a[i]::a.drop (i+1):=Bp hi
    have d2:b.drop i=b[i]::b.drop (i+1):=Bp (by omega)
    rw [d1,d2]
    generalize a[i]=x at*
    generalize b[i]'(by omega)=y at*
    have hlt:(i:Int)<(a.length:Int):=by omega
    by_cases h:x=y
    ·left
     subst h
     refine ⟨?_,by simp⟩
     simp (disch:=omega) only [Ar7,hlt,h1,h2,EVC,xe,EVP,↓reduceIte,EV,Nat.reduceAdd,Nat.reduceEqDiff,Int.reduceToNat,reduceCtorEq]
     try simp
    ·right
     rw [if_neg (by simp [h])]
     refine ⟨?_,rfl⟩
     simp (disch:=omega) only [Ar7,hlt,h1,h2,h,EVC,xe,EVP,↓reduceIte,EV,Nat.reduceAdd,Nat.reduceEqDiff,Int.reduceToNat,reduceCtorEq]
     try simp
   ·have hlt:¬(a.length:Int)<(a.length:Int):=by omega
    have e:a.drop a.length=b.drop a.length:=by rw [Fq0,hl,Fq0]
    rw [if_pos e]
    refine ⟨?_,rfl⟩
    simp (disch:=omega) only [Ar7,hlt,EVC,xe,EVP,↓reduceIte,EV,Nat.reduceAdd,Nat.reduceEqDiff,Int.reduceToNat,reduceCtorEq]
    try simp
  have hl':(a.length:Int)=(b.length:Int):=by omega
  rw [Dy,Dy] at key
  by_cases h:a=b
  ·rw [if_pos h] at key
   have e:decide (a=b)=true:=by simp [h]
   rw [e]
   simp (disch:=omega) only [Ar7,hl',key,EVC,xe,EVP,↓reduceIte,EV,Nat.reduceAdd,Nat.reduceEqDiff,Int.reduceToNat,reduceCtorEq]
  ·rw [if_neg h] at key
   have e:decide (a=b)=false:=by simp [h]
   rw [e]
   simp (disch:=omega) only [Ar7,hl',key,EVC,xe,EVP,↓reduceIte,EV,Nat.reduceAdd,Nat.reduceEqDiff,Int.reduceToNat,reduceCtorEq]
 ·have hl':¬(a.length:Int)=(b.length:Int):=by omega
  have e:decide (a=b)=false:=decide_eq_false fun q=>hl (by rw [q])
  rw [e]
  simp (disch:=omega) only [Ar7,hl',EVC,xe,EVP,↓reduceIte,EV,Nat.reduceAdd,Nat.reduceEqDiff,Int.reduceToNat,reduceCtorEq]
def newZ (o:List UInt8) (l:List Rec):Zone:=if K0 ⟨o,sortR l⟩=0 then ⟨o,sortR l⟩ else ⟨[],[]⟩
theorem Fg6 {l:List Rec} (h:∀r∈l,r.wf):∀r∈sortR l,r.wf:=fun r hr=>h r (((V2 l).2 r).1 hr).mem
theorem yr {o:List UInt8} {l:List Rec} (ho:K3 o) (hl:l.length≤1000000) (hw:∀r∈l,r.wf):(⟨o,sortR l⟩:Zone).wf:=by
 have:=dv l hw hl
 exact ⟨ho,by simp only;omega,Fg6 hw⟩
theorem Fj0 (o:List UInt8) (l:List Rec) (ho:K3 o) (hl:l.length≤1000000) (hw:∀r∈l,r.wf):S Bx9 2 [.s o,Ad l]=some [(newZ o l).pv,.i .i64 (K0 ⟨o,sortR l⟩)]:=by
 refine Lf1 (N:=1) rfl ?_
 have k1:=Ar3 l hw hl
 have hlen:=dv l hw hl
 have k2:=U2 ⟨o,sortR l⟩ (yr ho hl hw) (by simp only;omega)
 unfold newZ
 generalize sortR l=s at*
 by_cases h:K0 ⟨o,s⟩=0
 ·rw [if_pos h]
  rw [h] at k2 ⊢
  simp (disch:=omega) only [Jz7,k1,k2,Ls,EVC,xe,EVP,↓reduceIte,EV,Nat.reduceAdd,Nat.reduceEqDiff,Int.reduceToNat,reduceCtorEq]
 ·rw [if_neg h]
  simp (disch:=omega) only [Jz7,k1,k2,h,Ls,EVC,xe,EVP,↓reduceIte,EV,Nat.reduceAdd,Nat.reduceEqDiff,Int.reduceToNat,reduceCtorEq]
end Go.X.G
/- The laws of zones: serial numbers, addresses of hosts, the chapter's example. -/
namespace Go.X.G
open Go Go.X
def Ib0 (z:Zone) (r:Rec):Bool:=decide (r.typ=6) && decide (r.name=z.origin)
theorem dw (z:Zone) (r:Rec):S Ws 1 [r.pv,z.pv]=some [.b (Ib0 z r)]:=by
 refine Jr8 (N:=1) rfl ?_
 unfold Ib0
 by_cases h:r.typ=6
 ·simp (disch:=omega) only [Gw5,h,EVC,xe,EVP,↓reduceIte,EV,Nat.reduceAdd,Nat.reduceEqDiff,Int.reduceToNat,reduceCtorEq]
  try simp
 ·simp (disch:=omega) only [Gw5,h,EVC,xe,EVP,↓reduceIte,EV,Nat.reduceAdd,Nat.reduceEqDiff,Int.reduceToNat,reduceCtorEq]
  try simp
theorem mc (z:Zone) (hl:z.recs.length≤1000000):S Bx0 1 [z.pv]=some [.i .i64 (ixG (Ib0 z) 0 z.recs)]:=by
 refine Ly8 (N:=1) rfl ?_
 have h:=Vl z.recs Ws [z.pv] (Ib0 z) hl (fun r _=>dw z r)
 simp (disch:=omega) only [Kt1,Ls,Ft7,h,EVC,xe,EVP,↓reduceIte,EV,Nat.reduceAdd,Nat.reduceEqDiff,Int.reduceToNat,reduceCtorEq]
theorem As6 (z:Zone):findR z.recs z.origin 6=z.recs.filter (Ib0 z):=by
 unfold findR
 congr 1
 funext r
 unfold isK Ib0
 rw [Bool.and_comm]
def Lv5 (z:Zone):Int:=match findR z.recs z.origin 6 with
 |[]=>0
 |r::_=>r.data.a
theorem ix_find (p:Rec→Bool) (l:List Rec):(ixG p 0 l= -1∧l.filter p=[])∨∃(j:Nat) (x:Rec) (r:List Rec),ixG p 0 l=(j:Int)∧l[j]? =some x∧p x=true∧l.filter p=x::r:=by
 have h:=oh p l 0
 by_cases hn:0≤ixG p 0 l
 ·right
  obtain ⟨j,g1,g2,g3,x,g4,g5⟩:=iy p l 0 hn
  have hd:l=l.take j++x::l.drop (j+1):=by
   have:=Bp g2
   have e:l[j]=x:=by rw [Ax g2] at g4;injection g4
   rw [e] at this
   rw [←this,Bl]
  refine ⟨j,x,(l.drop (j+1)).filter p,by rw [g1];simp,g4,g5,?_⟩
  conv=>lhs;rw [hd]
  rw [Ed,D9 g5]
  have:(l.take j).filter p=[]:=Ec.2 fun y hy=>by simp [g3 y hy]
  rw [this,Cv]
 ·left
  refine ⟨by omega,Ec.2 fun y hy=> ?_⟩
  intro hp
  exact hn (h.1.2 (Cj.2 ⟨y,hy,hp⟩))
theorem Bf5 (z:Zone) (hl:z.recs.length≤1000000):S Cf3 1 [z.pv]=some [.i .i64 (Lv5 z)]:=by
 refine Ld6 (N:=1) rfl ?_
 have h:=mc z hl
 unfold Lv5
 rw [As6]
 rcases ix_find (Ib0 z) z.recs with ⟨h1,h2⟩|⟨j,x,r,h1,h2,h3,h4⟩
 ·rw [h1] at h
  rw [h2]
  simp (disch:=omega) only [Jy0,h,EVC,xe,EVP,↓reduceIte,EV,Nat.reduceAdd,Nat.reduceEqDiff,Int.reduceToNat,reduceCtorEq]
 ·rw [h1] at h
  rw [h4]
  have hj:(0:Int)≤(j:Int):=by omega
  have ej:(j:Int).toNat=j:=by omega
  simp (disch:=omega) only [Jy0,h,hj,ej,h2,EVC,xe,EVP,↓reduceIte,EV,Nat.reduceAdd,Nat.reduceEqDiff,Int.reduceToNat,reduceCtorEq]
theorem Bf3 (z:Zone) (s:Int) (h:inB s 4294967295=false):S Cf4 2 [z.pv,.i .i64 s]=some [Zone.pv ⟨[],[]⟩,.i .i64 14]:=by
 refine Ld7 (N:=1) rfl ?_
 have k1:=Cs s
 rw [h] at k1
 simp (disch:=omega) only [Lj5,k1,Ls,EVC,xe,EVP,↓reduceIte,EV,Nat.reduceAdd,Nat.reduceEqDiff,Int.reduceToNat,reduceCtorEq]
def Cr5 (z:Zone) (h:List UInt8):List Rec:=if cutN z h≠[] then findR z.recs h 1++findR z.recs h 28 else []
def glueN (z:Zone) (hs:List (List UInt8)):List Rec:=hs.flatMap (Cr5 z)
theorem Cr4 (z:Zone) (h:List UInt8):(Cr5 z h).length≤2*z.recs.length:=by
 unfold Cr5 findR
 split
 ·rw [Az]
  have h1:=Dv (isK h 1) z.recs
  have h2:=Dv (isK h 28) z.recs
  omega
 ·simp
theorem il (z:Zone):∀hs:List (List UInt8),(glueN z hs).length≤2*z.recs.length*hs.length
 |[]=>by simp [glueN]
 |h::hs=>by
  have h1:=Cr4 z h
  have h2:=il z hs
  simp only [glueN,Fp,Az,A0] at h2 ⊢
  rw [Nat.mul_add,Bg7];omega
theorem Gq9 (z:Zone) (hs:List (List UInt8)) (hz:z.wf) (hl:z.recs.length≤1000) (hn:hs.length≤100) (hh:∀h∈hs,h.length≤9223372036854775807):S Cd0 2 [z.pv,Bq hs]=some [Ad (glueN z hs)]:=by
 obtain ⟨N,hN⟩:∃N,N=hs.length+1:=⟨_,rfl⟩
 refine Lc2 (N:=N) rfl ?_
 have key:Gc7.ev S N [z.pv,Bq hs]=some (.yld 0 [Ad (glueN z hs)]):=by
  refine Dq hs (fun i=>[Ad (glueN z (hs.take i)),.i .i64 (i:Int)]) (fun i r=> .yld 0 [Ad (glueN z hs)]) rfl (by omega) (fun i c r hd hi hc=> ?_) ?_
  ·left
   refine ⟨?_,rfl⟩
   have e:glueN z (hs.take (i+1))=glueN z (hs.take i)++Cr5 z c:=by rw [B6,hc];simp [glueN]
   have hlen:=il z (hs.take i)
   have hl2:2*z.recs.length*(hs.take i).length≤2000*100:=G2 (by omega) (by rw [Al];omega)
   have h1:(i:Int)<(hs.length:Int):=by omega
   have ei:(i:Int).toNat=i:=by omega
   have k1:=Xp z c hz (by omega) (hh c (Am hc))
   have k2:=Nv z c 1 (by omega)
   have k3:=Nv z c 28 (by omega)
   have l2:(findR z.recs c 1).length≤z.recs.length:=Dv _ _
   have l3:(findR z.recs c 28).length≤z.recs.length:=Dv _ _
   rw [e]
   unfold Cr5
   generalize glueN z (hs.take i)=a at*
   by_cases hc2:cutN z c=[]
   ·have eb:decide (cutN z c≠[])=false:=by simp [hc2]
    rw [eb] at k1
    rw [if_neg (by simp [hc2])]
    simp (disch:=omega) only [Fq7,h1,ei,hc,k1,EVC,xe,EVP,↓reduceIte,EV,Nat.reduceAdd,Nat.reduceEqDiff,Int.reduceToNat,reduceCtorEq]
    simp
   ·have eb:decide (cutN z c≠[])=true:=by simp [hc2]
    rw [eb] at k1
    rw [if_pos hc2]
    generalize findR z.recs c 1=f1 at*
    generalize findR z.recs c 28=f2 at*
    have la:(a++f1).length≤1000000:=by rw [Az];omega
    simp (disch:=omega) only [Fq7,h1,ei,hc,k1,k2,k3,EVC,xe,EVP,↓reduceIte,EV,Nat.reduceAdd,Nat.reduceEqDiff,Int.reduceToNat,reduceCtorEq]
    simp
  ·refine ⟨?_,rfl⟩
   have h1:¬(hs.length:Int)<(hs.length:Int):=by omega
   have e:hs.take hs.length=hs:=C2
   rw [e]
   generalize glueN z hs=a at*
   simp (disch:=omega) only [Fq7,h1,EVC,xe,EVP,↓reduceIte,EV,Nat.reduceAdd,Nat.reduceEqDiff,Int.reduceToNat,reduceCtorEq]
 generalize glueN z hs=a at*
 simp (disch:=omega) only [Fq7,key,EVC,xe,EVP,↓reduceIte,EV,Nat.reduceAdd,Nat.reduceEqDiff,Int.reduceToNat,reduceCtorEq]
end Go.X.G
/- The laws of zones: the chapter's example. -/
namespace Go.X.G
open Go Go.X
def exL:List Rec:=[⟨[101,120,97,109,112,108,101,46],6,60,{zero with host:=[110,115,46,98,46,101,120,97,109,112,108,101,46],mail:=[109,46,101,120,97,109,112,108,101,46],a:=5,b:=60,c:=60,d:=600,e:=30}⟩,⟨[101,120,97,109,112,108,101,46],2,60,{zero with host:=[110,115,46,98,46,101,120,97,109,112,108,101,46]}⟩,⟨[98,46,101,120,97,109,112,108,101,46],2,60,{zero with host:=[110,115,46,98,46,101,120,97,109,112,108,101,46]}⟩,⟨[101,120,97,109,112,108,101,46],1,60,{zero with lo:=1}⟩,⟨[99,46,100,46,101,120,97,109,112,108,101,46],1,60,{zero with lo:=2}⟩,⟨[110,115,46,98,46,101,120,97,109,112,108,101,46],1,60,{zero with lo:=3}⟩]
def Gf2:Rec:=⟨[98,46,101,120,97,109,112,108,101,46],15,60,{zero with a:=1,host:=[97,46]}⟩
def exO:List UInt8:=[101,120,97,109,112,108,101,46]
theorem Bf8:S Cb8 0 []=some [Ad exL]:=(Nz ext_mono).2 ⟨3,by kernel_rfl⟩
theorem Gf3:∀r∈exL++[Gf2],r.wf:=by
 intro r hr
 simp only [exL,Gf2,B3,Cv,Ag,List.mem_nil_iff,or_false] at hr
 rcases hr with rfl|rfl|rfl|rfl|rfl|rfl|rfl<;>(constructor<;>(try constructor))<;>simp [zero,Jc9,om,K3]
def exZ:Zone:=⟨exO,sortR exL⟩
theorem Ak4:K0 exZ=0:=by kernel_rfl
theorem Kd7:K0 ⟨exO,sortR (exL++[Gf2])⟩=13:=by kernel_rfl
theorem Im1:cutN exZ [120,46,110,115,46,98,46,101,120,97,109,112,108,101,46]=[98,46,101,120,97,109,112,108,101,46]:=by kernel_rfl
theorem Im0:cutN exZ exO=[]:=by kernel_rfl
theorem Il8:encN exZ [120,46,121,46,100,46,101,120,97,109,112,108,101,46]=[100,46,101,120,97,109,112,108,101,46]:=by kernel_rfl
theorem Il7:encN exZ [110,115,46,98,46,101,120,97,109,112,108,101,46]=[98,46,101,120,97,109,112,108,101,46]:=by kernel_rfl
theorem Kd6:exB exZ [100,46,101,120,97,109,112,108,101,46]=true:=by kernel_rfl
theorem Kd5:exB exZ [110,115,46,98,46,101,120,97,109,112,108,101,46]=false:=by kernel_rfl
theorem Ft6:namesN exZ=[[101,120,97,109,112,108,101,46],[98,46,101,120,97,109,112,108,101,46],[100,46,101,120,97,109,112,108,101,46],[99,46,100,46,101,120,97,109,112,108,101,46]]:=by unfold namesN;rw [←Tj];kernel_rfl
theorem Il9:(cutsN exZ).length=1:=by unfold cutsN;rw [←Tj];kernel_rfl
theorem Il5:glueN exZ [[110,115,46,98,46,101,120,97,109,112,108,101,46],exO]=[⟨[110,115,46,98,46,101,120,97,109,112,108,101,46],1,60,{zero with lo:=3}⟩]:=by kernel_rfl
theorem Kd3:Lv5 exZ=5:=by kernel_rfl
theorem Kd4:exZ.recs.length=6:=by kernel_rfl
theorem Il6:findR exZ.recs [100,46,101,120,97,109,112,108,101,46] 1=[]:=by kernel_rfl
theorem Kd8 (n:List UInt8) (lo:Int):S Cc9 2 [.s n,.i .u64 lo]=some [Rec.pv ⟨n,1,60,{zero with lo:=lo}⟩]:=by
 refine Lb9 (N:=1) rfl ?_
 simp (disch:=omega) only [Lj2,EVC,xe,EVP,↓reduceIte,EV,Nat.reduceAdd,Nat.reduceEqDiff,Int.reduceToNat,reduceCtorEq]
 rfl
theorem Bd9:S Bx8 0 []=some [.b true]:=by
 refine Ld8 (N:=1) rfl ?_
 have hw:∀r∈exL,r.wf:=fun r hr=>Gf3 r (Cl _ hr)
 have ho:K3 exO:=by unfold K3 exO;decide
 have k0:=Bf8
 have hz:exZ.wf:=yr ho (by decide) hw
 have hl:exZ.recs.length=6:=Kd4
 have ec:K0 ⟨exO,sortR exL⟩=0:=Ak4
 have k1:=Fj0 exO exL ho (by decide) hw
 have en:newZ exO exL=exZ:=by unfold newZ;rw [if_pos ec];rfl
 rw [en,ec] at k1
 have k2:=U2 exZ hz (by omega)
 rw [Ak4] at k2
 have k3:=Bf5 exZ (by omega)
 rw [Kd3] at k3
 have c1:=Xp exZ [120,46,110,115,46,98,46,101,120,97,109,112,108,101,46] hz (by omega) (by decide)
 rw [Im1] at c1
 have c2:=Xp exZ exO hz (by omega) (by decide)
 rw [Im0] at c2
 have e1:=Lj exZ [120,46,121,46,100,46,101,120,97,109,112,108,101,46] hz (by omega) (by decide)
 rw [Il8] at e1
 have e2:=Lj exZ [110,115,46,98,46,101,120,97,109,112,108,101,46] hz (by omega) (by decide)
 rw [Il7] at e2
 have n1:=N8 exZ hz (by omega)
 rw [Ft6] at n1
 have u1:=Xn exZ hz (by omega)
 have ul:=Il9
 have g1:=Gq9 exZ [[110,115,46,98,46,101,120,97,109,112,108,101,46],exO] hz (by omega) (by decide) (by decide)
 rw [Il5] at g1
 have w1:=Bf3 exZ (-1) (by decide)
 have b1:=Fj0 exO (exL++[Gf2]) ho (by decide) Gf3
 rw [Kd7] at b1
 have a1:=Kd8 [110,115,46,98,46,101,120,97,109,112,108,101,46] 3
 have x1:=Pn exZ [100,46,101,120,97,109,112,108,101,46] hz (by omega)
 rw [Kd6] at x1
 have x2:=Pn exZ [110,115,46,98,46,101,120,97,109,112,108,101,46] hz (by omega)
 rw [Kd5] at x2
 have f1:=Nv exZ [100,46,101,120,97,109,112,108,101,46] 1 (by omega)
 rw [Il6] at f1
 have eo:([101,120,97,109,112,108,101,46]:List UInt8)=exO:=rfl
 have happ:Ic 16 (Ad exL) (Ad [⟨[98,46,101,120,97,109,112,108,101,46],15,60,⟨false,0,0,[97,46],[],[],1,0,0,0,0,0,0⟩⟩])=some (Ad (exL++[Gf2])):=j6 exL Gf2 (by decide)
 have hlit:J1 16 [PV.a [.s [98,46,101,120,97,109,112,108,101,46],.i .i64 15,.i .i64 60,.b false,.i .u64 0,.i .u64 0,.s [97,46],.s [],.s [],.i .i64 1,.i .i64 0,.i .i64 0,.i .i64 0,.i .i64 0,.i .i64 0,.i .u64 0]]=some (Ad [⟨[98,46,101,120,97,109,112,108,101,46],15,60,⟨false,0,0,[97,46],[],[],1,0,0,0,0,0,0⟩⟩]):=rfl
 have hs2:Bq [[110,115,46,98,46,101,120,97,109,112,108,101,46],exO]= .l 1 [.s [110,115,46,98,46,101,120,97,109,112,108,101,46],.s [101,120,97,109,112,108,101,46]]:=rfl
 rw [hs2] at g1
 have hex:PV.s exO= .s [101,120,97,109,112,108,101,46]:=rfl
 rw [hex] at k1 c2 b1
 generalize newZ exO (exL++[Gf2])=nz at*
 generalize exL++[Gf2]=l2 at*
 have hn4:(Bq [[101,120,97,109,112,108,101,46],[98,46,101,120,97,109,112,108,101,46],[100,46,101,120,97,109,112,108,101,46],[99,46,100,46,101,120,97,109,112,108,101,46]])= .l 1 (List.map PV.s [[101,120,97,109,112,108,101,46],[98,46,101,120,97,109,112,108,101,46],[100,46,101,120,97,109,112,108,101,46],[99,46,100,46,101,120,97,109,112,108,101,46]]):=rfl
 generalize cutsN exZ=cz at*
 have hrl:((exZ.recs.length:Nat):Int)=6:=by omega
 generalize exZ=zz at*
 generalize exL=l1 at*
 have hlit2:J1 1 [.s [110,115,46,98,46,101,120,97,109,112,108,101,46],.s [101,120,97,109,112,108,101,46]]=some (.l 1 [.s [110,115,46,98,46,101,120,97,109,112,108,101,46],.s [101,120,97,109,112,108,101,46]]):=rfl
 clear hn4 hs2 hex eo
 simp (disch:=first|omega|decide) only [Lj6,k0,k1,k2,k3,hrl,c1,c2,e1,e2,n1,u1,ul,g1,w1,happ,hlit,hlit2,b1,a1,x1,x2,f1,EVC,xe,EVP,↓reduceIte,EV,Nat.reduceAdd,Nat.reduceEqDiff,Int.reduceToNat,reduceCtorEq]
end Go.X.G
/- The laws ZoneChecks, ZoneFinds, ZoneCuts, ZoneGlues. -/
namespace Go.X.G
open Go Go.X
theorem Bj2 (z:Zone) (hz:z.wf) (hl:z.recs.length≤1000):S Cd2 1 [z.pv]=some [Bq (cutsN z)]:=by
 obtain ⟨N,hN⟩:∃N,N=z.recs.length+1:=⟨_,rfl⟩
 refine Lc7 (N:=N) rfl ?_
 have hzl:z.origin.length≤9223372036854775807:=hz.origin
 have key:Gd1.ev S N [z.pv]=some (.yld 0 [Ad (z.recs.filter (Ch z))]):=by
  refine Dq z.recs (fun i=>[Ad ((z.recs.take i).filter (Ch z)),.i .i64 (i:Int)]) (fun i r=> .yld 0 [Ad (z.recs.filter (Ch z))]) rfl (by omega) (fun i c r hd hi hc=> ?_) ?_
  ·left
   refine ⟨?_,rfl⟩
   have hcl:c.name.length≤9223372036854775807:=(hz.recs.2 c (Am hc)).name
   have e:(z.recs.take (i+1)).filter (Ch z)=(z.recs.take i).filter (Ch z)++(if Ch z c=true then [c] else []):=by
    rw [B6,hc,Ed]
    congr 1
    simp [H3]
   have hlen:((z.recs.take i).filter (Ch z)).length≤1000000:=by
    have h1:=Dv (Ch z) (z.recs.take i)
    rw [Al] at h1;omega
   have h1:(i:Int)<(z.recs.length:Int):=by omega
   have ei:(i:Int).toNat=i:=by omega
   have kb:=Im c.name z.origin hcl hzl
   rw [e]
   generalize (z.recs.take i).filter (Ch z)=a at*
   unfold Ch
   by_cases ht:c.typ=2
   ·rcases Ak (Dn c.name z.origin) with hb|hb<;>rw [hb] at kb
    ·rw [if_pos (by simp [ht,hb])]
     simp (disch:=omega) only [Bl4,h1,ei,hc,ht,kb,EVC,xe,EVP,↓reduceIte,EV,Nat.reduceAdd,Nat.reduceEqDiff,Int.reduceToNat,reduceCtorEq]
    ·rw [if_neg (by simp [hb])]
     simp (disch:=omega) only [Bl4,h1,ei,hc,ht,kb,EVC,xe,EVP,↓reduceIte,EV,Nat.reduceAdd,Nat.reduceEqDiff,Int.reduceToNat,reduceCtorEq]
     simp
   ·rw [if_neg (by simp [ht])]
    simp (disch:=omega) only [Bl4,h1,ei,hc,ht,EVC,xe,EVP,↓reduceIte,EV,Nat.reduceAdd,Nat.reduceEqDiff,Int.reduceToNat,reduceCtorEq]
    simp
  ·refine ⟨?_,rfl⟩
   have h1:¬(z.recs.length:Int)<(z.recs.length:Int):=by omega
   have e:z.recs.take z.recs.length=z.recs:=C2
   rw [e]
   generalize z.recs.filter (Ch z)=a at*
   simp (disch:=omega) only [Bl4,h1,EVC,xe,EVP,↓reduceIte,EV,Nat.reduceAdd,Nat.reduceEqDiff,Int.reduceToNat,reduceCtorEq]
 have hfl:=Dv (Ch z) z.recs
 have k:=kw (z.recs.filter (Ch z)) (by omega) (fun r hr=>(hz.recs.2 r (B0.1 hr).1).name)
 unfold cutsN
 generalize setN ((z.recs.filter (Ch z)).map Rec.name)=b at*
 generalize z.recs.filter (Ch z)=a at*
 simp (disch:=omega) only [Bl4,key,k,EVC,xe,EVP,↓reduceIte,EV,Nat.reduceAdd,Nat.reduceEqDiff,Int.reduceToNat,reduceCtorEq]
set_option maxHeartbeats 2000000 in
theorem law_ZoneCuts (z:Zone) (n:List UInt8) (hz:z.wf) (hn:K3 n):S Kk2 2 [z.pv,.s n]=some [.b true]:=by
 refine Mv3 (N:=1) rfl ?_
 have k0:=Gq8 z hz
 have hw:=Bp8 hz
 have hl:=As7 z
 have hs:=V0 n hn
 have hcl:=Dl6 n
 generalize smallZ z=x at*
 generalize c3 n=m at*
 have k3:=U2 x hw (by omega)
 have k4:=Bf9 x hw
 have ka:=Bd9
 by_cases h:K0 x=0
 ·rw [h] at k3 k4
  have a1:=Xp x m hw (by omega) (by omega)
  have a2:=Bt2 x m hw (by omega) (by omega)
  have a3:=Lj x m hw (by omega) (by omega)
  have a4:=dm x m hw (by omega) (by omega)
  have a5:=Xn x hw (by omega)
  have a6:=Bj2 x hw (by omega)
  have lc:(cutsN x).length≤x.recs.length:=by
   unfold cutsN
   have h1:=Rh ((x.recs.filter (Ch x)).map Rec.name)
   rw [Dt] at h1
   have h2:=Dv (Ch x) x.recs
   omega
  have a7:=vj (cutsN x) (cutsN x) (by omega) (by omega)
  have a8:=N8 x hw (by omega)
  have a9:=Nc x hw (by omega)
  have ln:=Jt x (by omega)
  have a10:=vj (namesN x) (namesN x) ln ln
  have a11:=Pn x m hw (by omega)
  have a12:=Bj1 x m hw (by omega)
  generalize cutsN x=cx at*
  generalize namesN x=nx at*
  generalize cutN x m=c1 at*
  generalize encN x m=c2 at*
  generalize decide (c1≠[])=d1 at*
  generalize decide (c2≠[])=d2 at*
  generalize exB x m=d3 at*
  simp (maxSteps:=2000000) (disch:=omega) only [Mq7,k0,Fp2,hs,k3,k4,a1,a2,a3,a4,a5,a6,a7,a8,a9,a10,a11,a12,ka,Kg8,Gz0,beq_self_eq_true,EVM,EVC,xe,EVP,↓reduceIte,EV,Nat.reduceAdd,Nat.reduceEqDiff,Int.reduceToNat,reduceCtorEq]
  try simp
 ·simp (disch:=omega) only [Mq7,k0,Fp2,hs,k3,k4,h,ka,EVM,EVC,xe,EVP,↓reduceIte,EV,Nat.reduceAdd,Nat.reduceEqDiff,Int.reduceToNat,reduceCtorEq]
end Go.X.G
