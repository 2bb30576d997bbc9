/- Zones in the program: proper. -/
import Derived.Test.YteiaijjlmnacpaaGreatDoorZoneChecksG13
import Derived.Test.YteiaijjlmnacpaaGreatDoorZoneChecksG9
open Bool renaming eq_false_or_eq_true→Ak,and_eq_true→Av,not_eq_true'→A9,eq_iff_iff→Ch,not_eq_false→I1
open Classical renaming not_not→M3
open Int renaming toNat_natCast→I0
open List renaming getElem?_eq_some_iff→Aq,getElem?_eq_getElem→Ax,length_append→Az,mem_cons→Ah,length_take→Al,pairwise_cons→Ar,mem_of_getElem?→As,length_cons→A0,getElem?_drop→A5,length_pos_iff→Bw,all_eq_true→By,mem_append_right→Bg,take_append_drop→Bl,drop_eq_getElem_cons→B0,cons_append→B3,any_eq_true→B7,take_add_one→Cv,nil_append→Cd,mem_append_left→Cf,take_length→C2,take_of_length_le→C3,mem_map→D3,filter_cons_of_pos→D6,filter_eq_nil_iff→Ex,length_filter_le→Ef,mem_of_mem_take→E4,filter_append→E5,length_map→F2,flatMap_cons→Gn,drop_append_of_le_length→Iw,drop_of_length_le→Vg
open Nat renaming le_refl→Ac,le_trans→Dy,mul_le_mul→Gm,min_eq_left→Mt,mul_one→Ar6
set_option maxHeartbeats 1000000
set_option linter.unusedVariables false
set_option linter.unusedSimpArgs false
namespace Go.X.G
open Go Go.X
section
variable (o cut red:List UInt8) (g:List Rec) (x:Rec) (N:Nat)
def Az1 (n:List UInt8):Bool:=decide (n[0]? =some 42)
theorem Kq9 (hx:g[0]? =some x) (hl:g.length≤1000000) (hn:x.name≠[]) (p4 p5 p6 p7 p8 p9 p10 p11 p12 p13:PV):
  Ct6.ev S N [.s o,Af g, .s cut, .s red,p4,p5,p6,p7,p8,p9,p10,p11,p12,p13]=some (.ret [.b (!Az1 x.name||(!F0 g 2 && !F0 g 39))]):=by
 have k2:=Jl g 2 hl
 have k39:=Jl g 39 hl
 obtain ⟨c,hc⟩:∃c,x.name[0]? =some c:=⟨_,Ax (Bw.2 hn)⟩
 unfold Az1
 rw [hc]
 by_cases h1:c=42
 ·have h1':(c.toNat:Int)=42:=by rw [h1];rfl
  rcases Ak (F0 g 2) with h2|h2
  ·rw [h2] at k2
   simp (disch:=omega) only [Gt4,hx,hc,h1',k2,EVC,EVP,↓reduceIte,EV,Nat.reduceAdd,Nat.reduceEqDiff,Int.reduceToNat,reduceCtorEq]
   simp [h1,h2]
  ·rw [h2] at k2
   simp (disch:=omega) only [Gt4,hx,hc,h1',k2,k39,EVC,EVP,↓reduceIte,EV,Nat.reduceAdd,Nat.reduceEqDiff,Int.reduceToNat,reduceCtorEq]
   simp [h1,h2]
 ·have h1':¬(c.toNat:Int)=42:=fun q=>h1 (UInt8.toNat_inj.1 (show c.toNat=42 by omega))
  simp (disch:=omega) only [Gt4,hx,hc,h1',EVC,EVP,↓reduceIte,EV,Nat.reduceAdd,Nat.reduceEqDiff,Int.reduceToNat,reduceCtorEq]
  simp [h1]
theorem Kq8 (hx:g[0]? =some x) (hl:g.length≤1000000) (hn:x.name≠[]) (p4 p5 p6 p7 p8 p9 p10:PV):
  vj.ev S N [.s o,Af g, .s cut, .s red,p4,p5,p6,p7,p8,p9,p10]=some (.ret [.b ((if (!decide (x.name=o) && F0 g 2)=true then Im g [2,43,47,46,1,28] else !F0 g 43) && (!Az1 x.name||(!F0 g 2 && !F0 g 39)))]):=by
 have k2:=Jl g 2 hl
 have k43:=Jl g 43 hl
 have kd:S Tz 2 [Af g, .l 1 [.i .i64 2, .i .i64 43, .i .i64 47, .i .i64 46, .i .i64 1, .i .i64 28]]=some [.b (Im g [2,43,47,46,1,28])]:=Vm g [2,43,47,46,1,28] hl (by decide)
 have hlit:Jc 1 [.i .i64 2, .i .i64 43, .i .i64 47, .i .i64 46, .i .i64 1, .i .i64 28]=some (.l 1 [.i .i64 2, .i .i64 43, .i .i64 47, .i .i64 46, .i .i64 1, .i .i64 28]):=rfl
 have t:=fun p11 p12 p13=>Kq9 o cut red g x N hx hl hn p4 p5 p6 p7 p8 p9 p10 p11 p12 p13
 have x7:=A3 vj.eq_1
 have x6:=A3 Cz3.eq_1
 have x5:=A3 Cc1.eq_1
 have x4:=A3 Cg2.eq_1
 have x3:=A3 Cn3.eq_1
 by_cases h0:x.name=o
 ·rcases Ak (F0 g 43) with h1|h1<;>rw [h1] at k43<;>simp (disch:=omega) only [x7,x6,x5,x4,x3,t,hx,h0,k43,hlit,EVC,EVP,↓reduceIte,EV,Nat.reduceAdd,Nat.reduceEqDiff,Int.reduceToNat,reduceCtorEq]<;>simp [h1]
 ·rcases Ak (F0 g 2) with h2|h2
  ·rw [h2] at k2
   rcases Ak (Im g [2,43,47,46,1,28]) with h3|h3<;>rw [h3] at kd<;>simp (disch:=omega) only [x7,x6,x5,x4,x3,t,hx,h0,k2,kd,hlit,EVC,EVP,↓reduceIte,EV,Nat.reduceAdd,Nat.reduceEqDiff,Int.reduceToNat,reduceCtorEq]<;>simp [h0,h2,h3]
  ·rw [h2] at k2
   rcases Ak (F0 g 43) with h1|h1<;>rw [h1] at k43<;>simp (disch:=omega) only [x7,x6,x5,x4,x3,t,hx,h0,k2,k43,hlit,EVC,EVP,↓reduceIte,EV,Nat.reduceAdd,Nat.reduceEqDiff,Int.reduceToNat,reduceCtorEq]<;>simp [h0,h1,h2]
theorem Ih6 (hx:g[0]? =some x) (hl:g.length≤1000000) (hn:x.name≠[]) (p4 p5 p6 p7:PV):
  Xn.ev S N [.s o,Af g, .s cut, .s red,p4,p5,p6,p7]=some (.ret [.b ((!F0 g 5||Im g [5,46,47]) && decide (red=[]) && (decide (cut=[])||Im g [1,28]) && ((if (!decide (x.name=o) && F0 g 2)=true then Im g [2,43,47,46,1,28] else !F0 g 43) && (!Az1 x.name||(!F0 g 2 && !F0 g 39))))]):=by
 have k5:=Jl g 5 hl
 have kc:S Tz 2 [Af g, .l 1 [.i .i64 5, .i .i64 46, .i .i64 47]]=some [.b (Im g [5,46,47])]:=Vm g [5,46,47] hl (by decide)
 have ka:S Tz 2 [Af g, .l 1 [.i .i64 1, .i .i64 28]]=some [.b (Im g [1,28])]:=Vm g [1,28] hl (by decide)
 have hlit1:Jc 1 [.i .i64 5, .i .i64 46, .i .i64 47]=some (.l 1 [.i .i64 5, .i .i64 46, .i .i64 47]):=rfl
 have hlit2:Jc 1 [.i .i64 1, .i .i64 28]=some (.l 1 [.i .i64 1, .i .i64 28]):=rfl
 have t:=fun p8 p9 p10=>Kq8 o cut red g x N hx hl hn p4 p5 p6 p7 p8 p9 p10
 generalize ((if (!decide (x.name=o) && F0 g 2)=true then Im g [2,43,47,46,1,28] else !F0 g 43) && (!Az1 x.name||(!F0 g 2 && !F0 g 39)))=B at*
 have x13:=A3 Xn.eq_1
 have x12:=A3 lm.eq_1
 have x11:=A3 ln.eq_1
 have x10:=A3 lp.eq_1
 have x9:=A3 Cw5.eq_1
 have x8:=A3 Cx4.eq_1
 rcases Ak (F0 g 5) with h1|h1<;>rw [h1] at k5
 ·rcases Ak (Im g [5,46,47]) with h2|h2<;>rw [h2] at kc
  ·by_cases h3:red=[]
   ·replace h3:=eq_true h3
    by_cases h4:cut=[]
    ·replace h4:=eq_true h4
     simp (disch:=omega) only [x13,x12,x11,x10,x9,x8,t,k5,kc,h3,h4,hlit1,hlit2,EVC,EVP,↓reduceIte,EV,Nat.reduceAdd,Nat.reduceEqDiff,Int.reduceToNat,reduceCtorEq]
     (clear x13 x12 x11 x10 x9 x8 t;simp [*])
    ·rcases Ak (Im g [1,28]) with h5|h5<;>rw [h5] at ka<;>simp (disch:=omega) only [x13,x12,x11,x10,x9,x8,t,k5,kc,ka,h3,h4,hlit1,hlit2,EVC,EVP,↓reduceIte,EV,Nat.reduceAdd,Nat.reduceEqDiff,Int.reduceToNat,reduceCtorEq]<;>(clear x13 x12 x11 x10 x9 x8 t;simp [*])
   ·simp (disch:=omega) only [x13,x12,x11,x10,x9,x8,t,k5,kc,h3,hlit1,hlit2,EVC,EVP,↓reduceIte,EV,Nat.reduceAdd,Nat.reduceEqDiff,Int.reduceToNat,reduceCtorEq]
    (clear x13 x12 x11 x10 x9 x8 t;simp [*])
  ·simp (disch:=omega) only [x13,x12,x11,k5,kc,hlit1,hlit2,EVC,EVP,↓reduceIte,EV,Nat.reduceAdd,Nat.reduceEqDiff,Int.reduceToNat,reduceCtorEq]
   (clear x13 x12 x11 x10 x9 x8 t;simp [*])
 ·by_cases h3:red=[]
  ·replace h3:=eq_true h3
   by_cases h4:cut=[]
   ·replace h4:=eq_true h4
    simp (disch:=omega) only [x13,x12,x11,x10,x9,x8,t,k5,h3,h4,hlit1,hlit2,EVC,EVP,↓reduceIte,EV,Nat.reduceAdd,Nat.reduceEqDiff,Int.reduceToNat,reduceCtorEq]
    (clear x13 x12 x11 x10 x9 x8 t;simp [*])
   ·rcases Ak (Im g [1,28]) with h5|h5<;>rw [h5] at ka<;>simp (disch:=omega) only [x13,x12,x11,x10,x9,x8,t,k5,ka,h3,h4,hlit1,hlit2,EVC,EVP,↓reduceIte,EV,Nat.reduceAdd,Nat.reduceEqDiff,Int.reduceToNat,reduceCtorEq]<;>(clear x13 x12 x11 x10 x9 x8 t;simp [*])
  ·simp (disch:=omega) only [x13,x12,x11,x10,x9,x8,t,k5,h3,hlit1,hlit2,EVC,EVP,↓reduceIte,EV,Nat.reduceAdd,Nat.reduceEqDiff,Int.reduceToNat,reduceCtorEq]
   (clear x13 x12 x11 x10 x9 x8 t;simp [*])
end
theorem Ay3 (o cut red:List UInt8) (g:List Rec) (hg:g≠[]) (hl:g.length≤1000000) (ho:o.length≤9223372036854775807) (hn:(nmG g).length≤9223372036854775807):
  S Bl5 4 [.s o,Af g, .s cut, .s red]=some [.b (propG o g (decide (cut≠[])) (decide (red≠[])))]:=by
 obtain ⟨x,r,rfl⟩:∃x r,g=x::r:=by
  cases g with
  |nil=>exact absurd rfl hg
  |cons x r=>exact ⟨x,r,rfl⟩
 have hx:(x::r)[0]? =some x:=rfl
 have hnm:nmG (x::r)=x.name:=rfl
 rw [hnm] at hn
 unfold propG
 rw [hnm]
 generalize (x::r)=g at*
 obtain ⟨N,hN⟩:∃N,N=1:=⟨_,rfl⟩
 refine Jt7 (N:=N) rfl ?_
 have hu:=G3 x.name o hn ho
 have k6:=Jl g 6 hl
 have k2:=Jl g 2 hl
 have ku:=fy g hl
 have xt:=A3 Bk3.eq_1
 have x18:=A3 lq.eq_1
 have x17:=A3 lw.eq_1
 have x16:=A3 lz.eq_1
 have x15:=A3 lf.eq_1
 have x14:=A3 lg.eq_1
 have e1:decide (cut≠[])= !decide (cut=[]):=by simp
 have e2:decide (red≠[])= !decide (red=[]):=by simp
 rw [e1,e2,Bool.not_not,Bool.not_not]
 rcases Ak (under x.name o) with h0|h0<;>rw [h0] at hu
 ·have hne:x.name≠[]:=fx (C7.1 h0).1
  have t:=fun p4 p5 p6 p7=>Ih6 o cut red g x N hx hl hne p4 p5 p6 p7
  have eS:Az1 x.name=decide (x.name[0]? =some 42):=rfl
  rw [eS] at t
  generalize hA:(!F0 g 5||Im g [5,46,47])=A at*
  generalize hB:(if (!decide (x.name=o) && F0 g 2)=true then Im g [2,43,47,46,1,28] else !F0 g 43)=B at*
  generalize hC:(!decide (x.name[0]? =some 42)||(!F0 g 2 && !F0 g 39))=C at*
  generalize decide (red=[])=D at*
  generalize (decide (cut=[])||Im g [1,28])=E' at*
  clear hB hC hA
  rcases Ak (F0 g 6) with h6|h6<;>rw [h6] at k6
  ·by_cases hno:x.name=o
   ·replace hno:=eq_true hno
    rcases Ak (Ew4 g) with h1|h1<;>rw [h1] at ku
    ·rcases Ak (F0 g 2) with h2|h2<;>rw [h2] at k2
     ·simp (disch:=omega) only [xt,x18,x17,x16,x15,x14,t,hx,hu,k6,hno,ku,k2,EVC,EVP,↓reduceIte,EV,Nat.reduceAdd,Nat.reduceEqDiff,Int.reduceToNat,reduceCtorEq]
      (clear xt x18 x17 x16 x15 x14 t;simp [*,Bool.and_assoc])
     ·simp (disch:=omega) only [xt,x18,x17,x16,x15,x14,t,hx,hu,k6,hno,ku,k2,EVC,EVP,↓reduceIte,EV,Nat.reduceAdd,Nat.reduceEqDiff,Int.reduceToNat,reduceCtorEq]
      (clear xt x18 x17 x16 x15 x14 t;simp [*])
    ·simp (disch:=omega) only [xt,x18,x17,x16,x15,x14,t,hx,hu,k6,hno,ku,EVC,EVP,↓reduceIte,EV,Nat.reduceAdd,Nat.reduceEqDiff,Int.reduceToNat,reduceCtorEq]
     (clear xt x18 x17 x16 x15 x14 t;simp [*])
   ·simp (disch:=omega) only [xt,x18,x17,x16,x15,x14,t,hx,hu,k6,hno,EVC,EVP,↓reduceIte,EV,Nat.reduceAdd,Nat.reduceEqDiff,Int.reduceToNat,reduceCtorEq]
    (clear xt x18 x17 x16 x15 x14 t;simp [*])
  ·by_cases hno:x.name=o
   ·replace hno:=eq_true hno
    simp (disch:=omega) only [xt,x18,x17,x16,x15,x14,t,hx,hu,k6,hno,EVC,EVP,↓reduceIte,EV,Nat.reduceAdd,Nat.reduceEqDiff,Int.reduceToNat,reduceCtorEq]
    (clear xt x18 x17 x16 x15 x14 t;simp [*])
   ·rcases Ak (Ew4 g) with h1|h1<;>rw [h1] at ku
    ·simp (disch:=omega) only [xt,x18,x17,x16,x15,x14,t,hx,hu,k6,hno,ku,EVC,EVP,↓reduceIte,EV,Nat.reduceAdd,Nat.reduceEqDiff,Int.reduceToNat,reduceCtorEq]
     (clear xt x18 x17 x16 x15 x14 t;simp [*,Bool.and_assoc])
    ·simp (disch:=omega) only [xt,x18,x17,x16,x15,x14,t,hx,hu,k6,hno,ku,EVC,EVP,↓reduceIte,EV,Nat.reduceAdd,Nat.reduceEqDiff,Int.reduceToNat,reduceCtorEq]
     (clear xt x18 x17 x16 x15 x14 t;simp [*])
 ·simp (disch:=omega) only [xt,x18,x17,x16,x15,x14,hx,hu,EVC,EVP,↓reduceIte,EV,Nat.reduceAdd,Nat.reduceEqDiff,Int.reduceToNat,reduceCtorEq]
  (clear xt x18 x17 x16 x15 x14;simp [*])
end Go.X.G
/- Zones in the program: Check and New. -/
namespace Go.X.G
open Go Go.X
def F9 (gs:List (List Rec)):PV:= .l 1 (gs.map Af)
theorem Np (l:List (List Rec)):Gb (F9 l)=some (.i .i64 (l.length:Int)):=by simp [F9,Gb]
theorem Ep (l:List (List Rec)) (k:IntKind) (z:Int) (h:0≤z):Hr 1 (F9 l) (.i k z)=(l[z.toNat]?).map Af:=by simp [F9,ct _ _ _ _ h]
theorem Bp5 (x:List Rec):Jc 1 [Af x]=some (F9 [x]):=rfl
theorem dt (l:List (List Rec)) (x:List Rec) (h:l.length+1≤1073741824):H7 1 (F9 l) (F9 [x])=some (F9 (l++[x])):=by
 have:=Td 1 (l.map Af) [Af x] (by simpa using h)
 simpa [F9] using this
theorem Hq3 {α:Type} (l:List α) (s i:Nat) (c:α) (h:l[i]? =some c) (hs:s≤i):sl l s (i+1)=sl l s i++[c]:=by
 unfold sl
 have hi:=(Aq.1 h).1
 rw [Cv,h,Iw (by rw [Al];omega)]
 rfl
theorem Cq0 (l:List Rec) (hl:l.length≤1000000):S Bl6 1 [Af l]=some [F9 (grp l)]:=by
 obtain ⟨N,hN⟩:∃N,N=l.length+1:=⟨_,rfl⟩
 refine Jt8 (N:=N) rfl ?_
 have key:Fd6.ev S N [Af l]=some (.yld 0 [F9 ([]++Tc (sl l 0 0) l)]):=by
  refine F4 l (fun i (g:List (List Rec)×Nat)=>[F9 g.1, .i .i64 (g.2:Int), .i .i64 (i:Int)]) (fun i g r=> .yld 0 [F9 (g.1++Tc (sl l g.2 i) r)]) (fun i g=>g.2≤i∧g.1.length≤i) ([],0) ?_ (by simp) (by omega) (fun i g c r hd hi hc hI=> ?_) (fun g hI=> ?_)
  ·rfl
  ·left
   obtain ⟨out,st⟩:=g
   obtain ⟨hI1,hI2⟩:=hI
   simp only at hI1 hI2 ⊢
   have hlt:(i:Int)<(l.length:Int):=by omega
   have e1:((i:Int)+1).toNat=i+1:=by omega
   have e2:(i:Int).toNat=i:=by omega
   have e3:(st:Int).toNat=st:=by omega
   have hsl:=Hq3 l st i c hc hI1
   have hsl2:List.drop st (List.take (i+1) l)=sl l st i++[c]:=hsl
   have hsl3:sl l st st=[]:=by unfold sl;rw [List.drop_eq_nil_iff,Al];omega
   have hsl4:sl l (i+1) (i+1)=[]:=by unfold sl;rw [List.drop_eq_nil_iff,Al];omega
   have hr:r=l.drop (i+1):=by
    have:=congrArg List.tail hd
    simpa using this.symm
   by_cases hc2:(match r with|[]=>true|y::_=> !decide (y.name=c.name))=true
   ·refine ⟨(out++[sl l st i++[c]],i+1),?_,⟨by simp,by simp;omega⟩,?_⟩
    ·cases r with
     |nil=>
      have hend:(i:Int)+1=(l.length:Int):=by
       have:=congrArg List.length hr
       simp at this;omega
      simp only
      simp (disch:=omega) only [At1,hlt,hend.symm,e1,e2,e3,hc,hsl2,Bp5,dt,EVC,EVP,↓reduceIte,EV,Nat.reduceAdd,Nat.reduceEqDiff,Int.reduceToNat,reduceCtorEq]
      try (congr 3;omega)
     |cons y r'=>
      have hy:l[i+1]? =some y:=by
       have:=congrArg (fun q=>q[0]?) hr
       simpa [A5] using this.symm
      have hyl:=(Aq.1 hy).1
      have hend:¬(i:Int)+1=(l.length:Int):=by omega
      have hyc:¬y.name=c.name:=by simpa using hc2
      simp only
      simp (disch:=omega) only [At1,hlt,hend,e1,e2,e3,hc,hy,hyc,hsl2,Bp5,dt,EVC,EVP,↓reduceIte,EV,Nat.reduceAdd,Nat.reduceEqDiff,Int.reduceToNat,reduceCtorEq]
      try congr 3
    ·have eg:Tc (sl l st i) (c::r)=(sl l st i++[c])::Tc [] r:=by
      cases r with
      |nil=>rfl
      |cons y r'=>rw [Tc,if_pos hc2]
     simp only [eg,hsl4]
     simp
   ·refine ⟨(out,st),?_,⟨by simp;omega,by simp;omega⟩,?_⟩
    ·cases r with
     |nil=>simp at hc2
     |cons y r'=>
      have hy:l[i+1]? =some y:=by
       have:=congrArg (fun q=>q[0]?) hr
       simpa [A5] using this.symm
      have hyl:=(Aq.1 hy).1
      have hend:¬(i:Int)+1=(l.length:Int):=by omega
      have hyc:y.name=c.name:=by simpa using hc2
      simp only
      simp (disch:=omega) only [At1,hlt,hend,e1,e2,e3,hc,hy,hyc,EVC,EVP,↓reduceIte,EV,Nat.reduceAdd,Nat.reduceEqDiff,Int.reduceToNat,reduceCtorEq]
      try rfl
    ·have eg:Tc (sl l st i) (c::r)=Tc (sl l st i++[c]) r:=by
      cases r with
      |nil=>simp at hc2
      |cons y r'=>rw [Tc,if_neg hc2]
     simp only [eg,hsl]
  ·have hlt:¬(l.length:Int)<(l.length:Int):=by omega
   refine ⟨?_,rfl⟩
   simp (disch:=omega) only [At1,hlt,EVC,EVP,↓reduceIte,EV,Nat.reduceAdd,Nat.reduceEqDiff,Int.reduceToNat,reduceCtorEq]
   simp [Tc]
 have e:[]++Tc (sl l 0 0) l=grp l:=by simp [sl,grp]
 rw [e] at key
 generalize grp l=gs at*
 simp (disch:=omega) only [At1,key,EVC,EVP,↓reduceIte,EV,Nat.reduceAdd,Nat.reduceEqDiff,Int.reduceToNat,reduceCtorEq]
def An9 (o:List UInt8):List (List Rec)→List UInt8→List UInt8→Bool→Option Bool
 |[],_,_,soa=>some soa
 |g::gs,cut,red,soa=>
  if propG o g (decide (Dl (nmG g) cut≠[])) (decide (Dl (nmG g) red≠[]))=true then
   An9 o gs (if Dl (nmG g) cut=[]∧nmG g≠o∧F0 g 2=true then nmG g else Dl (nmG g) cut) (if F0 g 39=true then nmG g else Dl (nmG g) red) (soa||decide (nmG g=o))
  else none
theorem Cw4 (o:List UInt8):∀(gs:List (List Rec)) (cut red:List UInt8) (soa:Bool),j9 o gs cut red soa=decide (An9 o gs cut red soa=some true)
 |[],_,_,soa=>by simp [j9,An9]
 |g::gs,cut,red,soa=>by
  simp only [j9,An9]
  split
  ·exact Cw4 o gs _ _ _
  ·simp
def Jc4:Option Bool→Out
 |some b=> .yld 0 [.b b]
 |none=> .ret [.i .i64 13]
section
variable (z:Zone) (g:List Rec) (gs:List (List Rec)) (x:Rec) (N:Nat) (i:Nat) (cut red:List UInt8) (soa:Bool)
theorem Kl6 (hi:gs[i]? =some g) (hx:g[0]? =some x) (hxl:x.name.length≤9223372036854775807) (hcl:cut.length≤9223372036854775807) (p1 p2 p3 p4 p5:PV):
  ∃p11,Sn.ev S N [z.pv,p1,p2,p3,p4,p5,F9 gs, .s cut, .s red, .b soa, .i .i64 (i:Int)]=Sp.ev S N [z.pv,p1,p2,p3,p4,p5,F9 gs, .s cut, .s red, .b soa, .i .i64 (i:Int),p11, .s (Dl x.name cut)]:=by
 have x17:=A3 Sn.eq_1
 have x16:=A3 lc.eq_1
 have x0:=A3 Dn5.eq_1
 have hu:=G3 x.name cut hxl hcl
 have ei:(i:Int).toNat=i:=by omega
 by_cases h1:cut=[]
 ·refine ⟨.u,?_⟩
  have e:Dl x.name cut=cut:=by unfold Dl;simp [h1]
  rw [e]
  replace h1:=eq_true h1
  simp (disch:=omega) only [x17,x16,x0,h1,hi,hx,ei,Ep,EVC,EVP,↓reduceIte,EV,Nat.reduceAdd,Nat.reduceEqDiff,Int.reduceToNat,reduceCtorEq]
 ·rcases Ak (under x.name cut) with h2|h2<;>rw [h2] at hu
  ·refine ⟨.b true,?_⟩
   have e:Dl x.name cut=cut:=by unfold Dl;simp [h2]
   rw [e]
   simp (disch:=omega) only [x17,x16,x0,h1,hu,hi,hx,ei,Ep,EVC,EVP,↓reduceIte,EV,Nat.reduceAdd,Nat.reduceEqDiff,Int.reduceToNat,reduceCtorEq]
  ·refine ⟨.b false,?_⟩
   have e:Dl x.name cut=[]:=by unfold Dl;simp [h1,h2]
   rw [e]
   simp (disch:=omega) only [x17,x16,x0,h1,hu,hi,hx,ei,Ep,EVC,EVP,↓reduceIte,EV,Nat.reduceAdd,Nat.reduceEqDiff,Int.reduceToNat,reduceCtorEq]
theorem Kl5 (hi:gs[i]? =some g) (hx:g[0]? =some x) (hxl:x.name.length≤9223372036854775807) (hrl:red.length≤9223372036854775807) (p1 p2 p3 p4 p5 p11 p12:PV):
  ∃p13,Sp.ev S N [z.pv,p1,p2,p3,p4,p5,F9 gs, .s cut, .s red, .b soa, .i .i64 (i:Int),p11,p12]=Xp.ev S N [z.pv,p1,p2,p3,p4,p5,F9 gs, .s cut, .s red, .b soa, .i .i64 (i:Int),p11,p12,p13, .s (Dl x.name red)]:=by
 have x15:=A3 Sp.eq_1
 have x14:=A3 lh.eq_1
 have x1:=A3 Dy6.eq_1
 have hu:=G3 x.name red hxl hrl
 have ei:(i:Int).toNat=i:=by omega
 by_cases h1:red=[]
 ·refine ⟨.u,?_⟩
  have e:Dl x.name red=red:=by unfold Dl;simp [h1]
  rw [e]
  replace h1:=eq_true h1
  simp (disch:=omega) only [x15,x14,x1,h1,hi,hx,ei,Ep,EVC,EVP,↓reduceIte,EV,Nat.reduceAdd,Nat.reduceEqDiff,Int.reduceToNat,reduceCtorEq]
 ·rcases Ak (under x.name red) with h2|h2<;>rw [h2] at hu
  ·refine ⟨.b true,?_⟩
   have e:Dl x.name red=red:=by unfold Dl;simp [h2]
   rw [e]
   simp (disch:=omega) only [x15,x14,x1,h1,hu,hi,hx,ei,Ep,EVC,EVP,↓reduceIte,EV,Nat.reduceAdd,Nat.reduceEqDiff,Int.reduceToNat,reduceCtorEq]
  ·refine ⟨.b false,?_⟩
   have e:Dl x.name red=[]:=by unfold Dl;simp [h1,h2]
   rw [e]
   simp (disch:=omega) only [x15,x14,x1,h1,hu,hi,hx,ei,Ep,EVC,EVP,↓reduceIte,EV,Nat.reduceAdd,Nat.reduceEqDiff,Int.reduceToNat,reduceCtorEq]
theorem Kl4 (hi:gs[i]? =some g) (hx:g[0]? =some x) (hnm:nmG g=x.name) (hg:g≠[]) (hl:g.length≤1000000) (hil:i≤1000000) (hxl:x.name.length≤9223372036854775807) (hzl:z.origin.length≤9223372036854775807) (cu re:List UInt8) (p1 p2 p3 p4 p5 p7 p8 p11 p13:PV):
  Xp.ev S N [z.pv,p1,p2,p3,p4,p5,F9 gs,p7,p8, .b soa, .i .i64 (i:Int),p11, .s cu,p13, .s re]=
   some (if propG z.origin g (decide (cu≠[])) (decide (re≠[]))=true then .yld 1 [.s (if cu=[]∧x.name≠z.origin∧F0 g 2=true then x.name else cu), .s (if F0 g 39=true then x.name else re), .b (soa||decide (x.name=z.origin)), .i .i64 ((i:Int)+1)] else .ret [.i .i64 13]):=by
 have hp:=Ay3 z.origin cu re g hg hl hzl (by rw [hnm];exact hxl)
 have k2:=Jl g 2 hl
 have k39:=Jl g 39 hl
 have ei:(i:Int).toNat=i:=by omega
 generalize propG z.origin g (decide (cu≠[])) (decide (re≠[]))=P at*
 cases P
 ·simp (disch:=omega) only [Qn,hp,hi,hx,ei,Ep,EVC,EVP,↓reduceIte,EV,Nat.reduceAdd,Nat.reduceEqDiff,Int.reduceToNat,reduceCtorEq]
  try simp
 ·by_cases h1:cu=[]
  ·by_cases h2:x.name=z.origin
   ·rcases Ak (F0 g 39) with h3|h3<;>rw [h3] at k39
    ·cases soa<;>(have h1':=eq_true h1;have h2':=eq_true h2;simp (disch:=omega) only [Qn,hp,hi,hx,ei,h1',h2',k39,Ep,EVC,EVP,↓reduceIte,EV,Nat.reduceAdd,Nat.reduceEqDiff,Int.reduceToNat,reduceCtorEq];simp [h2,h3])
    ·cases soa<;>(have h1':=eq_true h1;have h2':=eq_true h2;simp (disch:=omega) only [Qn,hp,hi,hx,ei,h1',h2',k39,Ep,EVC,EVP,↓reduceIte,EV,Nat.reduceAdd,Nat.reduceEqDiff,Int.reduceToNat,reduceCtorEq];simp [h2,h3])
   ·rcases Ak (F0 g 2) with h4|h4<;>rw [h4] at k2
    ·rcases Ak (F0 g 39) with h3|h3<;>rw [h3] at k39
     ·cases soa<;>(have h1':=eq_true h1;simp (disch:=omega) only [Qn,hp,hi,hx,ei,h1',h2,k2,k39,Ep,EVC,EVP,↓reduceIte,EV,Nat.reduceAdd,Nat.reduceEqDiff,Int.reduceToNat,reduceCtorEq];simp [h1,h2,h3,h4])
     ·cases soa<;>(have h1':=eq_true h1;simp (disch:=omega) only [Qn,hp,hi,hx,ei,h1',h2,k2,k39,Ep,EVC,EVP,↓reduceIte,EV,Nat.reduceAdd,Nat.reduceEqDiff,Int.reduceToNat,reduceCtorEq];simp [h1,h2,h3,h4])
    ·rcases Ak (F0 g 39) with h3|h3<;>rw [h3] at k39
     ·cases soa<;>(have h1':=eq_true h1;simp (disch:=omega) only [Qn,hp,hi,hx,ei,h1',h2,k2,k39,Ep,EVC,EVP,↓reduceIte,EV,Nat.reduceAdd,Nat.reduceEqDiff,Int.reduceToNat,reduceCtorEq];simp [h2,h3,h4])
     ·cases soa<;>(have h1':=eq_true h1;simp (disch:=omega) only [Qn,hp,hi,hx,ei,h1',h2,k2,k39,Ep,EVC,EVP,↓reduceIte,EV,Nat.reduceAdd,Nat.reduceEqDiff,Int.reduceToNat,reduceCtorEq];simp [h2,h3,h4])
  ·by_cases h2:x.name=z.origin
   ·rcases Ak (F0 g 39) with h3|h3<;>rw [h3] at k39
    ·cases soa<;>(have h2':=eq_true h2;simp (disch:=omega) only [Qn,hp,hi,hx,ei,h1,h2',k39,Ep,EVC,EVP,↓reduceIte,EV,Nat.reduceAdd,Nat.reduceEqDiff,Int.reduceToNat,reduceCtorEq];simp [h1,h2,h3])
    ·cases soa<;>(have h2':=eq_true h2;simp (disch:=omega) only [Qn,hp,hi,hx,ei,h1,h2',k39,Ep,EVC,EVP,↓reduceIte,EV,Nat.reduceAdd,Nat.reduceEqDiff,Int.reduceToNat,reduceCtorEq];simp [h1,h2,h3])
   ·rcases Ak (F0 g 39) with h3|h3<;>rw [h3] at k39
    ·cases soa<;>(simp (disch:=omega) only [Qn,hp,hi,hx,ei,h1,h2,k39,Ep,EVC,EVP,↓reduceIte,EV,Nat.reduceAdd,Nat.reduceEqDiff,Int.reduceToNat,reduceCtorEq];simp [h1,h2,h3])
    ·cases soa<;>(simp (disch:=omega) only [Qn,hp,hi,hx,ei,h1,h2,k39,Ep,EVC,EVP,↓reduceIte,EV,Nat.reduceAdd,Nat.reduceEqDiff,Int.reduceToNat,reduceCtorEq];simp [h1,h2,h3])
end
theorem uj:∀(n:Nat) (l:List Rec),l.length≤n→(∀g∈grp l,g≠[]∧∀x∈g,x∈l)∧(grp l).length≤l.length
 |_,[],_=>by simp [grp,Tc]
 |0,x::r,hn=>by simp at hn
 |n+1,x::r,hn=>by
  obtain ⟨g,l',h1,h2,h3,h4,h5⟩:=Qy x r
  have hlen:=congrArg List.length h1
  have hg0:0<g.length:=Bw.2 h2
  simp only [Az,A0] at hlen hn
  obtain ⟨i1,i2⟩:=uj n l' (by omega)
  rw [h5]
  refine ⟨fun g' hg'=> ?_,by simp;omega⟩
  rcases Ah.1 hg' with rfl|hg'
  ·exact ⟨h2,fun w hw=>by rw [h1];exact Cf _ hw⟩
  ·obtain ⟨j1,j2⟩:=i1 g' hg'
   exact ⟨j1,fun w hw=>by rw [h1];exact Bg _ (j2 w hw)⟩
theorem Cj8 (p:Prop) [Decidable p] (a b:List UInt8) (ha:a.length≤9223372036854775807) (hb:b.length≤9223372036854775807):(if p then a else b).length≤9223372036854775807:=by split<;>assumption
theorem Kh0 (z:Zone) (hz:z.wf) (hl:z.recs.length≤1000000) (N:Nat) (hN:z.recs.length+1<N) (p1 p2 p3 p4 p5:PV):
  Ff8.ev S N [z.pv,p1,p2,p3,p4,p5,F9 (grp z.recs)]=some (Jc4 (An9 z.origin (grp z.recs) [] [] false)):=by
 obtain ⟨gf1,gf2⟩:=uj z.recs.length z.recs (Ac _)
 have hgl:∀g∈grp z.recs,g.length≤1000000:=fun g hg=>by
  have:∀(n:Nat) (l:List Rec),l.length≤n→∀g∈grp l,g.length≤l.length:=by
   intro n
   induction n with
   |zero=>intro l hl g hg;cases l with
    |nil=>simp [grp,Tc] at hg
    |cons x r=>simp at hl
   |succ n ih=>
    intro l hl g hg
    cases l with
    |nil=>simp [grp,Tc] at hg
    |cons x r=>
     obtain ⟨g0,l',h1,h2,h3,h4,h5⟩:=Qy x r
     have hlen:=congrArg List.length h1
     have hg0:0<g0.length:=Bw.2 h2
     simp only [Az,A0] at hlen hl
     rw [h5] at hg
     rcases Ah.1 hg with rfl|hg
     ·simp only [A0];omega
     ·have:=ih l' (by omega) g hg
      simp only [A0];omega
  exact Dy (this _ _ (Ac _) g hg) hl
 generalize grp z.recs=gs at*
 have:=F4 (fn:=S) (N:=N) (η:=[z.pv,p1,p2,p3,p4,p5,F9 gs]) (id:=1) (init:=[.c (.s []), .c (.s []), .c (.b false), .c (.i .i64 0)]) (body:=Vq) gs (fun i (a:List UInt8×List UInt8×Bool)=>[.s a.1, .s a.2.1, .b a.2.2, .i .i64 (i:Int)]) (fun i a r=>Jc4 (An9 z.origin r a.1 a.2.1 a.2.2)) (fun i a=>a.1.length≤9223372036854775807∧a.2.1.length≤9223372036854775807) ([],[],false) ?_ (by simp) (by omega) (fun i a g r hd hi hc hI=> ?_) (fun a hI=> ?_)
 ·exact this
 ·simp (disch:=omega) only [EVC,EVP,↓reduceIte,EV,Nat.reduceAdd,Nat.reduceEqDiff,Int.reduceToNat,reduceCtorEq]
  try rfl
 ·obtain ⟨cut,red,soa⟩:=a
  obtain ⟨hI1,hI2⟩:=hI
  simp only at hI1 hI2 ⊢
  have hgm:=As hc
  obtain ⟨hg,hgz⟩:=gf1 g hgm
  obtain ⟨x,hx,hxm⟩:∃x,g[0]? =some x∧x∈g:=by
   cases g with
   |nil=>exact absurd rfl hg
   |cons x r=>exact ⟨x,rfl, .head _⟩
  have hnm:nmG g=x.name:=by
   cases g with
   |nil=>exact absurd rfl hg
   |cons y r=>simp at hx;rw [←hx];rfl
  have hxl:x.name.length≤9223372036854775807:=(hz.recs.2 x (hgz x hxm)).name
  have hzl:z.origin.length≤9223372036854775807:=hz.origin
  obtain ⟨p11,kA⟩:=Kl6 z g gs x N i cut red soa hc hx hxl hI1 p1 p2 p3 p4 p5
  have hku:(Dl x.name cut).length≤9223372036854775807:=by unfold Dl;split<;>simp [hI1]
  have hkr:(Dl x.name red).length≤9223372036854775807:=by unfold Dl;split<;>simp [hI2]
  obtain ⟨p13,kB⟩:=Kl5 z g gs x N i cut red soa hc hx hxl hI2 p1 p2 p3 p4 p5 p11 (.s (Dl x.name cut))
  have kC:=Kl4 z g gs x N i soa hc hx hnm hg (hgl g hgm) (by omega) hxl hzl (Dl x.name cut) (Dl x.name red) p1 p2 p3 p4 p5 (.s cut) (.s red) p11 p13
  have kall:=kA.trans (kB.trans kC)
  have hlt:(i:Int)<(gs.length:Int):=by omega
  have hb:Vq.ev S N [z.pv,p1,p2,p3,p4,p5,F9 gs, .s cut, .s red, .b soa, .i .i64 (i:Int)]=Sn.ev S N [z.pv,p1,p2,p3,p4,p5,F9 gs, .s cut, .s red, .b soa, .i .i64 (i:Int)]:=by
   have xb:=A3 Vq.eq_1
   simp (disch:=omega) only [xb,hlt,Np,EVC,EVP,↓reduceIte,EV,Nat.reduceAdd,Nat.reduceEqDiff,Int.reduceToNat,reduceCtorEq]
  have hb2:=hb.trans kall
  have estep:An9 z.origin (g::r) cut red soa=if propG z.origin g (decide (Dl x.name cut≠[])) (decide (Dl x.name red≠[]))=true then An9 z.origin r (if Dl x.name cut=[]∧x.name≠z.origin∧F0 g 2=true then x.name else Dl x.name cut) (if F0 g 39=true then x.name else Dl x.name red) (soa||decide (x.name=z.origin)) else none:=by
   simp only [An9,hnm]
  by_cases hP:propG z.origin g (decide (Dl x.name cut≠[])) (decide (Dl x.name red≠[]))=true
  ·left
   rw [if_pos hP] at hb2 estep
   refine ⟨(if Dl x.name cut=[]∧x.name≠z.origin∧F0 g 2=true then x.name else Dl x.name cut,if F0 g 39=true then x.name else Dl x.name red,soa||decide (x.name=z.origin)),hb2,⟨?_,?_⟩,?_⟩
   ·exact Cj8 _ _ _ hxl hku
   ·exact Cj8 _ _ _ hxl hkr
   ·rw [estep]
  ·right
   rw [if_neg hP] at hb2 estep
   rw [estep]
   exact ⟨hb2,rfl⟩
 ·have hlt:¬(gs.length:Int)<(gs.length:Int):=by omega
  have xb:=A3 Vq.eq_1
  refine ⟨?_,rfl⟩
  simp (disch:=omega) only [xb,hlt,Np,EVC,EVP,↓reduceIte,EV,Nat.reduceAdd,Nat.reduceEqDiff,Int.reduceToNat,reduceCtorEq]
  rfl
theorem m8 (z:Zone) (hz:z.wf):checkZ z=if vld z.origin=false then 2 else if 2048<z.recs.length∨Pr z.recs=true then 9 else if z.recs.all L6=false then 5 else if z.recs≠sortR z.recs then 7 else if An9 z.origin (grp z.recs) [] [] false=some true then 0 else 13:=by
 unfold checkZ
 rcases Ak (vld z.origin) with h1|h1
 ·have n1:¬vld z.origin=false:=by simp [h1]
  rw [if_neg n1,if_neg n1]
  by_cases h2:2048<z.recs.length
  ·rw [if_pos h2,if_pos (.inl h2)]
  ·rw [if_neg h2]
   have hcr:=An4 z.recs
   rcases Ak (z.recs.all fun r=>decide ((findR z.recs r.name r.typ).length≤64)) with h3|h3
   ·rw [h3] at hcr
    have hn2:¬(2048<z.recs.length∨Pr z.recs=true):=by
     rintro (q|q)
     ·exact h2 q
     ·rw [hcr] at q;cases q
    have n3:¬(z.recs.all fun r=>decide ((findR z.recs r.name r.typ).length≤64))=false:=by simp only [h3];simp
    rw [if_neg n3,if_neg hn2]
    rcases Ak (z.recs.all L6) with h4|h4
    ·have n4:¬z.recs.all L6=false:=by simp only [h4];simp
     rw [if_neg n4,if_neg n4]
     by_cases h5:z.recs=sortR z.recs
     ·have n5:¬z.recs≠sortR z.recs:=by simpa using h5
      rw [if_neg n5,if_neg n5]
      have hv:∀r∈z.recs,L6 r=true:=By.1 h4
      have hr:z.recs.Pairwise ltR:=by rw [h5];exact (Y9 z.recs hv).1
      have hk:=u9 z (fun r h=>Yh (hv r h)) (Bv9 hr) z.recs.length [] z.recs [] [] false (Ac _) rfl (by simp) ⟨by simp,by simp,by simp,by simp⟩
      rw [Cw4,decide_eq_true_eq] at hk
      have hk2:=Bx2 z hv hr
      have hk3:An9 z.origin (grp z.recs) [] [] false=some true↔(findR z.recs z.origin 6).length=1∧S8 z.recs z.origin 2=true∧∀r∈z.recs,Ky z r=true:=by
       rw [hk,←hk2];simp
      by_cases h6:An9 z.origin (grp z.recs) [] [] false=some true
      ·obtain ⟨a,b,c⟩:=hk3.1 h6
       have c':z.recs.all (Ky z)=true:=By.2 c
       have n7:¬((findR z.recs z.origin 6).length≠1∨S8 z.recs z.origin 2=false):=by simp [a,b]
       have n8:¬z.recs.all (Ky z)=false:=by simp only [c'];simp
       rw [if_pos h6,if_neg n7,if_neg n8]
      ·rw [if_neg h6]
       by_cases h7:(findR z.recs z.origin 6).length≠1∨S8 z.recs z.origin 2=false
       ·rw [if_pos h7]
       ·rw [if_neg h7]
        by_cases h8:z.recs.all (Ky z)=false
        ·rw [if_pos h8]
        ·exfalso
         simp only [not_or,ne_eq,M3,I1] at h7 h8
         exact h6 (hk3.2 ⟨h7.1,h7.2,By.1 h8⟩)
     ·rw [if_pos h5,if_pos h5]
    ·rw [if_pos h4,if_pos h4]
   ·rw [h3] at hcr
    rw [if_pos h3,if_pos (.inr hcr)]
 ·rw [if_pos h1,if_pos h1]
theorem S7 (z:Zone) (hz:z.wf) (hl:z.recs.length≤1000000):S im 1 [z.pv]=some [.i .i64 (checkZ z)]:=by
 obtain ⟨N,hN⟩:∃N,N=z.recs.length+2:=⟨_,rfl⟩
 refine Kq3 (N:=N) rfl ?_
 rw [m8 z hz]
 have hzl:z.origin.length≤9223372036854775807:=hz.origin
 have k1:=B4 z.origin hzl
 have k2:=An3 z.recs hl
 have k3:=H0 z.recs Bl9 [] (fun r=> !L6 r) hl (fun r hr=>by
  refine Kj1 (N:=1) rfl ?_
  have:=Eq7 r (hz.recs.2 r hr)
  simp (disch:=omega) only [Jg9,this,EVC,EVP,↓reduceIte,EV,Nat.reduceAdd,Nat.reduceEqDiff,Int.reduceToNat,reduceCtorEq])
 have e3:(z.recs.any fun r=> !L6 r)= !z.recs.all L6:=by rw [List.not_all_eq_any_not]
 rw [e3] at k3
 have k4:=Ay2 z.recs hz.recs.2 hl
 have hsl:(sortR z.recs).length≤1000000:=by
  obtain ⟨r,h1,h2,_⟩:=J6 Hd9 (by rw [Al6];exact Iv3) z.recs hz.recs.2 hl
  rw [Al6] at h1
  have:=Sg eqF r
  rw [Wj h1] at this
  omega
 have k5:=Ev8 z.recs (sortR z.recs) hl hsl
 have k6:=Cq0 z.recs hl
 have k7:=fun p1 p2 p3 p4 p5=>Kh0 z hz hl N (by omega) p1 p2 p3 p4 p5
 have xt:=A3 Bk6.eq_1
 have x28:=A3 kw.eq_1
 have x27:=A3 kx.eq_1
 have x26:=A3 ky.eq_1
 have x25:=A3 kz.eq_1
 have x24:=A3 kf.eq_1
 have x23:=A3 kg.eq_1
 have x22:=A3 km.eq_1
 have x21:=A3 kt.eq_1
 have x20:=A3 lj.eq_1
 have x19:=A3 lk.eq_1
 have x18:=A3 lv.eq_1
 rcases Ak (vld z.origin) with h1|h1
 ·have n1:¬vld z.origin=false:=by simp [h1]
  rw [if_neg n1]
  rw [h1] at k1
  by_cases h2:2048<z.recs.length
  ·rw [if_pos (.inl h2)]
   have h2':(2048:Int)<(z.recs.length:Int):=by omega
   simp (disch:=omega) only [xt,x28,x27,x26,k1,h2',EVC,EVP,↓reduceIte,EV,Nat.reduceAdd,Nat.reduceEqDiff,Int.reduceToNat,reduceCtorEq]
  ·have h2':¬(2048:Int)<(z.recs.length:Int):=by omega
   rcases Ak (Pr z.recs) with h3|h3<;>rw [h3] at k2
   ·rw [if_pos (.inr h3)]
    simp (disch:=omega) only [xt,x28,x27,x26,k1,k2,h2',EVC,EVP,↓reduceIte,EV,Nat.reduceAdd,Nat.reduceEqDiff,Int.reduceToNat,reduceCtorEq]
   ·have n2:¬(2048<z.recs.length∨Pr z.recs=true):=by simp only [h2,h3];simp
    rw [if_neg n2]
    rcases Ak (z.recs.all L6) with h4|h4<;>rw [h4] at k3
    ·have n4:¬z.recs.all L6=false:=by simp only [h4];simp
     rw [if_neg n4]
     by_cases h5:z.recs=sortR z.recs
     ·have n5:¬z.recs≠sortR z.recs:=by simpa using h5
      rw [if_neg n5]
      have e5:decide (z.recs=sortR z.recs)=true:=decide_eq_true h5
      rw [e5] at k5
      clear h5 e5
      generalize sortR z.recs=sr at*
      cases h6:An9 z.origin (grp z.recs) [] [] false with
      |none=>
       rw [h6] at k7
       simp only [Jc4] at k7
       generalize grp z.recs=gs at*
       rw [if_neg (by simp)]
       simp (disch:=omega) only [xt,x28,x27,x26,x25,x24,x23,x22,x21,x20,x19,x18,k1,k2,h2',k3,k4,k5,k6,k7,Np,EVC,EVP,↓reduceIte,EV,Nat.reduceAdd,Nat.reduceEqDiff,Int.reduceToNat,reduceCtorEq]
      |some b=>
       rw [h6] at k7
       simp only [Jc4] at k7
       generalize grp z.recs=gs at*
       cases b
       ·rw [if_neg (by simp)]
        simp (disch:=omega) only [xt,x28,x27,x26,x25,x24,x23,x22,x21,x20,x19,x18,k1,k2,h2',k3,k4,k5,k6,k7,Np,EVC,EVP,↓reduceIte,EV,Nat.reduceAdd,Nat.reduceEqDiff,Int.reduceToNat,reduceCtorEq]
       ·rw [if_pos rfl]
        simp (disch:=omega) only [xt,x28,x27,x26,x25,x24,x23,x22,x21,x20,x19,x18,k1,k2,h2',k3,k4,k5,k6,k7,Np,EVC,EVP,↓reduceIte,EV,Nat.reduceAdd,Nat.reduceEqDiff,Int.reduceToNat,reduceCtorEq]
     ·rw [if_pos h5]
      have e5:decide (z.recs=sortR z.recs)=false:=decide_eq_false h5
      rw [e5] at k5
      clear h5 e5
      generalize sortR z.recs=sr at*
      simp (disch:=omega) only [xt,x28,x27,x26,x25,x24,x23,x22,x21,k1,k2,h2',k3,k4,k5,EVC,EVP,↓reduceIte,EV,Nat.reduceAdd,Nat.reduceEqDiff,Int.reduceToNat,reduceCtorEq]
    ·rw [if_pos h4]
     simp (disch:=omega) only [xt,x28,x27,x26,x25,x24,k1,k2,h2',k3,EVC,EVP,↓reduceIte,EV,Nat.reduceAdd,Nat.reduceEqDiff,Int.reduceToNat,reduceCtorEq]
     try simp
 ·rw [if_pos h1]
  rw [h1] at k1
  simp (disch:=omega) only [xt,x28,k1,EVC,EVP,↓reduceIte,EV,Nat.reduceAdd,Nat.reduceEqDiff,Int.reduceToNat,reduceCtorEq]
theorem Nx (l:List Rec) (hw:∀r∈l,r.wf) (hl:l.length≤1000000):(sortR l).length≤l.length:=by
 obtain ⟨r,h1,h2,_⟩:=J6 Hd9 (by rw [Al6];exact Iv3) l hw hl
 rw [Al6] at h1
 have:=Sg eqF r
 rw [Wj h1] at this
 omega
end Go.X.G
/- Delegations and names of a zone, as the reference finds them; what exists. -/
namespace Go.X.G
open Go Go.X
def Ck6 (x:List UInt8):List (List UInt8)→List (List UInt8)
 |[]=>[x]
 |y::r=>if Ig y x<0 then y::Ck6 x r else if y=x then y::r else x::y::r
theorem insN_mem (x z:List UInt8):∀(l:List (List UInt8)),z∈Ck6 x l↔z=x∨z∈l
 |[]=>by simp [Ck6]
 |y::r=>by
  have ih:=insN_mem x z r
  simp only [Ck6]
  split
  ·simp only [Ah,ih];grind
  ·split
   ·rename_i h;subst h;simp only [Ah];grind
   ·simp only [Ah]
theorem Sk (x:List UInt8):∀(l:List (List UInt8)),l.Pairwise ltN→(Ck6 x l).Pairwise ltN
 |[],_=>by simp [Ck6]
 |y::r,h=>by
  obtain ⟨h1,h2⟩:=Ar.1 h
  have ih:=Sk x r h2
  simp only [Ck6]
  by_cases c:Ig y x<0
  ·rw [if_pos c]
   refine Ar.2 ⟨fun w hw=> ?_,ih⟩
   rcases (insN_mem x w r).1 hw with rfl|hw
   ·exact (Er _ _).1 c
   ·exact h1 w hw
  ·rw [if_neg c]
   by_cases e:y=x
   ·rw [if_pos e];exact h
   ·rw [if_neg e]
    have hxy:ltN x y:=by
     rcases to_N.tri x y with q|q|q
     ·exact q
     ·exact absurd q.symm e
     ·exact absurd ((Er _ _).2 q) c
    refine Ar.2 ⟨fun w hw=> ?_,h⟩
    rcases Ah.1 hw with rfl|hw
    ·exact hxy
    ·exact to_N.tr _ _ _ hxy (h1 w hw)
def Fb5 (l:List (List UInt8)):List (List UInt8):=l.foldl (fun a x=>Ck6 x a) []
theorem Z2 (l:List (List UInt8)):Fb5 l=setN l:=by
 have:∀(l a:List (List UInt8)),a.Pairwise ltN→(l.foldl (fun a x=>Ck6 x a) a).Pairwise ltN∧∀z,z∈l.foldl (fun a x=>Ck6 x a) a↔z∈a∨z∈l:=by
  intro l
  induction l with
  |nil=>intro a h;exact ⟨h,fun z=>by simp⟩
  |cons x r ih=>
   intro a h
   obtain ⟨h1,h2⟩:=ih (Ck6 x a) (Sk x a h)
   refine ⟨h1,fun z=> ?_⟩
   rw [List.foldl_cons,h2,insN_mem,Ah]
   grind
 obtain ⟨h1,h2⟩:=this l [] List.Pairwise.nil
 exact Rk to_N _ _ h1 (Mf l) fun x=>by
  rw [Jr]
  rw [Fb5,h2 x]
  simp
end Go.X.G
/- What exists in a zone, and what encloses a name; names with another end. -/
namespace Go.X.G
open Go Go.X
def exB (z:Zone) (x:List UInt8):Bool:=z.recs.any fun r=>under r.name z.origin && !et z r.name && under r.name x && under x z.origin
theorem Jw0 (z:Zone) (x:List UInt8):exB z x=true↔Fg1 z x:=by
 unfold exB Fg1
 simp only [B7,Av,A9,and_assoc]
theorem Cq8 (z:Zone) (x:List UInt8):decide (x∈namesN z)=exB z x:=by
 rw [Ch,Jw0,←Ag0]
 simp
theorem Uq (z:Zone) (hl:z.recs.length≤1000):(namesN z).length≤1000000:=by
 have h1:=Wx (Hs2 z)
 have h2:∀l:List Rec,(l.flatMap fun r=>upN z.origin r.name).length≤256*l.length:=by
  intro l
  induction l with
  |nil=>simp
  |cons x r ih=>
   have:=fp z.origin x.name
   rw [Gn,Az,A0];omega
 have h3:=h2 (z.recs.filter fun r=>under r.name z.origin && !et z r.name)
 have h4:=Ef (fun r=>under r.name z.origin && !et z r.name) z.recs
 show (setN (Hs2 z)).length≤1000000
 unfold Hs2 at h1 ⊢
 omega
theorem Tl (z:Zone) (n:List UInt8) (hz:z.wf) (hl:z.recs.length≤1000):S Al0 2 [z.pv, .s n]=some [.b (exB z n)]:=by
 refine Kk1 (N:=1) rfl ?_
 have k1:=Qh z hz hl
 have k2:=P2 (namesN z) n (Uq z hl)
 rw [Cq8] at k2
 generalize namesN z=nz at*
 simp (disch:=omega) only [Jh3,k1,k2,EVM,EVC,EVP,↓reduceIte,EV,Nat.reduceAdd,Nat.reduceEqDiff,Int.reduceToNat,reduceCtorEq]
def Jy4 (z:Zone) (n:List UInt8):Option (List UInt8):=(upN z.origin n).find? (exB z)
def Jy5 (z:Zone) (n:List UInt8):List UInt8:=if under n z.origin=true then (Jy4 z n).getD [] else []
theorem Iq8 {n:List UInt8} (h:vld n=true):n≠[]:=fun e=>by subst e;simp [vld,nm] at h
theorem Cv2 {z:Zone} {n e:List UInt8} (hu:under n z.origin=true) (h:Jy4 z n=some e):under n e=true∧exB z e=true:=by
 unfold Jy4 at h
 have h1:=List.mem_of_find?_eq_some h
 have h2:=List.find?_some h
 exact ⟨((Qs hu).1 h1).1,h2⟩
theorem Pv (z:Zone) (n:List UInt8) (hz:z.wf) (hl:z.recs.length≤1000) (hn:n.length≤9223372036854775807):S Al2 2 [z.pv, .s n]=some [.s (Jy5 z n), .b (decide (Jy5 z n≠[]))]:=by
 refine Kk4 (N:=1000) rfl ?_
 have g1:=hz.origin
 unfold L9 at g1
 have k0:=G3 n z.origin hn g1
 unfold Jy5
 rcases Ak (under n z.origin) with hu|hu
 ·rw [if_pos hu]
  rw [hu] at k0
  have k1:=Qh z hz hl
  have hnl:=Uq z hl
  have k2:∀x,S iy 2 [Bv (namesN z), .s x]=some [.b (exB z x)]:=fun x=>by rw [←Cq8];exact P2 (namesN z) x hnl
  generalize namesN z=nz at*
  obtain ⟨v1,v2,_⟩:=C7.1 hu
  have hlb:=Gs n
  have h0:jn ((lbl n).drop 0)=n:=Cj5 v1
  let res:Option (List UInt8)→Out:=fun o=>match o with|some e=> .yld 0 [.s e]|none=> .ret [.s [], .b false]
  have key:Ff4.ev S 1000 [z.pv, .s n, .b true,Bv nz]=some (res (Jy4 z n)):=by
   have:=En (fn:=S) (N:=1000) (η:=[z.pv, .s n, .b true,Bv nz]) (id:=1) (init:=[(.v 1)]) (body:=Ej7) ((lbl n).length - (lbl z.origin).length)
    (fun k=>[.s (jn ((lbl n).drop k))]) (fun k=>res (((upN z.origin n).drop k).find? (exB z))) ?_ (by omega) (fun k hk=> ?_) ?_
   ·exact this
   ·rw [h0]
    simp (disch:=omega) only [EVM,EVC,EVP,↓reduceIte,EV,Nat.reduceAdd,Nat.reduceEqDiff,Int.reduceToNat,reduceCtorEq]
   ·have hup:(upN z.origin n)[k]? =some (jn ((lbl n).drop k)):=V6 (Nat.le_of_lt hk)
    have hd:(upN z.origin n).drop k=jn ((lbl n).drop k)::(upN z.origin n).drop (k+1):=by
     obtain ⟨h1,h2⟩:=Aq.1 hup
     rw [B0 h1,h2]
    obtain ⟨q1,q2⟩:=Fy1 hu hk
    have q3:¬jn ((lbl n).drop k)=z.origin:=fun h=>by have:=(nr hu (Nat.le_of_lt hk)).1 h;omega
    have q4:=Fg0 v1 k
    have k1:=Vz (jn ((lbl n).drop k)) (by omega)
    rw [q1,q2] at k1
    have k3:=k2 (jn ((lbl n).drop k))
    rw [hd]
    generalize jn ((lbl n).drop (k+1))=nx at*
    generalize jn ((lbl n).drop k)=cu at*
    rcases Ak (exB z cu) with h5|h5
    ·right
     rw [h5] at k3
     rw [List.find?_cons_of_pos h5]
     refine ⟨?_,rfl⟩
     simp (disch:=omega) only [fg,k3,EVM,EVC,EVP,↓reduceIte,EV,Nat.reduceAdd,Nat.reduceEqDiff,Int.reduceToNat,reduceCtorEq]
     rfl
    ·left
     rw [h5] at k3
     rw [List.find?_cons_of_neg (by simp [h5])]
     refine ⟨?_,rfl⟩
     simp (disch:=omega) only [fg,k1,k3,q3,EVM,EVC,EVP,↓reduceIte,EV,Nat.reduceAdd,Nat.reduceEqDiff,Int.reduceToNat,reduceCtorEq]
   ·have hup:(upN z.origin n)[(lbl n).length - (lbl z.origin).length]? =some (jn ((lbl n).drop ((lbl n).length - (lbl z.origin).length))):=V6 (Ac _)
    have hd:(upN z.origin n).drop ((lbl n).length - (lbl z.origin).length)=[jn ((lbl n).drop ((lbl n).length - (lbl z.origin).length))]:=by
     obtain ⟨h1,h2⟩:=Aq.1 hup
     have h9:(upN z.origin n).drop ((lbl n).length - (lbl z.origin).length+1)=[]:=Vg (by simp [upN])
     rw [B0 h1,h2,h9]
    have q3:=(nr hu (Ac _)).2 rfl
    rw [hd,q3]
    have k3:=k2 z.origin
    rcases Ak (exB z z.origin) with h5|h5
    ·rw [h5] at k3
     rw [List.find?_cons_of_pos h5]
     refine ⟨?_,rfl⟩
     simp (disch:=omega) only [fg,k3,EVM,EVC,EVP,↓reduceIte,EV,Nat.reduceAdd,Nat.reduceEqDiff,Int.reduceToNat,reduceCtorEq]
     rfl
    ·rw [h5] at k3
     rw [List.find?_cons_of_neg (by simp [h5]),List.find?_nil]
     refine ⟨?_,rfl⟩
     simp (disch:=omega) only [fg,k3,EVM,EVC,EVP,↓reduceIte,EV,Nat.reduceAdd,Nat.reduceEqDiff,Int.reduceToNat,reduceCtorEq]
     rfl
  cases he:Jy4 z n with
  |none=>
   rw [he] at key
   simp only [res] at key
   simp (disch:=omega) only [fg,k0,k1,key,EVM,EVC,EVP,↓reduceIte,EV,Nat.reduceAdd,Nat.reduceEqDiff,Int.reduceToNat,reduceCtorEq]
   simp
  |some e=>
   rw [he] at key
   simp only [res] at key
   have h6:=Iq8 (C7.1 (Cv2 hu he).1).2.1
   simp (disch:=omega) only [fg,k0,k1,key,EVM,EVC,EVP,↓reduceIte,EV,Nat.reduceAdd,Nat.reduceEqDiff,Int.reduceToNat,reduceCtorEq]
   simp [h6]
 ·rw [if_neg (by simp [hu])]
  rw [hu] at k0
  simp (disch:=omega) only [fg,k0,EVM,EVC,EVP,↓reduceIte,EV,Nat.reduceAdd,Nat.reduceEqDiff,Int.reduceToNat,reduceCtorEq]
  try simp
end Go.X.G
/- The law LookupSoas. -/
namespace Go.X.G
open Go Go.X
theorem Mb (z:Zone) (n:List UInt8) (t:Int) (hl:z.recs.length≤1000000):S il 3 [z.pv, .s n, .i .i64 t]=some [Af (findR z.recs n t)]:=by
 refine Kk6 (N:=1) rfl ?_
 simp (disch:=omega) only [Jh4,Fw5,EVP,↓reduceIte,EV,Nat.reduceAdd,Nat.reduceEqDiff,Int.reduceToNat,reduceCtorEq]
def zero:Dat:=⟨false,0,0,[],[],[],0,0,0,0,0,0,0⟩
end Go.X.G
/- The laws of zones: what they call. -/
namespace Go.X.G
open Go Go.X
theorem Hd (o:List UInt8) (l:List Rec):PV.a [.s o,Af l]=Zone.pv ⟨o,l⟩:=rfl
theorem uy (z:Zone):(⟨z.origin,z.recs⟩:Zone)=z:=rfl
def c3 (s:List UInt8):List UInt8:=s.take 300
def Jf (r:Rec):Rec:=⟨c3 r.name,r.typ,r.ttl,{r.data with host:=c3 r.data.host,mail:=c3 r.data.mail,text:=c3 r.data.text}⟩
def smallZ (z:Zone):Zone:=⟨c3 z.origin,(z.recs.take 70).map Jf⟩
theorem Gw0 (s:List UInt8):(c3 s).length≤300:=by unfold c3;rw [Al];omega
theorem Cv6 {r:Rec} (h:r.wf):(Jf r).wf:=by
 have hs:∀s:List UInt8,L9 (c3 s):=fun s=>by have:=Gw0 s;unfold L9;omega
 exact ⟨hs _,h.typ,h.ttl,⟨h.data.hi,h.data.lo,hs _,hs _,hs _,h.data.a,h.data.b,h.data.c,h.data.d,h.data.e,h.data.f,h.data.bits⟩⟩
theorem Bq5 {z:Zone} (h:z.wf):(smallZ z).wf:=by
 refine ⟨by have:=Gw0 z.origin;unfold smallZ L9;simp only;omega,by simp [smallZ];omega,fun r hr=> ?_⟩
 simp only [smallZ,D3] at hr
 obtain ⟨x,hx,rfl⟩:=hr
 exact Cv6 (h.recs.2 x (E4 hx))
theorem Az3 (z:Zone):(smallZ z).recs.length≤70:=by simp [smallZ];omega
theorem Y6 (s:List UInt8) (hs:s.length≤9223372036854775807):Y7 (.s s) (.i .i64 0) (.i .i64 (if (300:Int)<(s.length:Int) then 300 else (s.length:Int)))=some (.s (c3 s)):=by
 unfold c3
 by_cases h:(300:Int)<(s.length:Int)
 ·rw [if_pos h]
  have h1:(0:Int)≤0∧(0:Int)≤300∧(300:Int)≤(s.length:Int):=by omega
  simp only [Y7,h1,and_self,if_true]
  rfl
 ·rw [if_neg h]
  have h1:(0:Int)≤0∧(0:Int)≤(s.length:Int)∧(s.length:Int)≤(s.length:Int):=by omega
  simp only [Y7,h1,and_self,if_true,I0,C2]
  rw [C3 (by omega)]
  rfl
theorem Im6 (n:Int):Es5 (.i .i64 n) (.i .i64 300)=some (.i .i64 (if (300:Int)<n then 300 else n)):=by simp [Es5]
theorem Fw3 (z:Zone) (hz:z.wf):S Bn7 1 [z.pv]=some [(smallZ z).pv]:=by
 obtain ⟨N,hN⟩:∃N:Nat,N=72:=⟨_,rfl⟩
 refine Kq6 (N:=N) rfl ?_
 have hzl:z.origin.length≤9223372036854775807:=hz.origin
 have hrl:=hz.recs.1
 have key:Ff9.ev S N [z.pv]=some (.yld 0 [Af ((z.recs.take 70).map Jf)]):=by
  have hm:(z.recs.take 70).length≤70:=by simp;omega
  refine Dw (z.recs.take 70) (fun i=>[Af ((z.recs.take i).map Jf), .i .i64 (i:Int)]) (fun i r=> .yld 0 [Af ((z.recs.take 70).map Jf)]) rfl (by omega) (fun i c r hd hi hc=> ?_) ?_
  ·left
   refine ⟨?_,rfl⟩
   have hi70:i<70:=by omega
   have hc':z.recs[i]? =some c:=by rw [←hc,List.getElem?_take_of_lt hi70]
   have hil:=(Aq.1 hc').1
   have hcw:=hz.recs.2 c (As hc')
   have e:(z.recs.take (i+1)).map Jf=(z.recs.take i).map Jf++[Jf c]:=by rw [Cv,hc'];simp
   have hlen:((z.recs.take i).map Jf).length=i:=by rw [F2,Al];omega
   have s1:=Y6 c.name hcw.name
   have s2:=Y6 c.data.host hcw.data.host
   have s3:=Y6 c.data.mail hcw.data.mail
   have s4:=Y6 c.data.text hcw.data.text
   have h1:(i:Int)<(z.recs.length:Int):=by omega
   have h2:(i:Int)<70:=by omega
   have ei:(i:Int).toNat=i:=by omega
   rw [e]
   generalize (z.recs.take i).map Jf=a at*
   simp (disch:=omega) only [Ex7,h1,h2,ei,hc',Im6,s1,s2,s3,s4,EVC,EVP,↓reduceIte,EV,Nat.reduceAdd,Nat.reduceEqDiff,Int.reduceToNat,reduceCtorEq]
   rfl
  ·refine ⟨?_,rfl⟩
   have e:z.recs.take (z.recs.take 70).length=z.recs.take 70:=by
    rw [Al]
    by_cases h:z.recs.length≤70
    ·rw [Nat.min_eq_right h,C2,C3 h]
    ·rw [Mt (by omega)]
   have hlen:((z.recs.take 70).length:Int)=if 70<z.recs.length then 70 else (z.recs.length:Int):=by
    rw [Al];split<;>omega
   rw [e,hlen]
   by_cases h:70<z.recs.length
   ·rw [if_pos h]
    have h1:(70:Int)<(z.recs.length:Int):=by omega
    generalize (z.recs.take 70).map Jf=a at*
    simp (disch:=omega) only [Ex7,h1,EVC,EVP,↓reduceIte,EV,Nat.reduceAdd,Nat.reduceEqDiff,Int.reduceToNat,reduceCtorEq]
   ·rw [if_neg h]
    have h1:¬(z.recs.length:Int)<(z.recs.length:Int):=by omega
    generalize (z.recs.take 70).map Jf=a at*
    simp (disch:=omega) only [Ex7,h1,EVC,EVP,↓reduceIte,EV,Nat.reduceAdd,Nat.reduceEqDiff,Int.reduceToNat,reduceCtorEq]
 have s0:=Y6 z.origin hzl
 unfold smallZ
 generalize (z.recs.take 70).map Jf=a at*
 simp (disch:=omega) only [Ex7,key,Im6,s0,Hd,EVC,EVP,↓reduceIte,EV,Nat.reduceAdd,Nat.reduceEqDiff,Int.reduceToNat,reduceCtorEq]
theorem Bv5 (a b:Zone) (ha:a.recs.length≤1000000):S Bn4 2 [a.pv,b.pv]=some [.b (decide (a=b))]:=by
 refine Kq1 (N:=1) rfl ?_
 have k:=Lx a.recs b.recs ha
 by_cases h1:a.origin=b.origin
 ·have e:decide (a=b)=decide (a.recs=b.recs):=by
   rw [Ch,decide_eq_true_eq,decide_eq_true_eq]
   exact ⟨fun h=>by rw [h],fun h=>by cases a;cases b;simp only at h h1;rw [h,h1]⟩
  rw [e]
  simp (disch:=omega) only [Ht2,k,h1,EVC,EVP,↓reduceIte,EV,Nat.reduceAdd,Nat.reduceEqDiff,Int.reduceToNat,reduceCtorEq]
 ·have e:decide (a=b)=false:=decide_eq_false fun h=>h1 (by rw [h])
  rw [e]
  simp (disch:=omega) only [Ht2,h1,EVC,EVP,↓reduceIte,EV,Nat.reduceAdd,Nat.reduceEqDiff,Int.reduceToNat,reduceCtorEq]
def newZ (o:List UInt8) (l:List Rec):Zone:=if checkZ ⟨o,sortR l⟩=0 then ⟨o,sortR l⟩ else ⟨[],[]⟩
theorem El8 {l:List Rec} (h:∀r∈l,r.wf):∀r∈sortR l,r.wf:=fun r hr=>h r (((T2 l).2 r).1 hr).mem
theorem Wk {o:List UInt8} {l:List Rec} (ho:L9 o) (hl:l.length≤1000000) (hw:∀r∈l,r.wf):(⟨o,sortR l⟩:Zone).wf:=by
 have:=Nx l hw hl
 exact ⟨ho,by simp only;omega,El8 hw⟩
theorem ml (o:List UInt8) (l:List Rec) (ho:L9 o) (hl:l.length≤1000000) (hw:∀r∈l,r.wf):S ir 2 [.s o,Af l]=some [(newZ o l).pv, .i .i64 (checkZ ⟨o,sortR l⟩)]:=by
 refine Kq5 (N:=1) rfl ?_
 have k1:=Ay2 l hw hl
 have hlen:=Nx l hw hl
 have k2:=S7 ⟨o,sortR l⟩ (Wk ho hl hw) (by simp only;omega)
 unfold newZ
 generalize sortR l=s at*
 by_cases h:checkZ ⟨o,s⟩=0
 ·rw [if_pos h]
  rw [h] at k2 ⊢
  simp (disch:=omega) only [Ij8,k1,k2,Hd,EVC,EVP,↓reduceIte,EV,Nat.reduceAdd,Nat.reduceEqDiff,Int.reduceToNat,reduceCtorEq]
 ·rw [if_neg h]
  simp (disch:=omega) only [Ij8,k1,k2,h,Hd,EVC,EVP,↓reduceIte,EV,Nat.reduceAdd,Nat.reduceEqDiff,Int.reduceToNat,reduceCtorEq]
theorem Hr6 (o:List UInt8) (l:List Rec) (ho:L9 o) (hl:l.length≤1000000) (hw:∀r∈l,r.wf):S Bn6 2 [.s o,Af l]=some [(newZ o l).pv, .i .i64 (checkZ ⟨o,sortR l⟩)]:=by
 refine Kq4 (N:=1) rfl ?_
 have k1:=Oj l hw hl
 have hlen:=Nx l hw hl
 have k2:=Vb ⟨o,sortR l⟩ (Wk ho hl hw)
 unfold newZ
 generalize sortR l=s at*
 by_cases h:checkZ ⟨o,s⟩=0
 ·rw [if_pos h]
  rw [h] at k2 ⊢
  simp (disch:=omega) only [Ij4,k1,k2,Hd,EVC,EVP,↓reduceIte,EV,Nat.reduceAdd,Nat.reduceEqDiff,Int.reduceToNat,reduceCtorEq]
 ·rw [if_neg h]
  simp (disch:=omega) only [Ij4,k1,k2,h,Hd,EVC,EVP,↓reduceIte,EV,Nat.reduceAdd,Nat.reduceEqDiff,Int.reduceToNat,reduceCtorEq]
end Go.X.G
/- The laws of zones: serial numbers, addresses of hosts, the chapter's example. -/
namespace Go.X.G
open Go Go.X
def Hq1 (z:Zone) (r:Rec):Bool:=decide (r.typ=6) && decide (r.name=z.origin)
theorem Zj (z:Zone) (r:Rec):S Up 1 [r.pv,z.pv]=some [.b (Hq1 z r)]:=by
 refine If9 (N:=1) rfl ?_
 unfold Hq1
 by_cases h:r.typ=6
 ·simp (disch:=omega) only [Fy0,h,EVC,EVP,↓reduceIte,EV,Nat.reduceAdd,Nat.reduceEqDiff,Int.reduceToNat,reduceCtorEq]
  try simp
 ·simp (disch:=omega) only [Fy0,h,EVC,EVP,↓reduceIte,EV,Nat.reduceAdd,Nat.reduceEqDiff,Int.reduceToNat,reduceCtorEq]
  try simp
theorem gx (z:Zone) (hl:z.recs.length≤1000000):S Ah2 1 [z.pv]=some [.i .i64 (ixG (Hq1 z) 0 z.recs)]:=by
 refine Js6 (N:=1) rfl ?_
 have h:=Tg z.recs Up [z.pv] (Hq1 z) hl (fun r _=>Zj z r)
 simp (disch:=omega) only [Jg1,Hd,uy,h,EVC,EVP,↓reduceIte,EV,Nat.reduceAdd,Nat.reduceEqDiff,Int.reduceToNat,reduceCtorEq]
theorem Az2 (z:Zone):findR z.recs z.origin 6=z.recs.filter (Hq1 z):=by
 unfold findR
 congr 1
 funext r
 unfold isK Hq1
 rw [Bool.and_comm]
def Jn5 (z:Zone):Int:=match findR z.recs z.origin 6 with
 |[]=>0
 |r::_=>r.data.a
theorem ix_find (p:Rec→Bool) (l:List Rec):(ixG p 0 l= -1∧l.filter p=[])∨∃(j:Nat) (x:Rec) (r:List Rec),ixG p 0 l=(j:Int)∧l[j]? =some x∧p x=true∧l.filter p=x::r:=by
 have h:=jy p l 0
 by_cases hn:0≤ixG p 0 l
 ·right
  obtain ⟨j,g1,g2,g3,x,g4,g5⟩:=cp p l 0 hn
  have hd:l=l.take j++x::l.drop (j+1):=by
   have:=B0 g2
   have e:l[j]=x:=by rw [Ax g2] at g4;injection g4
   rw [e] at this
   rw [←this,Bl]
  refine ⟨j,x,(l.drop (j+1)).filter p,by rw [g1];simp,g4,g5,?_⟩
  conv=>lhs;rw [hd]
  rw [E5,D6 g5]
  have:(l.take j).filter p=[]:=Ex.2 fun y hy=>by simp [g3 y hy]
  rw [this,Cd]
 ·left
  refine ⟨by omega,Ex.2 fun y hy=> ?_⟩
  intro hp
  exact hn (h.1.2 (B7.2 ⟨y,hy,hp⟩))
theorem Ar1 (z:Zone) (hl:z.recs.length≤1000000):S Bn1 1 [z.pv]=some [.i .i64 (Jn5 z)]:=by
 refine Kk8 (N:=1) rfl ?_
 have h:=gx z hl
 unfold Jn5
 rw [Az2]
 rcases ix_find (Hq1 z) z.recs with ⟨h1,h2⟩|⟨j,x,r,h1,h2,h3,h4⟩
 ·rw [h1] at h
  rw [h2]
  simp (disch:=omega) only [Hs9,h,EVC,EVP,↓reduceIte,EV,Nat.reduceAdd,Nat.reduceEqDiff,Int.reduceToNat,reduceCtorEq]
 ·rw [h1] at h
  rw [h4]
  have hj:(0:Int)≤(j:Int):=by omega
  have ej:(j:Int).toNat=j:=by omega
  simp (disch:=omega) only [Hs9,h,hj,ej,h2,EVC,EVP,↓reduceIte,EV,Nat.reduceAdd,Nat.reduceEqDiff,Int.reduceToNat,reduceCtorEq]
theorem Ap9 (z:Zone) (s:Int) (h:inB s 4294967295=false):S Bn2 2 [z.pv, .i .i64 s]=some [Zone.pv ⟨[],[]⟩, .i .i64 14]:=by
 refine Kk9 (N:=1) rfl ?_
 have k1:=Cn s
 rw [h] at k1
 simp (disch:=omega) only [Jh5,k1,Hd,EVC,EVP,↓reduceIte,EV,Nat.reduceAdd,Nat.reduceEqDiff,Int.reduceToNat,reduceCtorEq]
def Cq2 (z:Zone) (h:List UInt8):List Rec:=if Fq4 z h≠[] then findR z.recs h 1++findR z.recs h 28 else []
def glueN (z:Zone) (hs:List (List UInt8)):List Rec:=hs.flatMap (Cq2 z)
theorem Cq1 (z:Zone) (h:List UInt8):(Cq2 z h).length≤2*z.recs.length:=by
 unfold Cq2 findR
 split
 ·rw [Az]
  have h1:=Ef (isK h 1) z.recs
  have h2:=Ef (isK h 28) z.recs
  omega
 ·simp
theorem c7 (z:Zone):∀hs:List (List UInt8),(glueN z hs).length≤2*z.recs.length*hs.length
 |[]=>by simp [glueN]
 |h::hs=>by
  have h1:=Cq1 z h
  have h2:=c7 z hs
  simp only [glueN,Gn,Az,A0] at h2 ⊢
  rw [Nat.mul_add,Ar6];omega
theorem Fw4 (z:Zone) (hs:List (List UInt8)) (hz:z.wf) (hl:z.recs.length≤1000) (hn:hs.length≤100) (hh:∀h∈hs,h.length≤9223372036854775807):S Bm2 2 [z.pv,Bv hs]=some [Af (glueN z hs)]:=by
 obtain ⟨N,hN⟩:∃N,N=hs.length+1:=⟨_,rfl⟩
 refine Kk0 (N:=N) rfl ?_
 have key:Ff1.ev S N [z.pv,Bv hs]=some (.yld 0 [Af (glueN z hs)]):=by
  refine Dw hs (fun i=>[Af (glueN z (hs.take i)), .i .i64 (i:Int)]) (fun i r=> .yld 0 [Af (glueN z hs)]) rfl (by omega) (fun i c r hd hi hc=> ?_) ?_
  ·left
   refine ⟨?_,rfl⟩
   have e:glueN z (hs.take (i+1))=glueN z (hs.take i)++Cq2 z c:=by rw [Cv,hc];simp [glueN]
   have hlen:=c7 z (hs.take i)
   have hl2:2*z.recs.length*(hs.take i).length≤2000*100:=Gm (by omega) (by rw [Al];omega)
   have h1:(i:Int)<(hs.length:Int):=by omega
   have ei:(i:Int).toNat=i:=by omega
   have k1:=fz z c hz (by omega) (hh c (As hc))
   have k2:=Mb z c 1 (by omega)
   have k3:=Mb z c 28 (by omega)
   have l2:(findR z.recs c 1).length≤z.recs.length:=Ef _ _
   have l3:(findR z.recs c 28).length≤z.recs.length:=Ef _ _
   rw [e]
   unfold Cq2
   generalize glueN z (hs.take i)=a at*
   by_cases hc2:Fq4 z c=[]
   ·have eb:decide (Fq4 z c≠[])=false:=by simp [hc2]
    rw [eb] at k1
    rw [if_neg (by simp [hc2])]
    simp (disch:=omega) only [Ex6,h1,ei,hc,k1,EVC,EVP,↓reduceIte,EV,Nat.reduceAdd,Nat.reduceEqDiff,Int.reduceToNat,reduceCtorEq]
    simp
   ·have eb:decide (Fq4 z c≠[])=true:=by simp [hc2]
    rw [eb] at k1
    rw [if_pos hc2]
    generalize findR z.recs c 1=f1 at*
    generalize findR z.recs c 28=f2 at*
    have la:(a++f1).length≤1000000:=by rw [Az];omega
    simp (disch:=omega) only [Ex6,h1,ei,hc,k1,k2,k3,EVC,EVP,↓reduceIte,EV,Nat.reduceAdd,Nat.reduceEqDiff,Int.reduceToNat,reduceCtorEq]
    simp
  ·refine ⟨?_,rfl⟩
   have h1:¬(hs.length:Int)<(hs.length:Int):=by omega
   have e:hs.take hs.length=hs:=C2
   rw [e]
   generalize glueN z hs=a at*
   simp (disch:=omega) only [Ex6,h1,EVC,EVP,↓reduceIte,EV,Nat.reduceAdd,Nat.reduceEqDiff,Int.reduceToNat,reduceCtorEq]
 generalize glueN z hs=a at*
 simp (disch:=omega) only [Ex6,key,EVC,EVP,↓reduceIte,EV,Nat.reduceAdd,Nat.reduceEqDiff,Int.reduceToNat,reduceCtorEq]
end Go.X.G
/- The laws of zones: the chapter's example. -/
namespace Go.X.G
open Go Go.X
def exL:List Rec:=[⟨[101,120,97,109,112,108,101,46],6,60,{zero with host:=[110,115,46,98,46,101,120,97,109,112,108,101,46],mail:=[109,46,101,120,97,109,112,108,101,46],a:=5,b:=60,c:=60,d:=600,e:=30}⟩,⟨[101,120,97,109,112,108,101,46],2,60,{zero with host:=[110,115,46,98,46,101,120,97,109,112,108,101,46]}⟩,⟨[98,46,101,120,97,109,112,108,101,46],2,60,{zero with host:=[110,115,46,98,46,101,120,97,109,112,108,101,46]}⟩,⟨[101,120,97,109,112,108,101,46],1,60,{zero with lo:=1}⟩,⟨[99,46,100,46,101,120,97,109,112,108,101,46],1,60,{zero with lo:=2}⟩,⟨[110,115,46,98,46,101,120,97,109,112,108,101,46],1,60,{zero with lo:=3}⟩]
def Fg2:Rec:=⟨[98,46,101,120,97,109,112,108,101,46],15,60,{zero with a:=1,host:=[97,46]}⟩
def exO:List UInt8:=[101,120,97,109,112,108,101,46]
theorem Ar3:S Bl1 0 []=some [Af exL]:=(Mg ext_mono).2 ⟨3,by kernel_rfl⟩
theorem Fg3:∀r∈exL++[Fg2],r.wf:=by
 intro r hr
 simp only [exL,Fg2,B3,Cd,Ah,List.mem_nil_iff,or_false] at hr
 rcases hr with rfl|rfl|rfl|rfl|rfl|rfl|rfl<;>(constructor<;>(try constructor))<;>simp [zero,Iv1,jb,L9]
def exZ:Zone:=⟨exO,sortR exL⟩
theorem ux:checkZ exZ=0:=by kernel_rfl
theorem Jv9:checkZ ⟨exO,sortR (exL++[Fg2])⟩=13:=by kernel_rfl
theorem Hb9:Fq4 exZ [120,46,110,115,46,98,46,101,120,97,109,112,108,101,46]=[98,46,101,120,97,109,112,108,101,46]:=by kernel_rfl
theorem Hb8:Fq4 exZ exO=[]:=by kernel_rfl
theorem Hb6:Jy5 exZ [120,46,121,46,100,46,101,120,97,109,112,108,101,46]=[100,46,101,120,97,109,112,108,101,46]:=by kernel_rfl
theorem Hb5:Jy5 exZ [110,115,46,98,46,101,120,97,109,112,108,101,46]=[98,46,101,120,97,109,112,108,101,46]:=by kernel_rfl
theorem Jv8:exB exZ [100,46,101,120,97,109,112,108,101,46]=true:=by kernel_rfl
theorem Jv7:exB exZ [110,115,46,98,46,101,120,97,109,112,108,101,46]=false:=by kernel_rfl
theorem Fk9:namesN exZ=[[101,120,97,109,112,108,101,46],[98,46,101,120,97,109,112,108,101,46],[100,46,101,120,97,109,112,108,101,46],[99,46,100,46,101,120,97,109,112,108,101,46]]:=by unfold namesN;rw [←Z2];kernel_rfl
theorem Hb7:(cutsN exZ).length=1:=by unfold cutsN;rw [←Z2];kernel_rfl
theorem Hb3:glueN exZ [[110,115,46,98,46,101,120,97,109,112,108,101,46],exO]=[⟨[110,115,46,98,46,101,120,97,109,112,108,101,46],1,60,{zero with lo:=3}⟩]:=by kernel_rfl
theorem Jv5:Jn5 exZ=5:=by kernel_rfl
theorem Jv6:exZ.recs.length=6:=by kernel_rfl
theorem Hb4:findR exZ.recs [100,46,101,120,97,109,112,108,101,46] 1=[]:=by kernel_rfl
theorem Jw1 (n:List UInt8) (lo:Int):S Bm1 2 [.s n, .i .u64 lo]=some [Rec.pv ⟨n,1,60,{zero with lo:=lo}⟩]:=by
 refine Kj7 (N:=1) rfl ?_
 simp (disch:=omega) only [Jh2,EVC,EVP,↓reduceIte,EV,Nat.reduceAdd,Nat.reduceEqDiff,Int.reduceToNat,reduceCtorEq]
 rfl
theorem Ap5:S Bn3 0 []=some [.b true]:=by
 refine Kq0 (N:=1) rfl ?_
 have hw:∀r∈exL,r.wf:=fun r hr=>Fg3 r (Cf _ hr)
 have ho:L9 exO:=by unfold L9 exO;decide
 have k0:=Ar3
 have hz:exZ.wf:=Wk ho (by decide) hw
 have hl:exZ.recs.length=6:=Jv6
 have ec:checkZ ⟨exO,sortR exL⟩=0:=ux
 have k1:=ml exO exL ho (by decide) hw
 have en:newZ exO exL=exZ:=by unfold newZ;rw [if_pos ec];rfl
 rw [en,ec] at k1
 have k2:=S7 exZ hz (by omega)
 rw [ux] at k2
 have k3:=Ar1 exZ (by omega)
 rw [Jv5] at k3
 have c1:=fz exZ [120,46,110,115,46,98,46,101,120,97,109,112,108,101,46] hz (by omega) (by decide)
 rw [Hb9] at c1
 have c2:=fz exZ exO hz (by omega) (by decide)
 rw [Hb8] at c2
 have e1:=Pv exZ [120,46,121,46,100,46,101,120,97,109,112,108,101,46] hz (by omega) (by decide)
 rw [Hb6] at e1
 have e2:=Pv exZ [110,115,46,98,46,101,120,97,109,112,108,101,46] hz (by omega) (by decide)
 rw [Hb5] at e2
 have n1:=Qh exZ hz (by omega)
 rw [Fk9] at n1
 have u1:=nk exZ hz (by omega)
 have ul:=Hb7
 have g1:=Fw4 exZ [[110,115,46,98,46,101,120,97,109,112,108,101,46],exO] hz (by omega) (by decide) (by decide)
 rw [Hb3] at g1
 have w1:=Ap9 exZ (-1) (by decide)
 have b1:=ml exO (exL++[Fg2]) ho (by decide) Fg3
 rw [Jv9] at b1
 have a1:=Jw1 [110,115,46,98,46,101,120,97,109,112,108,101,46] 3
 have x1:=Tl exZ [100,46,101,120,97,109,112,108,101,46] hz (by omega)
 rw [Jv8] at x1
 have x2:=Tl exZ [110,115,46,98,46,101,120,97,109,112,108,101,46] hz (by omega)
 rw [Jv7] at x2
 have f1:=Mb exZ [100,46,101,120,97,109,112,108,101,46] 1 (by omega)
 rw [Hb4] at f1
 have eo:([101,120,97,109,112,108,101,46]:List UInt8)=exO:=rfl
 have happ:H7 16 (Af exL) (Af [⟨[98,46,101,120,97,109,112,108,101,46],15,60,⟨false,0,0,[97,46],[],[],1,0,0,0,0,0,0⟩⟩])=some (Af (exL++[Fg2])):=dr exL Fg2 (by decide)
 have hlit:Jc 16 [PV.a [.s [98,46,101,120,97,109,112,108,101,46], .i .i64 15, .i .i64 60, .b false, .i .u64 0, .i .u64 0, .s [97,46], .s [], .s [], .i .i64 1, .i .i64 0, .i .i64 0, .i .i64 0, .i .i64 0, .i .i64 0, .i .u64 0]]=some (Af [⟨[98,46,101,120,97,109,112,108,101,46],15,60,⟨false,0,0,[97,46],[],[],1,0,0,0,0,0,0⟩⟩]):=rfl
 have hs2:Bv [[110,115,46,98,46,101,120,97,109,112,108,101,46],exO]= .l 1 [.s [110,115,46,98,46,101,120,97,109,112,108,101,46], .s [101,120,97,109,112,108,101,46]]:=rfl
 rw [hs2] at g1
 have hex:PV.s exO= .s [101,120,97,109,112,108,101,46]:=rfl
 rw [hex] at k1 c2 b1
 generalize newZ exO (exL++[Fg2])=nz at*
 generalize exL++[Fg2]=l2 at*
 have hn4:(Bv [[101,120,97,109,112,108,101,46],[98,46,101,120,97,109,112,108,101,46],[100,46,101,120,97,109,112,108,101,46],[99,46,100,46,101,120,97,109,112,108,101,46]])= .l 1 (List.map PV.s [[101,120,97,109,112,108,101,46],[98,46,101,120,97,109,112,108,101,46],[100,46,101,120,97,109,112,108,101,46],[99,46,100,46,101,120,97,109,112,108,101,46]]):=rfl
 generalize cutsN exZ=cz at*
 have hrl:((exZ.recs.length:Nat):Int)=6:=by omega
 generalize exZ=zz at*
 generalize exL=l1 at*
 have hlit2:Jc 1 [.s [110,115,46,98,46,101,120,97,109,112,108,101,46], .s [101,120,97,109,112,108,101,46]]=some (.l 1 [.s [110,115,46,98,46,101,120,97,109,112,108,101,46], .s [101,120,97,109,112,108,101,46]]):=rfl
 clear hn4 hs2 hex eo
 simp (disch:=first|omega|decide) only [Jh6,k0,k1,k2,k3,hrl,c1,c2,e1,e2,n1,u1,ul,g1,w1,happ,hlit,hlit2,b1,a1,x1,x2,f1,EVC,EVP,↓reduceIte,EV,Nat.reduceAdd,Nat.reduceEqDiff,Int.reduceToNat,reduceCtorEq]
end Go.X.G
/- The laws ZoneChecks, ZoneFinds, ZoneCuts, ZoneGlues. -/
namespace Go.X.G
open Go Go.X
theorem law_ZoneChecks (z:Zone) (hz:z.wf):S Im4 1 [z.pv]=some [.b true]:=by
 refine Kl2 (N:=1) rfl ?_
 have k0:=Fw3 z hz
 have hw:=Bq5 hz
 have hl:=Az3 z
 generalize smallZ z=s at*
 have k1:=ml s.origin s.recs hw.origin (by omega) hw.recs.2
 have k2:=Hr6 s.origin s.recs hw.origin (by omega) hw.recs.2
 have hnl:(newZ s.origin s.recs).recs.length≤1000000:=by
  have:=Nx s.recs hw.recs.2 (by omega)
  unfold newZ;split<;>simp;omega
 have k3:=S7 s hw (by omega)
 have k4:=Vb s hw
 have k5:=Bv5 (newZ s.origin s.recs) (newZ s.origin s.recs) hnl
 have ka:=Ap5
 generalize checkZ ⟨s.origin,sortR s.recs⟩=c1 at*
 generalize newZ s.origin s.recs=nz at*
 simp (disch:=omega) only [Kl0,k0,k1,k2,k3,k4,k5,ka,Hd,uy,EVC,EVP,↓reduceIte,EV,Nat.reduceAdd,Nat.reduceEqDiff,Int.reduceToNat,reduceCtorEq]
 try simp
end Go.X.G
