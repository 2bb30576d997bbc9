/- Zones in the program: proper. -/
import Derived.Test.YteiaijjlmnacpaaGreatDoorZoneFindsG13
import Derived.Test.YteiaijjlmnacpaaGreatDoorZoneFindsG9
open Bool renaming eq_false_or_eq_true→Ak,and_eq_true→Av,not_eq_true'→A7,eq_iff_iff→Ch,not_eq_false→Fp,and_eq_false_iff→F4
open Classical renaming not_not→G4
open Int renaming toNat_natCast→G3
open List renaming getElem?_eq_some_iff→Aq,getElem?_eq_getElem→Ax,length_append→Az,length_take→Ah,mem_cons→Al,mem_of_getElem?→Ar,pairwise_cons→As,length_cons→A0,getElem?_drop→A5,all_eq_true→Bv,length_pos_iff→By,getElem?_map→Bd,mem_append_right→Bh,take_append_drop→Bl,mem_filter→Bs,drop_eq_getElem_cons→B0,cons_append→B3,take_add_one→B7,any_eq_true→B8,nil_append→Cd,mem_append_left→Cf,take_length→Ct,getElem?_cons_succ→C2,getElem?_set→C3,take_of_length_le→C5,filter_cons_of_pos→Dd,length_filter_le→D5,mem_map→D6,filter_eq_nil_iff→Ez,mem_of_mem_take→E7,filter_append→E8,length_map→Fw,flatMap_cons→G2,filter_cons→H5,drop_append_of_le_length→Im,drop_of_length_le→W3
open Nat renaming le_refl→Ac,le_trans→Dc,mul_le_mul→G1,min_eq_left→Nb,mul_one→Bb3
open Option renaming bind_some→Ay
set_option maxHeartbeats 1000000
set_option linter.unusedVariables false
set_option linter.unusedSimpArgs false
namespace Go.X.G
open Go Go.X
section
variable (o cut red:List UInt8) (g:List Rec) (x:Rec) (N:Nat)
def Am0 (n:List UInt8):Bool:=decide (n[0]? =some 42)
theorem Kt3 (hx:g[0]? =some x) (hl:g.length≤1000000) (hn:x.name≠[]) (p4 p5 p6 p7 p8 p9 p10 p11 p12 p13:PV):
  Df0.ev S N [.s o,Af g,.s cut,.s red,p4,p5,p6,p7,p8,p9,p10,p11,p12,p13]=some (.ret [.b (!Am0 x.name||(!F8 g 2 && !F8 g 39))]):=by
 have k2:=J9 g 2 hl
 have k39:=J9 g 39 hl
 obtain ⟨c,hc⟩:∃c,x.name[0]? =some c:=⟨_,Ax (By.2 hn)⟩
 unfold Am0
 rw [hc]
 by_cases h1:c=42
 ·have h1':(c.toNat:Int)=42:=by rw [h1];rfl
  rcases Ak (F8 g 2) with h2|h2
  ·rw [h2] at k2
   simp (disch:=omega) only [Hh9,hx,hc,h1',k2,EVC,xe,EVP,↓reduceIte,EV,Nat.reduceAdd,Nat.reduceEqDiff,Int.reduceToNat,reduceCtorEq]
   simp [h1,h2]
  ·rw [h2] at k2
   simp (disch:=omega) only [Hh9,hx,hc,h1',k2,k39,EVC,xe,EVP,↓reduceIte,EV,Nat.reduceAdd,Nat.reduceEqDiff,Int.reduceToNat,reduceCtorEq]
   simp [h1,h2]
 ·have h1':¬(c.toNat:Int)=42:=fun q=>h1 (UInt8.toNat_inj.1 (show c.toNat=42 by omega))
  simp (disch:=omega) only [Hh9,hx,hc,h1',EVC,xe,EVP,↓reduceIte,EV,Nat.reduceAdd,Nat.reduceEqDiff,Int.reduceToNat,reduceCtorEq]
  simp [h1]
theorem Kt2 (hx:g[0]? =some x) (hl:g.length≤1000000) (hn:x.name≠[]) (p4 p5 p6 p7 p8 p9 p10:PV):
  zq.ev S N [.s o,Af g,.s cut,.s red,p4,p5,p6,p7,p8,p9,p10]=some (.ret [.b ((if (!decide (x.name=o) && F8 g 2)=true then I7 g [2,43,47,46,1,28] else !F8 g 43) && (!Am0 x.name||(!F8 g 2 && !F8 g 39)))]):=by
 have k2:=J9 g 2 hl
 have k43:=J9 g 43 hl
 have kd:S Un 2 [Af g,.l 1 [.i .i64 2,.i .i64 43,.i .i64 47,.i .i64 46,.i .i64 1,.i .i64 28]]=some [.b (I7 g [2,43,47,46,1,28])]:=W6 g [2,43,47,46,1,28] hl (by decide)
 have hlit:J2 1 [.i .i64 2,.i .i64 43,.i .i64 47,.i .i64 46,.i .i64 1,.i .i64 28]=some (.l 1 [.i .i64 2,.i .i64 43,.i .i64 47,.i .i64 46,.i .i64 1,.i .i64 28]):=rfl
 have t:=fun p11 p12 p13=>Kt3 o cut red g x N hx hl hn p4 p5 p6 p7 p8 p9 p10 p11 p12 p13
 have x7:=A3 zq.eq_1
 have x6:=A3 Cr7.eq_1
 have x5:=A3 Ct5.eq_1
 have x4:=A3 Dq6.eq_1
 have x3:=A3 Dy7.eq_1
 by_cases h0:x.name=o
 ·rcases Ak (F8 g 43) with h1|h1<;>rw [h1] at k43<;>simp (disch:=omega) only [x7,x6,x5,x4,x3,t,hx,h0,k43,hlit,EVC,xe,EVP,↓reduceIte,EV,Nat.reduceAdd,Nat.reduceEqDiff,Int.reduceToNat,reduceCtorEq]<;>simp [h1]
 ·rcases Ak (F8 g 2) with h2|h2
  ·rw [h2] at k2
   rcases Ak (I7 g [2,43,47,46,1,28]) with h3|h3<;>rw [h3] at kd<;>simp (disch:=omega) only [x7,x6,x5,x4,x3,t,hx,h0,k2,kd,hlit,EVC,xe,EVP,↓reduceIte,EV,Nat.reduceAdd,Nat.reduceEqDiff,Int.reduceToNat,reduceCtorEq]<;>simp [h0,h2,h3]
  ·rw [h2] at k2
   rcases Ak (F8 g 43) with h1|h1<;>rw [h1] at k43<;>simp (disch:=omega) only [x7,x6,x5,x4,x3,t,hx,h0,k2,k43,hlit,EVC,xe,EVP,↓reduceIte,EV,Nat.reduceAdd,Nat.reduceEqDiff,Int.reduceToNat,reduceCtorEq]<;>simp [h0,h1,h2]
theorem Jb7 (hx:g[0]? =some x) (hl:g.length≤1000000) (hn:x.name≠[]) (p4 p5 p6 p7:PV):
  Zw.ev S N [.s o,Af g,.s cut,.s red,p4,p5,p6,p7]=some (.ret [.b ((!F8 g 5||I7 g [5,46,47]) && decide (red=[]) && (decide (cut=[])||I7 g [1,28]) && ((if (!decide (x.name=o) && F8 g 2)=true then I7 g [2,43,47,46,1,28] else !F8 g 43) && (!Am0 x.name||(!F8 g 2 && !F8 g 39))))]):=by
 have k5:=J9 g 5 hl
 have kc:S Un 2 [Af g,.l 1 [.i .i64 5,.i .i64 46,.i .i64 47]]=some [.b (I7 g [5,46,47])]:=W6 g [5,46,47] hl (by decide)
 have ka:S Un 2 [Af g,.l 1 [.i .i64 1,.i .i64 28]]=some [.b (I7 g [1,28])]:=W6 g [1,28] hl (by decide)
 have hlit1:J2 1 [.i .i64 5,.i .i64 46,.i .i64 47]=some (.l 1 [.i .i64 5,.i .i64 46,.i .i64 47]):=rfl
 have hlit2:J2 1 [.i .i64 1,.i .i64 28]=some (.l 1 [.i .i64 1,.i .i64 28]):=rfl
 have t:=fun p8 p9 p10=>Kt2 o cut red g x N hx hl hn p4 p5 p6 p7 p8 p9 p10
 generalize ((if (!decide (x.name=o) && F8 g 2)=true then I7 g [2,43,47,46,1,28] else !F8 g 43) && (!Am0 x.name||(!F8 g 2 && !F8 g 39)))=B at*
 have x13:=A3 Zw.eq_1
 have x12:=A3 pp.eq_1
 have x11:=A3 qj.eq_1
 have x10:=A3 qk.eq_1
 have x9:=A3 Cm9.eq_1
 have x8:=A3 Cn8.eq_1
 rcases Ak (F8 g 5) with h1|h1<;>rw [h1] at k5
 ·rcases Ak (I7 g [5,46,47]) with h2|h2<;>rw [h2] at kc
  ·by_cases h3:red=[]
   ·replace h3:=eq_true h3
    by_cases h4:cut=[]
    ·replace h4:=eq_true h4
     simp (disch:=omega) only [x13,x12,x11,x10,x9,x8,t,k5,kc,h3,h4,hlit1,hlit2,EVC,xe,EVP,↓reduceIte,EV,Nat.reduceAdd,Nat.reduceEqDiff,Int.reduceToNat,reduceCtorEq]
     (clear x13 x12 x11 x10 x9 x8 t;simp [*])
    ·rcases Ak (I7 g [1,28]) with h5|h5<;>rw [h5] at ka<;>simp (disch:=omega) only [x13,x12,x11,x10,x9,x8,t,k5,kc,ka,h3,h4,hlit1,hlit2,EVC,xe,EVP,↓reduceIte,EV,Nat.reduceAdd,Nat.reduceEqDiff,Int.reduceToNat,reduceCtorEq]<;>(clear x13 x12 x11 x10 x9 x8 t;simp [*])
   ·simp (disch:=omega) only [x13,x12,x11,x10,x9,x8,t,k5,kc,h3,hlit1,hlit2,EVC,xe,EVP,↓reduceIte,EV,Nat.reduceAdd,Nat.reduceEqDiff,Int.reduceToNat,reduceCtorEq]
    (clear x13 x12 x11 x10 x9 x8 t;simp [*])
  ·simp (disch:=omega) only [x13,x12,x11,k5,kc,hlit1,hlit2,EVC,xe,EVP,↓reduceIte,EV,Nat.reduceAdd,Nat.reduceEqDiff,Int.reduceToNat,reduceCtorEq]
   (clear x13 x12 x11 x10 x9 x8 t;simp [*])
 ·by_cases h3:red=[]
  ·replace h3:=eq_true h3
   by_cases h4:cut=[]
   ·replace h4:=eq_true h4
    simp (disch:=omega) only [x13,x12,x11,x10,x9,x8,t,k5,h3,h4,hlit1,hlit2,EVC,xe,EVP,↓reduceIte,EV,Nat.reduceAdd,Nat.reduceEqDiff,Int.reduceToNat,reduceCtorEq]
    (clear x13 x12 x11 x10 x9 x8 t;simp [*])
   ·rcases Ak (I7 g [1,28]) with h5|h5<;>rw [h5] at ka<;>simp (disch:=omega) only [x13,x12,x11,x10,x9,x8,t,k5,ka,h3,h4,hlit1,hlit2,EVC,xe,EVP,↓reduceIte,EV,Nat.reduceAdd,Nat.reduceEqDiff,Int.reduceToNat,reduceCtorEq]<;>(clear x13 x12 x11 x10 x9 x8 t;simp [*])
  ·simp (disch:=omega) only [x13,x12,x11,x10,x9,x8,t,k5,h3,hlit1,hlit2,EVC,xe,EVP,↓reduceIte,EV,Nat.reduceAdd,Nat.reduceEqDiff,Int.reduceToNat,reduceCtorEq]
   (clear x13 x12 x11 x10 x9 x8 t;simp [*])
end
theorem Al2 (o cut red:List UInt8) (g:List Rec) (hg:g≠[]) (hl:g.length≤1000000) (ho:o.length≤9223372036854775807) (hn:(nmG g).length≤9223372036854775807):
  S Cw0 4 [.s o,Af g,.s cut,.s red]=some [.b (propG o g (decide (cut≠[])) (decide (red≠[])))]:=by
 obtain ⟨x,r,rfl⟩:∃x r,g=x::r:=by
  cases g with
  |nil=>exact absurd rfl hg
  |cons x r=>exact ⟨x,r,rfl⟩
 have hx:(x::r)[0]? =some x:=rfl
 have hnm:nmG (x::r)=x.name:=rfl
 rw [hnm] at hn
 unfold propG
 rw [hnm]
 generalize (x::r)=g at*
 obtain ⟨N,hN⟩:∃N,N=1:=⟨_,rfl⟩
 refine Kp0 (N:=N) rfl ?_
 have hu:=Hq x.name o hn ho
 have k6:=J9 g 6 hl
 have k2:=J9 g 2 hl
 have ku:=j7 g hl
 have xt:=A3 Bg1.eq_1
 have x18:=A3 pq.eq_1
 have x17:=A3 pb.eq_1
 have x16:=A3 pc.eq_1
 have x15:=A3 pf.eq_1
 have x14:=A3 pg.eq_1
 have e1:decide (cut≠[])= !decide (cut=[]):=by simp
 have e2:decide (red≠[])= !decide (red=[]):=by simp
 rw [e1,e2,Bool.not_not,Bool.not_not]
 rcases Ak (under x.name o) with h0|h0<;>rw [h0] at hu
 ·have hne:x.name≠[]:=j6 (C9.1 h0).1
  have t:=fun p4 p5 p6 p7=>Jb7 o cut red g x N hx hl hne p4 p5 p6 p7
  have eS:Am0 x.name=decide (x.name[0]? =some 42):=rfl
  rw [eS] at t
  generalize hA:(!F8 g 5||I7 g [5,46,47])=A at*
  generalize hB:(if (!decide (x.name=o) && F8 g 2)=true then I7 g [2,43,47,46,1,28] else !F8 g 43)=B at*
  generalize hC:(!decide (x.name[0]? =some 42)||(!F8 g 2 && !F8 g 39))=C at*
  generalize decide (red=[])=D at*
  generalize (decide (cut=[])||I7 g [1,28])=E' at*
  clear hB hC hA
  rcases Ak (F8 g 6) with h6|h6<;>rw [h6] at k6
  ·by_cases hno:x.name=o
   ·replace hno:=eq_true hno
    rcases Ak (Em8 g) with h1|h1<;>rw [h1] at ku
    ·rcases Ak (F8 g 2) with h2|h2<;>rw [h2] at k2
     ·simp (disch:=omega) only [xt,x18,x17,x16,x15,x14,t,hx,hu,k6,hno,ku,k2,EVC,xe,EVP,↓reduceIte,EV,Nat.reduceAdd,Nat.reduceEqDiff,Int.reduceToNat,reduceCtorEq]
      (clear xt x18 x17 x16 x15 x14 t;simp [*,Bool.and_assoc])
     ·simp (disch:=omega) only [xt,x18,x17,x16,x15,x14,t,hx,hu,k6,hno,ku,k2,EVC,xe,EVP,↓reduceIte,EV,Nat.reduceAdd,Nat.reduceEqDiff,Int.reduceToNat,reduceCtorEq]
      (clear xt x18 x17 x16 x15 x14 t;simp [*])
    ·simp (disch:=omega) only [xt,x18,x17,x16,x15,x14,t,hx,hu,k6,hno,ku,EVC,xe,EVP,↓reduceIte,EV,Nat.reduceAdd,Nat.reduceEqDiff,Int.reduceToNat,reduceCtorEq]
     (clear xt x18 x17 x16 x15 x14 t;simp [*])
   ·simp (disch:=omega) only [xt,x18,x17,x16,x15,x14,t,hx,hu,k6,hno,EVC,xe,EVP,↓reduceIte,EV,Nat.reduceAdd,Nat.reduceEqDiff,Int.reduceToNat,reduceCtorEq]
    (clear xt x18 x17 x16 x15 x14 t;simp [*])
  ·by_cases hno:x.name=o
   ·replace hno:=eq_true hno
    simp (disch:=omega) only [xt,x18,x17,x16,x15,x14,t,hx,hu,k6,hno,EVC,xe,EVP,↓reduceIte,EV,Nat.reduceAdd,Nat.reduceEqDiff,Int.reduceToNat,reduceCtorEq]
    (clear xt x18 x17 x16 x15 x14 t;simp [*])
   ·rcases Ak (Em8 g) with h1|h1<;>rw [h1] at ku
    ·simp (disch:=omega) only [xt,x18,x17,x16,x15,x14,t,hx,hu,k6,hno,ku,EVC,xe,EVP,↓reduceIte,EV,Nat.reduceAdd,Nat.reduceEqDiff,Int.reduceToNat,reduceCtorEq]
     (clear xt x18 x17 x16 x15 x14 t;simp [*,Bool.and_assoc])
    ·simp (disch:=omega) only [xt,x18,x17,x16,x15,x14,t,hx,hu,k6,hno,ku,EVC,xe,EVP,↓reduceIte,EV,Nat.reduceAdd,Nat.reduceEqDiff,Int.reduceToNat,reduceCtorEq]
     (clear xt x18 x17 x16 x15 x14 t;simp [*])
 ·simp (disch:=omega) only [xt,x18,x17,x16,x15,x14,hx,hu,EVC,xe,EVP,↓reduceIte,EV,Nat.reduceAdd,Nat.reduceEqDiff,Int.reduceToNat,reduceCtorEq]
  (clear xt x18 x17 x16 x15 x14;simp [*])
end Go.X.G
/- Zones in the program: Check and New. -/
namespace Go.X.G
open Go Go.X
def Gy (gs:List (List Rec)):PV:= .l 1 (gs.map Af)
theorem Ox (l:List (List Rec)):Gm (Gy l)=some (.i .i64 (l.length:Int)):=by simp [Gy,Gm]
theorem Es (l:List (List Rec)) (k:IntKind) (z:Int) (h:0≤z):H7 1 (Gy l) (.i k z)=(l[z.toNat]?).map Af:=by simp [Gy,gq _ _ _ _ h]
theorem Cz1 (x:List Rec):J2 1 [Af x]=some (Gy [x]):=rfl
theorem i8 (l:List (List Rec)) (x:List Rec) (h:l.length+1≤1073741824):Iz 1 (Gy l) (Gy [x])=some (Gy (l++[x])):=by
 have:=U2 1 (l.map Af) [Af x] (by simpa using h)
 simpa [Gy] using this
theorem Hn8 {α:Type} (l:List α) (s i:Nat) (c:α) (h:l[i]? =some c) (hs:s≤i):sl l s (i+1)=sl l s i++[c]:=by
 unfold sl
 have hi:=(Aq.1 h).1
 rw [B7,h,Im (by rw [Ah];omega)]
 rfl
theorem Cg6 (l:List Rec) (hl:l.length≤1000000):S Cw1 1 [Af l]=some [Gy (grp l)]:=by
 obtain ⟨N,hN⟩:∃N,N=l.length+1:=⟨_,rfl⟩
 refine Kp1 (N:=N) rfl ?_
 have key:Gq2.ev S N [Af l]=some (.yld 0 [Gy ([]++Ur (sl l 0 0) l)]):=by
  refine Gk l (fun i (g:List (List Rec)×Nat)=>[Gy g.1,.i .i64 (g.2:Int),.i .i64 (i:Int)]) (fun i g r=> .yld 0 [Gy (g.1++Ur (sl l g.2 i) r)]) (fun i g=>g.2≤i∧g.1.length≤i) ([],0) ?_ (by simp) (by omega) (fun i g c r hd hi hc hI=> ?_) (fun g hI=> ?_)
  ·rfl
  ·left
   obtain ⟨out,st⟩:=g
   obtain ⟨hI1,hI2⟩:=hI
   simp only at hI1 hI2 ⊢
   have hlt:(i:Int)<(l.length:Int):=by omega
   have e1:((i:Int)+1).toNat=i+1:=by omega
   have e2:(i:Int).toNat=i:=by omega
   have e3:(st:Int).toNat=st:=by omega
   have hsl:=Hn8 l st i c hc hI1
   have hsl2:List.drop st (List.take (i+1) l)=sl l st i++[c]:=hsl
   have hsl3:sl l st st=[]:=by unfold sl;rw [List.drop_eq_nil_iff,Ah];omega
   have hsl4:sl l (i+1) (i+1)=[]:=by unfold sl;rw [List.drop_eq_nil_iff,Ah];omega
   have hr:r=l.drop (i+1):=by
    have:=congrArg List.tail hd
    simpa using this.symm
   by_cases hc2:(match r with|[]=>true|y::_=> !decide (y.name=c.name))=true
   ·refine ⟨(out++[sl l st i++[c]],i+1),?_,⟨by simp,by simp;omega⟩,?_⟩
    ·cases r with
     |nil=>
      have hend:(i:Int)+1=(l.length:Int):=by
       have:=congrArg List.length hr
       simp at this;omega
      simp only
      simp (disch:=omega) only [Bc8,hlt,hend.symm,e1,e2,e3,hc,hsl2,Cz1,i8,EVC,xe,EVP,↓reduceIte,EV,Nat.reduceAdd,Nat.reduceEqDiff,Int.reduceToNat,reduceCtorEq]
      try (congr 3;omega)
     |cons y r'=>
      have hy:l[i+1]? =some y:=by
       have:=congrArg (fun q=>q[0]?) hr
       simpa [A5] using this.symm
      have hyl:=(Aq.1 hy).1
      have hend:¬(i:Int)+1=(l.length:Int):=by omega
      have hyc:¬y.name=c.name:=by simpa using hc2
      simp only
      simp (disch:=omega) only [Bc8,hlt,hend,e1,e2,e3,hc,hy,hyc,hsl2,Cz1,i8,EVC,xe,EVP,↓reduceIte,EV,Nat.reduceAdd,Nat.reduceEqDiff,Int.reduceToNat,reduceCtorEq]
      try congr 3
    ·have eg:Ur (sl l st i) (c::r)=(sl l st i++[c])::Ur [] r:=by
      cases r with
      |nil=>rfl
      |cons y r'=>rw [Ur,if_pos hc2]
     simp only [eg,hsl4]
     simp
   ·refine ⟨(out,st),?_,⟨by simp;omega,by simp;omega⟩,?_⟩
    ·cases r with
     |nil=>simp at hc2
     |cons y r'=>
      have hy:l[i+1]? =some y:=by
       have:=congrArg (fun q=>q[0]?) hr
       simpa [A5] using this.symm
      have hyl:=(Aq.1 hy).1
      have hend:¬(i:Int)+1=(l.length:Int):=by omega
      have hyc:y.name=c.name:=by simpa using hc2
      simp only
      simp (disch:=omega) only [Bc8,hlt,hend,e1,e2,e3,hc,hy,hyc,EVC,xe,EVP,↓reduceIte,EV,Nat.reduceAdd,Nat.reduceEqDiff,Int.reduceToNat,reduceCtorEq]
      try rfl
    ·have eg:Ur (sl l st i) (c::r)=Ur (sl l st i++[c]) r:=by
      cases r with
      |nil=>simp at hc2
      |cons y r'=>rw [Ur,if_neg hc2]
     simp only [eg,hsl]
  ·have hlt:¬(l.length:Int)<(l.length:Int):=by omega
   refine ⟨?_,rfl⟩
   simp (disch:=omega) only [Bc8,hlt,EVC,xe,EVP,↓reduceIte,EV,Nat.reduceAdd,Nat.reduceEqDiff,Int.reduceToNat,reduceCtorEq]
   simp [Ur]
 have e:[]++Ur (sl l 0 0) l=grp l:=by simp [sl,grp]
 rw [e] at key
 generalize grp l=gs at*
 simp (disch:=omega) only [Bc8,key,EVC,xe,EVP,↓reduceIte,EV,Nat.reduceAdd,Nat.reduceEqDiff,Int.reduceToNat,reduceCtorEq]
def Bx9 (o:List UInt8):List (List Rec)→List UInt8→List UInt8→Bool→Option Bool
 |[],_,_,soa=>some soa
 |g::gs,cut,red,soa=>
  if propG o g (decide (Dn (nmG g) cut≠[])) (decide (Dn (nmG g) red≠[]))=true then
   Bx9 o gs (if Dn (nmG g) cut=[]∧nmG g≠o∧F8 g 2=true then nmG g else Dn (nmG g) cut) (if F8 g 39=true then nmG g else Dn (nmG g) red) (soa||decide (nmG g=o))
  else none
theorem Cm7 (o:List UInt8):∀(gs:List (List Rec)) (cut red:List UInt8) (soa:Bool),oh o gs cut red soa=decide (Bx9 o gs cut red soa=some true)
 |[],_,_,soa=>by simp [oh,Bx9]
 |g::gs,cut,red,soa=>by
  simp only [oh,Bx9]
  split
  ·exact Cm7 o gs _ _ _
  ·simp
def Kx4:Option Bool→Out
 |some b=> .yld 0 [.b b]
 |none=> .ret [.i .i64 13]
section
variable (z:Zone) (g:List Rec) (gs:List (List Rec)) (x:Rec) (N:Nat) (i:Nat) (cut red:List UInt8) (soa:Bool)
theorem Lf9 (hi:gs[i]? =some g) (hx:g[0]? =some x) (hxl:x.name.length≤9223372036854775807) (hcl:cut.length≤9223372036854775807) (p1 p2 p3 p4 p5:PV):
  ∃p11,T7.ev S N [z.pv,p1,p2,p3,p4,p5,Gy gs,.s cut,.s red,.b soa,.i .i64 (i:Int)]=T8.ev S N [z.pv,p1,p2,p3,p4,p5,Gy gs,.s cut,.s red,.b soa,.i .i64 (i:Int),p11,.s (Dn x.name cut)]:=by
 have x17:=A3 T7.eq_1
 have x16:=A3 pd.eq_1
 have x0:=A3 Ez0.eq_1
 have hu:=Hq x.name cut hxl hcl
 have ei:(i:Int).toNat=i:=by omega
 by_cases h1:cut=[]
 ·refine ⟨.u,?_⟩
  have e:Dn x.name cut=cut:=by unfold Dn;simp [h1]
  rw [e]
  replace h1:=eq_true h1
  simp (disch:=omega) only [x17,x16,x0,h1,hi,hx,ei,Es,EVC,xe,EVP,↓reduceIte,EV,Nat.reduceAdd,Nat.reduceEqDiff,Int.reduceToNat,reduceCtorEq]
 ·rcases Ak (under x.name cut) with h2|h2<;>rw [h2] at hu
  ·refine ⟨.b true,?_⟩
   have e:Dn x.name cut=cut:=by unfold Dn;simp [h2]
   rw [e]
   simp (disch:=omega) only [x17,x16,x0,h1,hu,hi,hx,ei,Es,EVC,xe,EVP,↓reduceIte,EV,Nat.reduceAdd,Nat.reduceEqDiff,Int.reduceToNat,reduceCtorEq]
  ·refine ⟨.b false,?_⟩
   have e:Dn x.name cut=[]:=by unfold Dn;simp [h1,h2]
   rw [e]
   simp (disch:=omega) only [x17,x16,x0,h1,hu,hi,hx,ei,Es,EVC,xe,EVP,↓reduceIte,EV,Nat.reduceAdd,Nat.reduceEqDiff,Int.reduceToNat,reduceCtorEq]
theorem Lf8 (hi:gs[i]? =some g) (hx:g[0]? =some x) (hxl:x.name.length≤9223372036854775807) (hrl:red.length≤9223372036854775807) (p1 p2 p3 p4 p5 p11 p12:PV):
  ∃p13,T8.ev S N [z.pv,p1,p2,p3,p4,p5,Gy gs,.s cut,.s red,.b soa,.i .i64 (i:Int),p11,p12]=Zx.ev S N [z.pv,p1,p2,p3,p4,p5,Gy gs,.s cut,.s red,.b soa,.i .i64 (i:Int),p11,p12,p13,.s (Dn x.name red)]:=by
 have x15:=A3 T8.eq_1
 have x14:=A3 pn.eq_1
 have x1:=A3 Dr0.eq_1
 have hu:=Hq x.name red hxl hrl
 have ei:(i:Int).toNat=i:=by omega
 by_cases h1:red=[]
 ·refine ⟨.u,?_⟩
  have e:Dn x.name red=red:=by unfold Dn;simp [h1]
  rw [e]
  replace h1:=eq_true h1
  simp (disch:=omega) only [x15,x14,x1,h1,hi,hx,ei,Es,EVC,xe,EVP,↓reduceIte,EV,Nat.reduceAdd,Nat.reduceEqDiff,Int.reduceToNat,reduceCtorEq]
 ·rcases Ak (under x.name red) with h2|h2<;>rw [h2] at hu
  ·refine ⟨.b true,?_⟩
   have e:Dn x.name red=red:=by unfold Dn;simp [h2]
   rw [e]
   simp (disch:=omega) only [x15,x14,x1,h1,hu,hi,hx,ei,Es,EVC,xe,EVP,↓reduceIte,EV,Nat.reduceAdd,Nat.reduceEqDiff,Int.reduceToNat,reduceCtorEq]
  ·refine ⟨.b false,?_⟩
   have e:Dn x.name red=[]:=by unfold Dn;simp [h1,h2]
   rw [e]
   simp (disch:=omega) only [x15,x14,x1,h1,hu,hi,hx,ei,Es,EVC,xe,EVP,↓reduceIte,EV,Nat.reduceAdd,Nat.reduceEqDiff,Int.reduceToNat,reduceCtorEq]
theorem Lf7 (hi:gs[i]? =some g) (hx:g[0]? =some x) (hnm:nmG g=x.name) (hg:g≠[]) (hl:g.length≤1000000) (hil:i≤1000000) (hxl:x.name.length≤9223372036854775807) (hzl:z.origin.length≤9223372036854775807) (cu re:List UInt8) (p1 p2 p3 p4 p5 p7 p8 p11 p13:PV):
  Zx.ev S N [z.pv,p1,p2,p3,p4,p5,Gy gs,p7,p8,.b soa,.i .i64 (i:Int),p11,.s cu,p13,.s re]=
   some (if propG z.origin g (decide (cu≠[])) (decide (re≠[]))=true then .yld 1 [.s (if cu=[]∧x.name≠z.origin∧F8 g 2=true then x.name else cu),.s (if F8 g 39=true then x.name else re),.b (soa||decide (x.name=z.origin)),.i .i64 ((i:Int)+1)] else .ret [.i .i64 13]):=by
 have hp:=Al2 z.origin cu re g hg hl hzl (by rw [hnm];exact hxl)
 have k2:=J9 g 2 hl
 have k39:=J9 g 39 hl
 have ei:(i:Int).toNat=i:=by omega
 generalize propG z.origin g (decide (cu≠[])) (decide (re≠[]))=P at*
 cases P
 ·simp (disch:=omega) only [Rt,hp,hi,hx,ei,Es,EVC,xe,EVP,↓reduceIte,EV,Nat.reduceAdd,Nat.reduceEqDiff,Int.reduceToNat,reduceCtorEq]
  try simp
 ·by_cases h1:cu=[]
  ·by_cases h2:x.name=z.origin
   ·rcases Ak (F8 g 39) with h3|h3<;>rw [h3] at k39
    ·cases soa<;>(have h1':=eq_true h1;have h2':=eq_true h2;simp (disch:=omega) only [Rt,hp,hi,hx,ei,h1',h2',k39,Es,EVC,xe,EVP,↓reduceIte,EV,Nat.reduceAdd,Nat.reduceEqDiff,Int.reduceToNat,reduceCtorEq];simp [h2,h3])
    ·cases soa<;>(have h1':=eq_true h1;have h2':=eq_true h2;simp (disch:=omega) only [Rt,hp,hi,hx,ei,h1',h2',k39,Es,EVC,xe,EVP,↓reduceIte,EV,Nat.reduceAdd,Nat.reduceEqDiff,Int.reduceToNat,reduceCtorEq];simp [h2,h3])
   ·rcases Ak (F8 g 2) with h4|h4<;>rw [h4] at k2
    ·rcases Ak (F8 g 39) with h3|h3<;>rw [h3] at k39
     ·cases soa<;>(have h1':=eq_true h1;simp (disch:=omega) only [Rt,hp,hi,hx,ei,h1',h2,k2,k39,Es,EVC,xe,EVP,↓reduceIte,EV,Nat.reduceAdd,Nat.reduceEqDiff,Int.reduceToNat,reduceCtorEq];simp [h1,h2,h3,h4])
     ·cases soa<;>(have h1':=eq_true h1;simp (disch:=omega) only [Rt,hp,hi,hx,ei,h1',h2,k2,k39,Es,EVC,xe,EVP,↓reduceIte,EV,Nat.reduceAdd,Nat.reduceEqDiff,Int.reduceToNat,reduceCtorEq];simp [h1,h2,h3,h4])
    ·rcases Ak (F8 g 39) with h3|h3<;>rw [h3] at k39
     ·cases soa<;>(have h1':=eq_true h1;simp (disch:=omega) only [Rt,hp,hi,hx,ei,h1',h2,k2,k39,Es,EVC,xe,EVP,↓reduceIte,EV,Nat.reduceAdd,Nat.reduceEqDiff,Int.reduceToNat,reduceCtorEq];simp [h2,h3,h4])
     ·cases soa<;>(have h1':=eq_true h1;simp (disch:=omega) only [Rt,hp,hi,hx,ei,h1',h2,k2,k39,Es,EVC,xe,EVP,↓reduceIte,EV,Nat.reduceAdd,Nat.reduceEqDiff,Int.reduceToNat,reduceCtorEq];simp [h2,h3,h4])
  ·by_cases h2:x.name=z.origin
   ·rcases Ak (F8 g 39) with h3|h3<;>rw [h3] at k39
    ·cases soa<;>(have h2':=eq_true h2;simp (disch:=omega) only [Rt,hp,hi,hx,ei,h1,h2',k39,Es,EVC,xe,EVP,↓reduceIte,EV,Nat.reduceAdd,Nat.reduceEqDiff,Int.reduceToNat,reduceCtorEq];simp [h1,h2,h3])
    ·cases soa<;>(have h2':=eq_true h2;simp (disch:=omega) only [Rt,hp,hi,hx,ei,h1,h2',k39,Es,EVC,xe,EVP,↓reduceIte,EV,Nat.reduceAdd,Nat.reduceEqDiff,Int.reduceToNat,reduceCtorEq];simp [h1,h2,h3])
   ·rcases Ak (F8 g 39) with h3|h3<;>rw [h3] at k39
    ·cases soa<;>(simp (disch:=omega) only [Rt,hp,hi,hx,ei,h1,h2,k39,Es,EVC,xe,EVP,↓reduceIte,EV,Nat.reduceAdd,Nat.reduceEqDiff,Int.reduceToNat,reduceCtorEq];simp [h1,h2,h3])
    ·cases soa<;>(simp (disch:=omega) only [Rt,hp,hi,hx,ei,h1,h2,k39,Es,EVC,xe,EVP,↓reduceIte,EV,Nat.reduceAdd,Nat.reduceEqDiff,Int.reduceToNat,reduceCtorEq];simp [h1,h2,h3])
end
theorem ym:∀(n:Nat) (l:List Rec),l.length≤n→(∀g∈grp l,g≠[]∧∀x∈g,x∈l)∧(grp l).length≤l.length
 |_,[],_=>by simp [grp,Ur]
 |0,x::r,hn=>by simp at hn
 |n+1,x::r,hn=>by
  obtain ⟨g,l',h1,h2,h3,h4,h5⟩:=Ry x r
  have hlen:=congrArg List.length h1
  have hg0:0<g.length:=By.2 h2
  simp only [Az,A0] at hlen hn
  obtain ⟨i1,i2⟩:=ym n l' (by omega)
  rw [h5]
  refine ⟨fun g' hg'=> ?_,by simp;omega⟩
  rcases Al.1 hg' with rfl|hg'
  ·exact ⟨h2,fun w hw=>by rw [h1];exact Cf _ hw⟩
  ·obtain ⟨j1,j2⟩:=i1 g' hg'
   exact ⟨j1,fun w hw=>by rw [h1];exact Bh _ (j2 w hw)⟩
theorem Cf4 (p:Prop) [Decidable p] (a b:List UInt8) (ha:a.length≤9223372036854775807) (hb:b.length≤9223372036854775807):(if p then a else b).length≤9223372036854775807:=by split<;>assumption
theorem Ld4 (z:Zone) (hz:z.wf) (hl:z.recs.length≤1000000) (N:Nat) (hN:z.recs.length+1<N) (p1 p2 p3 p4 p5:PV):
  Gv5.ev S N [z.pv,p1,p2,p3,p4,p5,Gy (grp z.recs)]=some (Kx4 (Bx9 z.origin (grp z.recs) [] [] false)):=by
 obtain ⟨gf1,gf2⟩:=ym z.recs.length z.recs (Ac _)
 have hgl:∀g∈grp z.recs,g.length≤1000000:=fun g hg=>by
  have:∀(n:Nat) (l:List Rec),l.length≤n→∀g∈grp l,g.length≤l.length:=by
   intro n
   induction n with
   |zero=>intro l hl g hg;cases l with
    |nil=>simp [grp,Ur] at hg
    |cons x r=>simp at hl
   |succ n ih=>
    intro l hl g hg
    cases l with
    |nil=>simp [grp,Ur] at hg
    |cons x r=>
     obtain ⟨g0,l',h1,h2,h3,h4,h5⟩:=Ry x r
     have hlen:=congrArg List.length h1
     have hg0:0<g0.length:=By.2 h2
     simp only [Az,A0] at hlen hl
     rw [h5] at hg
     rcases Al.1 hg with rfl|hg
     ·simp only [A0];omega
     ·have:=ih l' (by omega) g hg
      simp only [A0];omega
  exact Dc (this _ _ (Ac _) g hg) hl
 generalize grp z.recs=gs at*
 have:=Gk (fn:=S) (N:=N) (η:=[z.pv,p1,p2,p3,p4,p5,Gy gs]) (id:=1) (init:=[.c (.s []),.c (.s []),.c (.b false),.c (.i .i64 0)]) (body:=Wp) gs (fun i (a:List UInt8×List UInt8×Bool)=>[.s a.1,.s a.2.1,.b a.2.2,.i .i64 (i:Int)]) (fun i a r=>Kx4 (Bx9 z.origin r a.1 a.2.1 a.2.2)) (fun i a=>a.1.length≤9223372036854775807∧a.2.1.length≤9223372036854775807) ([],[],false) ?_ (by simp) (by omega) (fun i a g r hd hi hc hI=> ?_) (fun a hI=> ?_)
 ·exact this
 ·simp (disch:=omega) only [EVC,xe,EVP,↓reduceIte,EV,Nat.reduceAdd,Nat.reduceEqDiff,Int.reduceToNat,reduceCtorEq]
  try rfl
 ·obtain ⟨cut,red,soa⟩:=a
  obtain ⟨hI1,hI2⟩:=hI
  simp only at hI1 hI2 ⊢
  have hgm:=Ar hc
  obtain ⟨hg,hgz⟩:=gf1 g hgm
  obtain ⟨x,hx,hxm⟩:∃x,g[0]? =some x∧x∈g:=by
   cases g with
   |nil=>exact absurd rfl hg
   |cons x r=>exact ⟨x,rfl,.head _⟩
  have hnm:nmG g=x.name:=by
   cases g with
   |nil=>exact absurd rfl hg
   |cons y r=>simp at hx;rw [←hx];rfl
  have hxl:x.name.length≤9223372036854775807:=(hz.recs.2 x (hgz x hxm)).name
  have hzl:z.origin.length≤9223372036854775807:=hz.origin
  obtain ⟨p11,kA⟩:=Lf9 z g gs x N i cut red soa hc hx hxl hI1 p1 p2 p3 p4 p5
  have hku:(Dn x.name cut).length≤9223372036854775807:=by unfold Dn;split<;>simp [hI1]
  have hkr:(Dn x.name red).length≤9223372036854775807:=by unfold Dn;split<;>simp [hI2]
  obtain ⟨p13,kB⟩:=Lf8 z g gs x N i cut red soa hc hx hxl hI2 p1 p2 p3 p4 p5 p11 (.s (Dn x.name cut))
  have kC:=Lf7 z g gs x N i soa hc hx hnm hg (hgl g hgm) (by omega) hxl hzl (Dn x.name cut) (Dn x.name red) p1 p2 p3 p4 p5 (.s cut) (.s red) p11 p13
  have kall:=kA.trans (kB.trans kC)
  have hlt:(i:Int)<(gs.length:Int):=by omega
  have hb:Wp.ev S N [z.pv,p1,p2,p3,p4,p5,Gy gs,.s cut,.s red,.b soa,.i .i64 (i:Int)]=T7.ev S N [z.pv,p1,p2,p3,p4,p5,Gy gs,.s cut,.s red,.b soa,.i .i64 (i:Int)]:=by
   have xb:=A3 Wp.eq_1
   simp (disch:=omega) only [xb,hlt,Ox,EVC,xe,EVP,↓reduceIte,EV,Nat.reduceAdd,Nat.reduceEqDiff,Int.reduceToNat,reduceCtorEq]
  have hb2:=hb.trans kall
  have estep:Bx9 z.origin (g::r) cut red soa=if propG z.origin g (decide (Dn x.name cut≠[])) (decide (Dn x.name red≠[]))=true then Bx9 z.origin r (if Dn x.name cut=[]∧x.name≠z.origin∧F8 g 2=true then x.name else Dn x.name cut) (if F8 g 39=true then x.name else Dn x.name red) (soa||decide (x.name=z.origin)) else none:=by
   simp only [Bx9,hnm]
  by_cases hP:propG z.origin g (decide (Dn x.name cut≠[])) (decide (Dn x.name red≠[]))=true
  ·left
   rw [if_pos hP] at hb2 estep
   refine ⟨(if Dn x.name cut=[]∧x.name≠z.origin∧F8 g 2=true then x.name else Dn x.name cut,if F8 g 39=true then x.name else Dn x.name red,soa||decide (x.name=z.origin)),hb2,⟨?_,?_⟩,?_⟩
   ·exact Cf4 _ _ _ hxl hku
   ·exact Cf4 _ _ _ hxl hkr
   ·rw [estep]
  ·right
   rw [if_neg hP] at hb2 estep
   rw [estep]
   exact ⟨hb2,rfl⟩
 ·have hlt:¬(gs.length:Int)<(gs.length:Int):=by omega
  have xb:=A3 Wp.eq_1
  refine ⟨?_,rfl⟩
  simp (disch:=omega) only [xb,hlt,Ox,EVC,xe,EVP,↓reduceIte,EV,Nat.reduceAdd,Nat.reduceEqDiff,Int.reduceToNat,reduceCtorEq]
  rfl
theorem rf (z:Zone) (hz:z.wf):Jd z=if vld z.origin=false then 2 else if 2048<z.recs.length∨Qn z.recs=true then 9 else if z.recs.all Mm=false then 5 else if z.recs≠sortR z.recs then 7 else if Bx9 z.origin (grp z.recs) [] [] false=some true then 0 else 13:=by
 unfold Jd
 rcases Ak (vld z.origin) with h1|h1
 ·have n1:¬vld z.origin=false:=by simp [h1]
  rw [if_neg n1,if_neg n1]
  by_cases h2:2048<z.recs.length
  ·rw [if_pos h2,if_pos (.inl h2)]
  ·rw [if_neg h2]
   have hcr:=Bx4 z.recs
   rcases Ak (z.recs.all fun r=>decide ((findR z.recs r.name r.typ).length≤64)) with h3|h3
   ·rw [h3] at hcr
    have hn2:¬(2048<z.recs.length∨Qn z.recs=true):=by
     rintro (q|q)
     ·exact h2 q
     ·rw [hcr] at q;cases q
    have n3:¬(z.recs.all fun r=>decide ((findR z.recs r.name r.typ).length≤64))=false:=by simp only [h3];simp
    rw [if_neg n3,if_neg hn2]
    rcases Ak (z.recs.all Mm) with h4|h4
    ·have n4:¬z.recs.all Mm=false:=by simp only [h4];simp
     rw [if_neg n4,if_neg n4]
     by_cases h5:z.recs=sortR z.recs
     ·have n5:¬z.recs≠sortR z.recs:=by simpa using h5
      rw [if_neg n5,if_neg n5]
      have hv:∀r∈z.recs,Mm r=true:=Bv.1 h4
      have hr:z.recs.Pairwise ltR:=by rw [h5];exact (Qx z.recs hv).1
      have hk:=zk z (fun r h=>ax (hv r h)) (Bl6 hr) z.recs.length [] z.recs [] [] false (Ac _) rfl (by simp) ⟨by simp,by simp,by simp,by simp⟩
      rw [Cm7,decide_eq_true_eq] at hk
      have hk2:=Bm9 z hv hr
      have hk3:Bx9 z.origin (grp z.recs) [] [] false=some true↔(findR z.recs z.origin 6).length=1∧Ub z.recs z.origin 2=true∧∀r∈z.recs,Kw z r=true:=by
       rw [hk,←hk2];simp
      by_cases h6:Bx9 z.origin (grp z.recs) [] [] false=some true
      ·obtain ⟨a,b,c⟩:=hk3.1 h6
       have c':z.recs.all (Kw z)=true:=Bv.2 c
       have n7:¬((findR z.recs z.origin 6).length≠1∨Ub z.recs z.origin 2=false):=by simp [a,b]
       have n8:¬z.recs.all (Kw z)=false:=by simp only [c'];simp
       rw [if_pos h6,if_neg n7,if_neg n8]
      ·rw [if_neg h6]
       by_cases h7:(findR z.recs z.origin 6).length≠1∨Ub z.recs z.origin 2=false
       ·rw [if_pos h7]
       ·rw [if_neg h7]
        by_cases h8:z.recs.all (Kw z)=false
        ·rw [if_pos h8]
        ·exfalso
         simp only [not_or,ne_eq,G4,Fp] at h7 h8
         exact h6 (hk3.2 ⟨h7.1,h7.2,Bv.1 h8⟩)
     ·rw [if_pos h5,if_pos h5]
    ·rw [if_pos h4,if_pos h4]
   ·rw [h3] at hcr
    rw [if_pos h3,if_pos (.inr hcr)]
 ·rw [if_pos h1,if_pos h1]
theorem Uz (z:Zone) (hz:z.wf) (hl:z.recs.length≤1000000):S mb 1 [z.pv]=some [.i .i64 (Jd z)]:=by
 obtain ⟨N,hN⟩:∃N,N=z.recs.length+2:=⟨_,rfl⟩
 refine Ks8 (N:=N) rfl ?_
 rw [rf z hz]
 have hzl:z.origin.length≤9223372036854775807:=hz.origin
 have k1:=B4 z.origin hzl
 have k2:=Bx3 z.recs hl
 have k3:=Ij z.recs Cw4 [] (fun r=> !Mm r) hl (fun r hr=>by
  refine Kp4 (N:=1) rfl ?_
  have:=El2 r (hz.recs.2 r hr)
  simp (disch:=omega) only [Kc1,this,EVC,xe,EVP,↓reduceIte,EV,Nat.reduceAdd,Nat.reduceEqDiff,Int.reduceToNat,reduceCtorEq])
 have e3:(z.recs.any fun r=> !Mm r)= !z.recs.all Mm:=by rw [List.not_all_eq_any_not]
 rw [e3] at k3
 have k4:=Al1 z.recs hz.recs.2 hl
 have hsl:(sortR z.recs).length≤1000000:=by
  obtain ⟨r,h1,h2,_⟩:=Kl Ix3 (by rw [Bk7];exact Is2) z.recs hz.recs.2 hl
  rw [Bk7] at h1
  have:=T4 eqF r
  rw [Xg h1] at this
  omega
 have k5:=Em3 z.recs (sortR z.recs) hl hsl
 have k6:=Cg6 z.recs hl
 have k7:=fun p1 p2 p3 p4 p5=>Ld4 z hz hl N (by omega) p1 p2 p3 p4 p5
 have xt:=A3 Bg4.eq_1
 have x28:=A3 o0.eq_1
 have x27:=A3 o2.eq_1
 have x26:=A3 o3.eq_1
 have x25:=A3 o4.eq_1
 have x24:=A3 o5.eq_1
 have x23:=A3 o6.eq_1
 have x22:=A3 o7.eq_1
 have x21:=A3 o9.eq_1
 have x20:=A3 pj.eq_1
 have x19:=A3 pk.eq_1
 have x18:=A3 pw.eq_1
 rcases Ak (vld z.origin) with h1|h1
 ·have n1:¬vld z.origin=false:=by simp [h1]
  rw [if_neg n1]
  rw [h1] at k1
  by_cases h2:2048<z.recs.length
  ·rw [if_pos (.inl h2)]
   have h2':(2048:Int)<(z.recs.length:Int):=by omega
   simp (disch:=omega) only [xt,x28,x27,x26,k1,h2',EVC,xe,EVP,↓reduceIte,EV,Nat.reduceAdd,Nat.reduceEqDiff,Int.reduceToNat,reduceCtorEq]
  ·have h2':¬(2048:Int)<(z.recs.length:Int):=by omega
   rcases Ak (Qn z.recs) with h3|h3<;>rw [h3] at k2
   ·rw [if_pos (.inr h3)]
    simp (disch:=omega) only [xt,x28,x27,x26,k1,k2,h2',EVC,xe,EVP,↓reduceIte,EV,Nat.reduceAdd,Nat.reduceEqDiff,Int.reduceToNat,reduceCtorEq]
   ·have n2:¬(2048<z.recs.length∨Qn z.recs=true):=by simp only [h2,h3];simp
    rw [if_neg n2]
    rcases Ak (z.recs.all Mm) with h4|h4<;>rw [h4] at k3
    ·have n4:¬z.recs.all Mm=false:=by simp only [h4];simp
     rw [if_neg n4]
     by_cases h5:z.recs=sortR z.recs
     ·have n5:¬z.recs≠sortR z.recs:=by simpa using h5
      rw [if_neg n5]
      have e5:decide (z.recs=sortR z.recs)=true:=decide_eq_true h5
      rw [e5] at k5
      clear h5 e5
      generalize sortR z.recs=sr at*
      cases h6:Bx9 z.origin (grp z.recs) [] [] false with
      |none=>
       rw [h6] at k7
       simp only [Kx4] at k7
       generalize grp z.recs=gs at*
       rw [if_neg (by simp)]
       simp (disch:=omega) only [xt,x28,x27,x26,x25,x24,x23,x22,x21,x20,x19,x18,k1,k2,h2',k3,k4,k5,k6,k7,Ox,EVC,xe,EVP,↓reduceIte,EV,Nat.reduceAdd,Nat.reduceEqDiff,Int.reduceToNat,reduceCtorEq]
      |some b=>
       rw [h6] at k7
       simp only [Kx4] at k7
       generalize grp z.recs=gs at*
       cases b
       ·rw [if_neg (by simp)]
        simp (disch:=omega) only [xt,x28,x27,x26,x25,x24,x23,x22,x21,x20,x19,x18,k1,k2,h2',k3,k4,k5,k6,k7,Ox,EVC,xe,EVP,↓reduceIte,EV,Nat.reduceAdd,Nat.reduceEqDiff,Int.reduceToNat,reduceCtorEq]
       ·rw [if_pos rfl]
        simp (disch:=omega) only [xt,x28,x27,x26,x25,x24,x23,x22,x21,x20,x19,x18,k1,k2,h2',k3,k4,k5,k6,k7,Ox,EVC,xe,EVP,↓reduceIte,EV,Nat.reduceAdd,Nat.reduceEqDiff,Int.reduceToNat,reduceCtorEq]
     ·rw [if_pos h5]
      have e5:decide (z.recs=sortR z.recs)=false:=decide_eq_false h5
      rw [e5] at k5
      clear h5 e5
      generalize sortR z.recs=sr at*
      simp (disch:=omega) only [xt,x28,x27,x26,x25,x24,x23,x22,x21,k1,k2,h2',k3,k4,k5,EVC,xe,EVP,↓reduceIte,EV,Nat.reduceAdd,Nat.reduceEqDiff,Int.reduceToNat,reduceCtorEq]
    ·rw [if_pos h4]
     simp (disch:=omega) only [xt,x28,x27,x26,x25,x24,k1,k2,h2',k3,EVC,xe,EVP,↓reduceIte,EV,Nat.reduceAdd,Nat.reduceEqDiff,Int.reduceToNat,reduceCtorEq]
     try simp
 ·rw [if_pos h1]
  rw [h1] at k1
  simp (disch:=omega) only [xt,x28,k1,EVC,xe,EVP,↓reduceIte,EV,Nat.reduceAdd,Nat.reduceEqDiff,Int.reduceToNat,reduceCtorEq]
theorem bg (l:List Rec) (hw:∀r∈l,r.wf) (hl:l.length≤1000000):(sortR l).length≤l.length:=by
 obtain ⟨r,h1,h2,_⟩:=Kl Ix3 (by rw [Bk7];exact Is2) l hw hl
 rw [Bk7] at h1
 have:=T4 eqF r
 rw [Xg h1] at this
 omega
end Go.X.G
/- Delegations and names of a zone, as the reference finds them; what exists. -/
namespace Go.X.G
open Go Go.X
def Cg2 (x:List UInt8):List (List UInt8)→List (List UInt8)
 |[]=>[x]
 |y::r=>if I3 y x<0 then y::Cg2 x r else if y=x then y::r else x::y::r
theorem insN_mem (x z:List UInt8):∀(l:List (List UInt8)),z∈Cg2 x l↔z=x∨z∈l
 |[]=>by simp [Cg2]
 |y::r=>by
  have ih:=insN_mem x z r
  simp only [Cg2]
  split
  ·simp only [Al,ih];grind
  ·split
   ·rename_i h;subst h;simp only [Al];grind
   ·simp only [Al]
theorem Tc (x:List UInt8):∀(l:List (List UInt8)),l.Pairwise ltN→(Cg2 x l).Pairwise ltN
 |[],_=>by simp [Cg2]
 |y::r,h=>by
  obtain ⟨h1,h2⟩:=As.1 h
  have ih:=Tc x r h2
  simp only [Cg2]
  by_cases c:I3 y x<0
  ·rw [if_pos c]
   refine As.2 ⟨fun w hw=> ?_,ih⟩
   rcases (insN_mem x w r).1 hw with rfl|hw
   ·exact (Et _ _).1 c
   ·exact h1 w hw
  ·rw [if_neg c]
   by_cases e:y=x
   ·rw [if_pos e];exact h
   ·rw [if_neg e]
    have hxy:ltN x y:=by
     rcases to_N.tri x y with q|q|q
     ·exact q
     ·exact absurd q.symm e
     ·exact absurd ((Et _ _).2 q) c
    refine As.2 ⟨fun w hw=> ?_,h⟩
    rcases Al.1 hw with rfl|hw
    ·exact hxy
    ·exact to_N.tr _ _ _ hxy (h1 w hw)
def Gj1 (l:List (List UInt8)):List (List UInt8):=l.foldl (fun a x=>Cg2 x a) []
theorem dz (l:List (List UInt8)):Gj1 l=setN l:=by
 have:∀(l a:List (List UInt8)),a.Pairwise ltN→(l.foldl (fun a x=>Cg2 x a) a).Pairwise ltN∧∀z,z∈l.foldl (fun a x=>Cg2 x a) a↔z∈a∨z∈l:=by
  intro l
  induction l with
  |nil=>intro a h;exact ⟨h,fun z=>by simp⟩
  |cons x r ih=>
   intro a h
   obtain ⟨h1,h2⟩:=ih (Cg2 x a) (Tc x a h)
   refine ⟨h1,fun z=> ?_⟩
   rw [List.foldl_cons,h2,insN_mem,Al]
   grind
 obtain ⟨h1,h2⟩:=this l [] List.Pairwise.nil
 exact Sd to_N _ _ h1 (M9 l) fun x=>by
  rw [Kv]
  rw [Gj1,h2 x]
  simp
end Go.X.G
/- What exists in a zone, and what encloses a name; names with another end. -/
namespace Go.X.G
open Go Go.X
def exB (z:Zone) (x:List UInt8):Bool:=z.recs.any fun r=>under r.name z.origin && !jh z r.name && under r.name x && under x z.origin
theorem Jt1 (z:Zone) (x:List UInt8):exB z x=true↔Gv8 z x:=by
 unfold exB Gv8
 simp only [B8,Av,A7,and_assoc]
theorem Ch4 (z:Zone) (x:List UInt8):decide (x∈namesN z)=exB z x:=by
 rw [Ch,Jt1,←As9]
 simp
theorem Vn (z:Zone) (hl:z.recs.length≤1000):(namesN z).length≤1000000:=by
 have h1:=Xm (Il1 z)
 have h2:∀l:List Rec,(l.flatMap fun r=>upN z.origin r.name).length≤256*l.length:=by
  intro l
  induction l with
  |nil=>simp
  |cons x r ih=>
   have:=ky z.origin x.name
   rw [G2,Az,A0];omega
 have h3:=h2 (z.recs.filter fun r=>under r.name z.origin && !jh z r.name)
 have h4:=D5 (fun r=>under r.name z.origin && !jh z r.name) z.recs
 show (setN (Il1 z)).length≤1000000
 unfold Il1 at h1 ⊢
 omega
theorem U5 (z:Zone) (n:List UInt8) (hz:z.wf) (hl:z.recs.length≤1000):S Bj9 2 [z.pv,.s n]=some [.b (exB z n)]:=by
 refine Kr4 (N:=1) rfl ?_
 have k1:=Rp z hz hl
 have k2:=Q0 (namesN z) n (Vn z hl)
 rw [Ch4] at k2
 generalize namesN z=nz at*
 simp (disch:=omega) only [Kc6,k1,k2,EVM,EVC,xe,EVP,↓reduceIte,EV,Nat.reduceAdd,Nat.reduceEqDiff,Int.reduceToNat,reduceCtorEq]
def Kk5 (z:Zone) (n:List UInt8):Option (List UInt8):=(upN z.origin n).find? (exB z)
def Kk6 (z:Zone) (n:List UInt8):List UInt8:=if under n z.origin=true then (Kk5 z n).getD [] else []
theorem Ir7 {n:List UInt8} (h:vld n=true):n≠[]:=fun e=>by subst e;simp [vld,nm] at h
theorem Ch8 {z:Zone} {n e:List UInt8} (hu:under n z.origin=true) (h:Kk5 z n=some e):under n e=true∧exB z e=true:=by
 unfold Kk5 at h
 have h1:=List.mem_of_find?_eq_some h
 have h2:=List.find?_some h
 exact ⟨((R5 hu).1 h1).1,h2⟩
theorem Qk (z:Zone) (n:List UInt8) (hz:z.wf) (hl:z.recs.length≤1000) (hn:n.length≤9223372036854775807):S Bk1 2 [z.pv,.s n]=some [.s (Kk6 z n),.b (decide (Kk6 z n≠[]))]:=by
 refine Kr7 (N:=1000) rfl ?_
 have g1:=hz.origin
 unfold M8 at g1
 have k0:=Hq n z.origin hn g1
 unfold Kk6
 rcases Ak (under n z.origin) with hu|hu
 ·rw [if_pos hu]
  rw [hu] at k0
  have k1:=Rp z hz hl
  have hnl:=Vn z hl
  have k2:∀x,S l9 2 [Bw (namesN z),.s x]=some [.b (exB z x)]:=fun x=>by rw [←Ch4];exact Q0 (namesN z) x hnl
  generalize namesN z=nz at*
  obtain ⟨v1,v2,_⟩:=C9.1 hu
  have hlb:=G7 n
  have h0:jn ((lbl n).drop 0)=n:=Cf1 v1
  let res:Option (List UInt8)→Out:=fun o=>match o with|some e=> .yld 0 [.s e]|none=> .ret [.s [],.b false]
  have key:Gv0.ev S 1000 [z.pv,.s n,.b true,Bw nz]=some (res (Kk5 z n)):=by
   have:=Er (fn:=S) (N:=1000) (η:=[z.pv,.s n,.b true,Bw nz]) (id:=1) (init:=[(.v 1)]) (body:=Eg2) ((lbl n).length - (lbl z.origin).length)
    (fun k=>[.s (jn ((lbl n).drop k))]) (fun k=>res (((upN z.origin n).drop k).find? (exB z))) ?_ (by omega) (fun k hk=> ?_) ?_
   ·exact this
   ·rw [h0]
    simp (disch:=omega) only [EVM,EVC,xe,EVP,↓reduceIte,EV,Nat.reduceAdd,Nat.reduceEqDiff,Int.reduceToNat,reduceCtorEq]
   ·have hup:(upN z.origin n)[k]? =some (jn ((lbl n).drop k)):=Xb (Nat.le_of_lt hk)
    have hd:(upN z.origin n).drop k=jn ((lbl n).drop k)::(upN z.origin n).drop (k+1):=by
     obtain ⟨h1,h2⟩:=Aq.1 hup
     rw [B0 h1,h2]
    obtain ⟨q1,q2⟩:=Fr7 hu hk
    have q3:¬jn ((lbl n).drop k)=z.origin:=fun h=>by have:=(s7 hu (Nat.le_of_lt hk)).1 h;omega
    have q4:=Gv7 v1 k
    have k1:=W0 (jn ((lbl n).drop k)) (by omega)
    rw [q1,q2] at k1
    have k3:=k2 (jn ((lbl n).drop k))
    rw [hd]
    generalize jn ((lbl n).drop (k+1))=nx at*
    generalize jn ((lbl n).drop k)=cu at*
    rcases Ak (exB z cu) with h5|h5
    ·right
     rw [h5] at k3
     rw [List.find?_cons_of_pos h5]
     refine ⟨?_,rfl⟩
     simp (disch:=omega) only [kv,k3,EVM,EVC,xe,EVP,↓reduceIte,EV,Nat.reduceAdd,Nat.reduceEqDiff,Int.reduceToNat,reduceCtorEq]
     rfl
    ·left
     rw [h5] at k3
     rw [List.find?_cons_of_neg (by simp [h5])]
     refine ⟨?_,rfl⟩
     simp (disch:=omega) only [kv,k1,k3,q3,EVM,EVC,xe,EVP,↓reduceIte,EV,Nat.reduceAdd,Nat.reduceEqDiff,Int.reduceToNat,reduceCtorEq]
   ·have hup:(upN z.origin n)[(lbl n).length - (lbl z.origin).length]? =some (jn ((lbl n).drop ((lbl n).length - (lbl z.origin).length))):=Xb (Ac _)
    have hd:(upN z.origin n).drop ((lbl n).length - (lbl z.origin).length)=[jn ((lbl n).drop ((lbl n).length - (lbl z.origin).length))]:=by
     obtain ⟨h1,h2⟩:=Aq.1 hup
     have h9:(upN z.origin n).drop ((lbl n).length - (lbl z.origin).length+1)=[]:=W3 (by simp [upN])
     rw [B0 h1,h2,h9]
    have q3:=(s7 hu (Ac _)).2 rfl
    rw [hd,q3]
    have k3:=k2 z.origin
    rcases Ak (exB z z.origin) with h5|h5
    ·rw [h5] at k3
     rw [List.find?_cons_of_pos h5]
     refine ⟨?_,rfl⟩
     simp (disch:=omega) only [kv,k3,EVM,EVC,xe,EVP,↓reduceIte,EV,Nat.reduceAdd,Nat.reduceEqDiff,Int.reduceToNat,reduceCtorEq]
     rfl
    ·rw [h5] at k3
     rw [List.find?_cons_of_neg (by simp [h5]),List.find?_nil]
     refine ⟨?_,rfl⟩
     simp (disch:=omega) only [kv,k3,EVM,EVC,xe,EVP,↓reduceIte,EV,Nat.reduceAdd,Nat.reduceEqDiff,Int.reduceToNat,reduceCtorEq]
     rfl
  cases he:Kk5 z n with
  |none=>
   rw [he] at key
   simp only [res] at key
   simp (disch:=omega) only [kv,k0,k1,key,EVM,EVC,xe,EVP,↓reduceIte,EV,Nat.reduceAdd,Nat.reduceEqDiff,Int.reduceToNat,reduceCtorEq]
   simp
  |some e=>
   rw [he] at key
   simp only [res] at key
   have h6:=Ir7 (C9.1 (Ch8 hu he).1).2.1
   simp (disch:=omega) only [kv,k0,k1,key,EVM,EVC,xe,EVP,↓reduceIte,EV,Nat.reduceAdd,Nat.reduceEqDiff,Int.reduceToNat,reduceCtorEq]
   simp [h6]
 ·rw [if_neg (by simp [hu])]
  rw [hu] at k0
  simp (disch:=omega) only [kv,k0,EVM,EVC,xe,EVP,↓reduceIte,EV,Nat.reduceAdd,Nat.reduceEqDiff,Int.reduceToNat,reduceCtorEq]
  try simp
end Go.X.G
/- The law LookupSoas. -/
namespace Go.X.G
open Go Go.X
theorem J8 (z:Zone) (n:List UInt8) (t:Int) (hl:z.recs.length≤1000000):S df 3 [z.pv,.s n,.i .i64 t]=some [Af (findR z.recs n t)]:=by
 refine Ks0 (N:=1) rfl ?_
 simp (disch:=omega) only [Kc8,Fp1,xe,EVP,↓reduceIte,EV,Nat.reduceAdd,Nat.reduceEqDiff,Int.reduceToNat,reduceCtorEq]
theorem Em2 (z:Zone) (n:List UInt8) (t:Int) (hl:z.recs.length≤1000000):S Cw9 3 [z.pv,.s n,.i .i64 t]=some [Af (findR z.recs n t)]:=by
 refine Kr9 (N:=1) rfl ?_
 simp (disch:=omega) only [Kc7,Jh,xe,EVP,↓reduceIte,EV,Nat.reduceAdd,Nat.reduceEqDiff,Int.reduceToNat,reduceCtorEq]
def zero:Dat:=⟨false,0,0,[],[],[],0,0,0,0,0,0,0⟩
end Go.X.G
/- The laws of zones: what they call. -/
namespace Go.X.G
open Go Go.X
theorem Ff (o:List UInt8) (l:List Rec):PV.a [.s o,Af l]=Zone.pv ⟨o,l⟩:=rfl
theorem Om (z:Zone):(⟨z.origin,z.recs⟩:Zone)=z:=rfl
def c3 (s:List UInt8):List UInt8:=s.take 300
def J4 (r:Rec):Rec:=⟨c3 r.name,r.typ,r.ttl,{r.data with host:=c3 r.data.host,mail:=c3 r.data.mail,text:=c3 r.data.text}⟩
def smallZ (z:Zone):Zone:=⟨c3 z.origin,(z.recs.take 70).map J4⟩
theorem Gp7 (s:List UInt8):(c3 s).length≤300:=by unfold c3;rw [Ah];omega
theorem Cl9 {r:Rec} (h:r.wf):(J4 r).wf:=by
 have hs:∀s:List UInt8,M8 (c3 s):=fun s=>by have:=Gp7 s;unfold M8;omega
 exact ⟨hs _,h.typ,h.ttl,⟨h.data.hi,h.data.lo,hs _,hs _,hs _,h.data.a,h.data.b,h.data.c,h.data.d,h.data.e,h.data.f,h.data.bits⟩⟩
theorem Bh3 {z:Zone} (h:z.wf):(smallZ z).wf:=by
 refine ⟨by have:=Gp7 z.origin;unfold smallZ M8;simp only;omega,by simp [smallZ];omega,fun r hr=> ?_⟩
 simp only [smallZ,D6] at hr
 obtain ⟨x,hx,rfl⟩:=hr
 exact Cl9 (h.recs.2 x (E7 hx))
theorem Am1 (z:Zone):(smallZ z).recs.length≤70:=by simp [smallZ];omega
theorem bc (s:List UInt8) (hs:s.length≤9223372036854775807):bd (.s s) (.i .i64 0) (.i .i64 (if (300:Int)<(s.length:Int) then 300 else (s.length:Int)))=some (.s (c3 s)):=by
 unfold c3
 by_cases h:(300:Int)<(s.length:Int)
 ·rw [if_pos h]
  have h1:(0:Int)≤0∧(0:Int)≤300∧(300:Int)≤(s.length:Int):=by omega
  simp only [bd,h1,and_self,if_true]
  rfl
 ·rw [if_neg h]
  have h1:(0:Int)≤0∧(0:Int)≤(s.length:Int)∧(s.length:Int)≤(s.length:Int):=by omega
  simp only [bd,h1,and_self,if_true,G3,Ct]
  rw [C5 (by omega)]
  rfl
theorem Jd7 (n:Int):Fd1 (.i .i64 n) (.i .i64 300)=some (.i .i64 (if (300:Int)<n then 300 else n)):=by simp [Fd1]
theorem Fn9 (z:Zone) (hz:z.wf):S Cy3 1 [z.pv]=some [(smallZ z).pv]:=by
 obtain ⟨N,hN⟩:∃N:Nat,N=72:=⟨_,rfl⟩
 refine Kt0 (N:=N) rfl ?_
 have hzl:z.origin.length≤9223372036854775807:=hz.origin
 have hrl:=hz.recs.1
 have key:Gv6.ev S N [z.pv]=some (.yld 0 [Af ((z.recs.take 70).map J4)]):=by
  have hm:(z.recs.take 70).length≤70:=by simp;omega
  refine Dx (z.recs.take 70) (fun i=>[Af ((z.recs.take i).map J4),.i .i64 (i:Int)]) (fun i r=> .yld 0 [Af ((z.recs.take 70).map J4)]) rfl (by omega) (fun i c r hd hi hc=> ?_) ?_
  ·left
   refine ⟨?_,rfl⟩
   have hi70:i<70:=by omega
   have hc':z.recs[i]? =some c:=by rw [←hc,List.getElem?_take_of_lt hi70]
   have hil:=(Aq.1 hc').1
   have hcw:=hz.recs.2 c (Ar hc')
   have e:(z.recs.take (i+1)).map J4=(z.recs.take i).map J4++[J4 c]:=by rw [B7,hc'];simp
   have hlen:((z.recs.take i).map J4).length=i:=by rw [Fw,Ah];omega
   have s1:=bc c.name hcw.name
   have s2:=bc c.data.host hcw.data.host
   have s3:=bc c.data.mail hcw.data.mail
   have s4:=bc c.data.text hcw.data.text
   have h1:(i:Int)<(z.recs.length:Int):=by omega
   have h2:(i:Int)<70:=by omega
   have ei:(i:Int).toNat=i:=by omega
   rw [e]
   generalize (z.recs.take i).map J4=a at*
   simp (disch:=omega) only [Ep2,h1,h2,ei,hc',Jd7,s1,s2,s3,s4,EVC,xe,EVP,↓reduceIte,EV,Nat.reduceAdd,Nat.reduceEqDiff,Int.reduceToNat,reduceCtorEq]
   rfl
  ·refine ⟨?_,rfl⟩
   have e:z.recs.take (z.recs.take 70).length=z.recs.take 70:=by
    rw [Ah]
    by_cases h:z.recs.length≤70
    ·rw [Nat.min_eq_right h,Ct,C5 h]
    ·rw [Nb (by omega)]
   have hlen:((z.recs.take 70).length:Int)=if 70<z.recs.length then 70 else (z.recs.length:Int):=by
    rw [Ah];split<;>omega
   rw [e,hlen]
   by_cases h:70<z.recs.length
   ·rw [if_pos h]
    have h1:(70:Int)<(z.recs.length:Int):=by omega
    generalize (z.recs.take 70).map J4=a at*
    simp (disch:=omega) only [Ep2,h1,EVC,xe,EVP,↓reduceIte,EV,Nat.reduceAdd,Nat.reduceEqDiff,Int.reduceToNat,reduceCtorEq]
   ·rw [if_neg h]
    have h1:¬(z.recs.length:Int)<(z.recs.length:Int):=by omega
    generalize (z.recs.take 70).map J4=a at*
    simp (disch:=omega) only [Ep2,h1,EVC,xe,EVP,↓reduceIte,EV,Nat.reduceAdd,Nat.reduceEqDiff,Int.reduceToNat,reduceCtorEq]
 have s0:=bc z.origin hzl
 unfold smallZ
 generalize (z.recs.take 70).map J4=a at*
 simp (disch:=omega) only [Ep2,key,Jd7,s0,Ff,EVC,xe,EVP,↓reduceIte,EV,Nat.reduceAdd,Nat.reduceEqDiff,Int.reduceToNat,reduceCtorEq]
theorem cq (a b:Zone) (ha:a.recs.length≤1000000):S Cy0 2 [a.pv,b.pv]=some [.b (decide (a=b))]:=by
 refine Ks6 (N:=1) rfl ?_
 have k:=J6 a.recs b.recs ha
 by_cases h1:a.origin=b.origin
 ·have e:decide (a=b)=decide (a.recs=b.recs):=by
   rw [Ch,decide_eq_true_eq,decide_eq_true_eq]
   exact ⟨fun h=>by rw [h],fun h=>by cases a;cases b;simp only at h h1;rw [h,h1]⟩
  rw [e]
  simp (disch:=omega) only [Im2,k,h1,EVC,xe,EVP,↓reduceIte,EV,Nat.reduceAdd,Nat.reduceEqDiff,Int.reduceToNat,reduceCtorEq]
 ·have e:decide (a=b)=false:=decide_eq_false fun h=>h1 (by rw [h])
  rw [e]
  simp (disch:=omega) only [Im2,h1,EVC,xe,EVP,↓reduceIte,EV,Nat.reduceAdd,Nat.reduceEqDiff,Int.reduceToNat,reduceCtorEq]
def newZ (o:List UInt8) (l:List Rec):Zone:=if Jd ⟨o,sortR l⟩=0 then ⟨o,sortR l⟩ else ⟨[],[]⟩
theorem Fx5 {l:List Rec} (h:∀r∈l,r.wf):∀r∈sortR l,r.wf:=fun r hr=>h r (((Vv l).2 r).1 hr).mem
theorem w7 {o:List UInt8} {l:List Rec} (ho:M8 o) (hl:l.length≤1000000) (hw:∀r∈l,r.wf):(⟨o,sortR l⟩:Zone).wf:=by
 have:=bg l hw hl
 exact ⟨ho,by simp only;omega,Fx5 hw⟩
theorem El7 (o:List UInt8) (l:List Rec) (ho:M8 o) (hl:l.length≤1000000) (hw:∀r∈l,r.wf):S Bk5 2 [.s o,Af l]=some [(newZ o l).pv,.i .i64 (Jd ⟨o,sortR l⟩)]:=by
 refine Ks9 (N:=1) rfl ?_
 have k1:=Al1 l hw hl
 have hlen:=bg l hw hl
 have k2:=Uz ⟨o,sortR l⟩ (w7 ho hl hw) (by simp only;omega)
 unfold newZ
 generalize sortR l=s at*
 by_cases h:Jd ⟨o,s⟩=0
 ·rw [if_pos h]
  rw [h] at k2 ⊢
  simp (disch:=omega) only [In7,k1,k2,Ff,EVC,xe,EVP,↓reduceIte,EV,Nat.reduceAdd,Nat.reduceEqDiff,Int.reduceToNat,reduceCtorEq]
 ·rw [if_neg h]
  simp (disch:=omega) only [In7,k1,k2,h,Ff,EVC,xe,EVP,↓reduceIte,EV,Nat.reduceAdd,Nat.reduceEqDiff,Int.reduceToNat,reduceCtorEq]
end Go.X.G
/- The laws of zones: serial numbers, addresses of hosts, the chapter's example. -/
namespace Go.X.G
open Go Go.X
def bh (z:Zone) (r:Rec):Bool:=decide (r.typ=6) && decide (r.name=z.origin)
theorem bl (z:Zone) (r:Rec):S Wj 1 [r.pv,z.pv]=some [.b (bh z r)]:=by
 refine Jz0 (N:=1) rfl ?_
 unfold bh
 by_cases h:r.typ=6
 ·simp (disch:=omega) only [Fr6,h,EVC,xe,EVP,↓reduceIte,EV,Nat.reduceAdd,Nat.reduceEqDiff,Int.reduceToNat,reduceCtorEq]
  try simp
 ·simp (disch:=omega) only [Fr6,h,EVC,xe,EVP,↓reduceIte,EV,Nat.reduceAdd,Nat.reduceEqDiff,Int.reduceToNat,reduceCtorEq]
  try simp
theorem Sq (z:Zone) (hl:z.recs.length≤1000000):S Bj2 1 [z.pv]=some [.i .i64 (ixG (bh z) 0 z.recs)]:=by
 refine Km9 (N:=1) rfl ?_
 have h:=U4 z.recs Wj [z.pv] (bh z) hl (fun r _=>bl z r)
 simp (disch:=omega) only [Kb3,Ff,Om,h,EVC,xe,EVP,↓reduceIte,EV,Nat.reduceAdd,Nat.reduceEqDiff,Int.reduceToNat,reduceCtorEq]
theorem Pz (z:Zone):findR z.recs z.origin 6=z.recs.filter (bh z):=by
 unfold findR
 congr 1
 funext r
 unfold isK bh
 rw [Bool.and_comm]
def Jj2 (z:Zone):Int:=match findR z.recs z.origin 6 with
 |[]=>0
 |r::_=>r.data.a
theorem ix_find (p:Rec→Bool) (l:List Rec):(ixG p 0 l= -1∧l.filter p=[])∨∃(j:Nat) (x:Rec) (r:List Rec),ixG p 0 l=(j:Int)∧l[j]? =some x∧p x=true∧l.filter p=x::r:=by
 have h:=m7 p l 0
 by_cases hn:0≤ixG p 0 l
 ·right
  obtain ⟨j,g1,g2,g3,x,g4,g5⟩:=gj p l 0 hn
  have hd:l=l.take j++x::l.drop (j+1):=by
   have:=B0 g2
   have e:l[j]=x:=by rw [Ax g2] at g4;injection g4
   rw [e] at this
   rw [←this,Bl]
  refine ⟨j,x,(l.drop (j+1)).filter p,by rw [g1];simp,g4,g5,?_⟩
  conv=>lhs;rw [hd]
  rw [E8,Dd g5]
  have:(l.take j).filter p=[]:=Ez.2 fun y hy=>by simp [g3 y hy]
  rw [this,Cd]
 ·left
  refine ⟨by omega,Ez.2 fun y hy=> ?_⟩
  intro hp
  exact hn (h.1.2 (B8.2 ⟨y,hy,hp⟩))
theorem Wt (z:Zone) (hl:z.recs.length≤1000000):S Bk3 1 [z.pv]=some [.i .i64 (Jj2 z)]:=by
 refine Ks3 (N:=1) rfl ?_
 have h:=Sq z hl
 unfold Jj2
 rw [Pz]
 rcases ix_find (bh z) z.recs with ⟨h1,h2⟩|⟨j,x,r,h1,h2,h3,h4⟩
 ·rw [h1] at h
  rw [h2]
  simp (disch:=omega) only [Il9,h,EVC,xe,EVP,↓reduceIte,EV,Nat.reduceAdd,Nat.reduceEqDiff,Int.reduceToNat,reduceCtorEq]
 ·rw [h1] at h
  rw [h4]
  have hj:(0:Int)≤(j:Int):=by omega
  have ej:(j:Int).toNat=j:=by omega
  simp (disch:=omega) only [Il9,h,hj,ej,h2,EVC,xe,EVP,↓reduceIte,EV,Nat.reduceAdd,Nat.reduceEqDiff,Int.reduceToNat,reduceCtorEq]
theorem Bz1 (z:Zone) (hl:z.recs.length≤1000000):S Cx4 1 [z.pv]=some [.i .i64 (Jj2 z)]:=by
 refine Ks2 (N:=1) rfl ?_
 have h:=Jh z.recs z.origin 6 hl
 unfold Jj2
 cases hf:findR z.recs z.origin 6 with
 |nil=>
  rw [hf] at h
  have e:(([]:List Rec).length:Int)=0:=rfl
  simp (disch:=omega) only [Il8,h,e,EVC,xe,EVP,↓reduceIte,EV,Nat.reduceAdd,Nat.reduceEqDiff,Int.reduceToNat,reduceCtorEq]
 |cons x r=>
  rw [hf] at h
  have e:¬((x::r).length:Int)=0:=by simp only [A0];omega
  have g:(x::r)[0]? =some x:=rfl
  simp only
  generalize (x::r)=l at*
  simp (disch:=omega) only [Il8,h,e,g,EVC,xe,EVP,↓reduceIte,EV,Nat.reduceAdd,Nat.reduceEqDiff,Int.reduceToNat,reduceCtorEq]
def Bz7 (s:Int) (r:Rec):Rec:={r with data:={r.data with a:=s}}
def withL (z:Zone) (s:Int):Zone:=⟨z.origin,z.recs.map fun r=>if r.typ=6 then Bz7 s r else r⟩
theorem Kg8 (l:List Rec) (j:Nat) (s:Int) (x:Rec) (h:l[j]? =some x):Sw 16 9 [.i .i64 s] (Af l) (.i .i64 (j:Int))=some (Af (l.set j (Bz7 s x))):=by
 have h1:=(Aq.1 h).1
 have h3:(l.map Rec.pv)[j]? =some x.pv:=by rw [Bd,h];rfl
 have h0:(0:Int)≤(j:Int):=by omega
 simp only [Sw,Af,h0,G3,h3,and_self,if_true,Ay]
 have h4:Pb x.pv 9 [.i .i64 s]=some (Bz7 s x).pv:=rfl
 rw [h4]
 simp [List.map_set]
theorem Bf4 {z:Zone} (hz:ZOk z) (s:Int) {j:Nat} {x:Rec} (h:z.recs[j]? =some x) (hx:bh z x=true):z.recs.set j (Bz7 s x)=(withL z s).recs:=by
 have hone:=hz.soa
 rw [Pz] at hone
 have hj:=(Aq.1 h).1
 have honly:∀i y,z.recs[i]? =some y→y.typ=6→i=j:=by
  intro i y hi hy
  apply Classical.byContradiction
  intro hne
  have hym:=Ar hi
  have hyp:bh z y=true:=by
   have:=hz.recs y hym
   unfold Kw at this
   simp only [Av,A7,F4,decide_eq_false_iff_not,ne_eq,G4] at this
   unfold bh
   rcases this.1.1.2 with q|q
   ·exact absurd hy q
   ·simp [hy,q]
  have hil:=(Aq.1 hi).1
  have h2:2≤(z.recs.filter (bh z)).length:=by
   have key:∀(l:List Rec) (a b:Nat) (u v:Rec),a<b→l[a]? =some u→l[b]? =some v→bh z u=true→bh z v=true→2≤(l.filter (bh z)).length:=by
    intro l
    induction l with
    |nil=>intro a b u v _ ha;simp at ha
    |cons w l ih=>
     intro a b u v hab ha hb hu hv
     obtain ⟨b',rfl⟩:∃b',b=b'+1:=⟨b - 1,by omega⟩
     rw [C2] at hb
     cases a with
     |zero=>
      simp at ha
      subst ha
      rw [Dd hu,A0]
      have:v∈l.filter (bh z):=Bs.2 ⟨Ar hb,hv⟩
      have:=List.length_pos_of_mem this
      omega
     |succ a'=>
      rw [C2] at ha
      have:=ih a' b' u v (by omega) ha hb hu hv
      rw [H5]
      split<;>simp<;>omega
   rcases Nat.lt_or_gt_of_ne hne with q|q
   ·exact key z.recs i j y x q hi h hyp hx
   ·exact key z.recs j i x y q h hi hx hyp
  omega
 have hxt:x.typ=6:=by
  unfold bh at hx
  simp only [Av,decide_eq_true_eq] at hx
  exact hx.1
 apply List.ext_getElem?
 intro i
 show _=(z.recs.map fun r=>if r.typ=6 then Bz7 s r else r)[i]?
 rw [Bd,C3]
 by_cases e:j=i
 ·subst e
  rw [if_pos rfl,if_pos hj,h]
  simp [hxt]
 ·rw [if_neg e]
  cases hi:z.recs[i]? with
  |none=>rfl
  |some y=>
   have:¬y.typ=6:=fun q=>e (honly i y hi q).symm
   simp [this]
theorem Fn6 (z:Zone) (s:Int) (hz:ZOk z) (hw:z.wf) (hl:z.recs.length≤1000000):S mz 2 [z.pv,.i .i64 s]=some (if inB s 4294967295=true then [(withL z s).pv,.i .i64 0] else [Zone.pv ⟨[],[]⟩,.i .i64 14]):=by
 refine Jq3 (N:=1) rfl ?_
 have k1:=Cm s
 have k2:=jd z.recs hl
 have k3:=Sq z hl
 rcases Ak (inB s 4294967295) with h|h<;>rw [h] at k1
 ·rw [if_pos h]
  rcases ix_find (bh z) z.recs with ⟨h1,h2⟩|⟨j,x,r,h1,h2,h3,h4⟩
  ·exfalso
   have:=hz.soa
   rw [Pz,h2] at this
   simp at this
  ·rw [h1] at k3
   have hj:(0:Int)≤(j:Int):=by omega
   have ej:(j:Int).toNat=j:=by omega
   have hs:=Kg8 z.recs j s x h2
   rw [Bf4 hz s h2 h3] at hs
   have e2:(withL z s).pv=Zone.pv ⟨z.origin,(withL z s).recs⟩:=rfl
   rw [e2]
   generalize (withL z s).recs=w at*
   simp (disch:=omega) only [Hl1,k1,k2,k3,hj,ej,h2,hs,Ff,Om,EVC,xe,EVP,↓reduceIte,EV,Nat.reduceAdd,Nat.reduceEqDiff,Int.reduceToNat,reduceCtorEq]
 ·rw [if_neg (by simp [h])]
  simp (disch:=omega) only [Hl1,k1,Ff,EVC,xe,EVP,↓reduceIte,EV,Nat.reduceAdd,Nat.reduceEqDiff,Int.reduceToNat,reduceCtorEq]
theorem By9 (z:Zone) (s:Int) (h:inB s 4294967295=false):S mz 2 [z.pv,.i .i64 s]=some [Zone.pv ⟨[],[]⟩,.i .i64 14]:=by
 refine Jq3 (N:=1) rfl ?_
 have k1:=Cm s
 rw [h] at k1
 simp (disch:=omega) only [Hl1,k1,Ff,EVC,xe,EVP,↓reduceIte,EV,Nat.reduceAdd,Nat.reduceEqDiff,Int.reduceToNat,reduceCtorEq]
theorem Fn5 (z:Zone) (s:Int) (hl:z.recs.length≤1000000):S Cx9 2 [z.pv,.i .i64 s]=some (if inB s 4294967295=true then [(withL z s).pv,.i .i64 0] else [Zone.pv ⟨[],[]⟩,.i .i64 14]):=by
 obtain ⟨N,hN⟩:∃N,N=z.recs.length+1:=⟨_,rfl⟩
 refine Ks4 (N:=N) rfl ?_
 have k1:=jj s
 rcases Ak (inB s 4294967295) with h|h<;>rw [h] at k1
 ·rw [if_pos h]
  have key:Gv3.ev S N [z.pv,.i .i64 s,.b true]=some (.yld 0 [Af (withL z s).recs]):=by
   refine Dx z.recs (fun i=>[Af ((z.recs.take i).map fun r=>if r.typ=6 then Bz7 s r else r),.i .i64 (i:Int)]) (fun i r=> .yld 0 [Af (withL z s).recs]) rfl (by omega) (fun i c r hd hi hc=> ?_) ?_
   ·left
    refine ⟨?_,rfl⟩
    have e:(z.recs.take (i+1)).map (fun r=>if r.typ=6 then Bz7 s r else r)=(z.recs.take i).map (fun r=>if r.typ=6 then Bz7 s r else r)++[if c.typ=6 then Bz7 s c else c]:=by rw [B7,hc];simp
    have hlen:((z.recs.take i).map fun r=>if r.typ=6 then Bz7 s r else r).length≤1000000:=by rw [Fw,Ah];omega
    have h1:(i:Int)<(z.recs.length:Int):=by omega
    have ei:(i:Int).toNat=i:=by omega
    rw [e]
    generalize (z.recs.take i).map (fun r=>if r.typ=6 then Bz7 s r else r)=a at*
    by_cases ht:c.typ=6
    ·rw [if_pos ht]
     have ht':=eq_true ht
     simp (disch:=omega) only [Bd1,h1,ei,hc,ht',EVC,xe,EVP,↓reduceIte,EV,Nat.reduceAdd,Nat.reduceEqDiff,Int.reduceToNat,reduceCtorEq]
     rfl
    ·rw [if_neg ht]
     simp (disch:=omega) only [Bd1,h1,ei,hc,ht,EVC,xe,EVP,↓reduceIte,EV,Nat.reduceAdd,Nat.reduceEqDiff,Int.reduceToNat,reduceCtorEq]
   ·refine ⟨?_,rfl⟩
    have h1:¬(z.recs.length:Int)<(z.recs.length:Int):=by omega
    have e:z.recs.take z.recs.length=z.recs:=Ct
    rw [e]
    unfold withL
    simp only
    generalize z.recs.map (fun r=>if r.typ=6 then Bz7 s r else r)=a at*
    simp (disch:=omega) only [Bd1,h1,EVC,xe,EVP,↓reduceIte,EV,Nat.reduceAdd,Nat.reduceEqDiff,Int.reduceToNat,reduceCtorEq]
  have e:(withL z s).origin=z.origin:=rfl
  have e2:(withL z s).pv=Zone.pv ⟨z.origin,(withL z s).recs⟩:=rfl
  rw [e2]
  generalize (withL z s).recs=w at*
  simp (disch:=omega) only [Bd1,k1,key,Ff,EVC,xe,EVP,↓reduceIte,EV,Nat.reduceAdd,Nat.reduceEqDiff,Int.reduceToNat,reduceCtorEq]
 ·rw [if_neg (by simp [h])]
  simp (disch:=omega) only [Bd1,k1,Ff,EVC,xe,EVP,↓reduceIte,EV,Nat.reduceAdd,Nat.reduceEqDiff,Int.reduceToNat,reduceCtorEq]
def Cg8 (z:Zone) (h:List UInt8):List Rec:=if Fl8 z h≠[] then findR z.recs h 1++findR z.recs h 28 else []
def glueN (z:Zone) (hs:List (List UInt8)):List Rec:=hs.flatMap (Cg8 z)
theorem Cg7 (z:Zone) (h:List UInt8):(Cg8 z h).length≤2*z.recs.length:=by
 unfold Cg8 findR
 split
 ·rw [Az]
  have h1:=D5 (isK h 1) z.recs
  have h2:=D5 (isK h 28) z.recs
  omega
 ·simp
theorem gy (z:Zone):∀hs:List (List UInt8),(glueN z hs).length≤2*z.recs.length*hs.length
 |[]=>by simp [glueN]
 |h::hs=>by
  have h1:=Cg7 z h
  have h2:=gy z hs
  simp only [glueN,G2,Az,A0] at h2 ⊢
  rw [Nat.mul_add,Bb3];omega
theorem Fp0 (z:Zone) (hs:List (List UInt8)) (hz:z.wf) (hl:z.recs.length≤1000) (hn:hs.length≤100) (hh:∀h∈hs,h.length≤9223372036854775807):S Cw8 2 [z.pv,Bw hs]=some [Af (glueN z hs)]:=by
 obtain ⟨N,hN⟩:∃N,N=hs.length+1:=⟨_,rfl⟩
 refine Kr3 (N:=N) rfl ?_
 have key:Gq7.ev S N [z.pv,Bw hs]=some (.yld 0 [Af (glueN z hs)]):=by
  refine Dx hs (fun i=>[Af (glueN z (hs.take i)),.i .i64 (i:Int)]) (fun i r=> .yld 0 [Af (glueN z hs)]) rfl (by omega) (fun i c r hd hi hc=> ?_) ?_
  ·left
   refine ⟨?_,rfl⟩
   have e:glueN z (hs.take (i+1))=glueN z (hs.take i)++Cg8 z c:=by rw [B7,hc];simp [glueN]
   have hlen:=gy z (hs.take i)
   have hl2:2*z.recs.length*(hs.take i).length≤2000*100:=G1 (by omega) (by rw [Ah];omega)
   have h1:(i:Int)<(hs.length:Int):=by omega
   have ei:(i:Int).toNat=i:=by omega
   have k1:=j8 z c hz (by omega) (hh c (Ar hc))
   have k2:=J8 z c 1 (by omega)
   have k3:=J8 z c 28 (by omega)
   have l2:(findR z.recs c 1).length≤z.recs.length:=D5 _ _
   have l3:(findR z.recs c 28).length≤z.recs.length:=D5 _ _
   rw [e]
   unfold Cg8
   generalize glueN z (hs.take i)=a at*
   by_cases hc2:Fl8 z c=[]
   ·have eb:decide (Fl8 z c≠[])=false:=by simp [hc2]
    rw [eb] at k1
    rw [if_neg (by simp [hc2])]
    simp (disch:=omega) only [Ep1,h1,ei,hc,k1,EVC,xe,EVP,↓reduceIte,EV,Nat.reduceAdd,Nat.reduceEqDiff,Int.reduceToNat,reduceCtorEq]
    simp
   ·have eb:decide (Fl8 z c≠[])=true:=by simp [hc2]
    rw [eb] at k1
    rw [if_pos hc2]
    generalize findR z.recs c 1=f1 at*
    generalize findR z.recs c 28=f2 at*
    have la:(a++f1).length≤1000000:=by rw [Az];omega
    simp (disch:=omega) only [Ep1,h1,ei,hc,k1,k2,k3,EVC,xe,EVP,↓reduceIte,EV,Nat.reduceAdd,Nat.reduceEqDiff,Int.reduceToNat,reduceCtorEq]
    simp
  ·refine ⟨?_,rfl⟩
   have h1:¬(hs.length:Int)<(hs.length:Int):=by omega
   have e:hs.take hs.length=hs:=Ct
   rw [e]
   generalize glueN z hs=a at*
   simp (disch:=omega) only [Ep1,h1,EVC,xe,EVP,↓reduceIte,EV,Nat.reduceAdd,Nat.reduceEqDiff,Int.reduceToNat,reduceCtorEq]
 generalize glueN z hs=a at*
 simp (disch:=omega) only [Ep1,key,EVC,xe,EVP,↓reduceIte,EV,Nat.reduceAdd,Nat.reduceEqDiff,Int.reduceToNat,reduceCtorEq]
end Go.X.G
/- The laws of zones: the chapter's example. -/
namespace Go.X.G
open Go Go.X
def exL:List Rec:=[⟨[101,120,97,109,112,108,101,46],6,60,{zero with host:=[110,115,46,98,46,101,120,97,109,112,108,101,46],mail:=[109,46,101,120,97,109,112,108,101,46],a:=5,b:=60,c:=60,d:=600,e:=30}⟩,⟨[101,120,97,109,112,108,101,46],2,60,{zero with host:=[110,115,46,98,46,101,120,97,109,112,108,101,46]}⟩,⟨[98,46,101,120,97,109,112,108,101,46],2,60,{zero with host:=[110,115,46,98,46,101,120,97,109,112,108,101,46]}⟩,⟨[101,120,97,109,112,108,101,46],1,60,{zero with lo:=1}⟩,⟨[99,46,100,46,101,120,97,109,112,108,101,46],1,60,{zero with lo:=2}⟩,⟨[110,115,46,98,46,101,120,97,109,112,108,101,46],1,60,{zero with lo:=3}⟩]
def Gv9:Rec:=⟨[98,46,101,120,97,109,112,108,101,46],15,60,{zero with a:=1,host:=[97,46]}⟩
def exO:List UInt8:=[101,120,97,109,112,108,101,46]
theorem Bz3:S Cv6 0 []=some [Af exL]:=(Nj ext_mono).2 ⟨3,by kernel_rfl⟩
theorem Gw0:∀r∈exL++[Gv9],r.wf:=by
 intro r hr
 simp only [exL,Gv9,B3,Cd,Al,List.mem_nil_iff,or_false] at hr
 rcases hr with rfl|rfl|rfl|rfl|rfl|rfl|rfl<;>(constructor<;>(try constructor))<;>simp [zero,Is0,gv,M8]
def exZ:Zone:=⟨exO,sortR exL⟩
theorem y1:Jd exZ=0:=by kernel_rfl
theorem Jt0:Jd ⟨exO,sortR (exL++[Gv9])⟩=13:=by kernel_rfl
theorem Iq6:Fl8 exZ [120,46,110,115,46,98,46,101,120,97,109,112,108,101,46]=[98,46,101,120,97,109,112,108,101,46]:=by kernel_rfl
theorem Iq5:Fl8 exZ exO=[]:=by kernel_rfl
theorem Iq3:Kk6 exZ [120,46,121,46,100,46,101,120,97,109,112,108,101,46]=[100,46,101,120,97,109,112,108,101,46]:=by kernel_rfl
theorem Iq2:Kk6 exZ [110,115,46,98,46,101,120,97,109,112,108,101,46]=[98,46,101,120,97,109,112,108,101,46]:=by kernel_rfl
theorem Js9:exB exZ [100,46,101,120,97,109,112,108,101,46]=true:=by kernel_rfl
theorem Js8:exB exZ [110,115,46,98,46,101,120,97,109,112,108,101,46]=false:=by kernel_rfl
theorem Fh5:namesN exZ=[[101,120,97,109,112,108,101,46],[98,46,101,120,97,109,112,108,101,46],[100,46,101,120,97,109,112,108,101,46],[99,46,100,46,101,120,97,109,112,108,101,46]]:=by unfold namesN;rw [←dz];kernel_rfl
theorem Iq4:(cutsN exZ).length=1:=by unfold cutsN;rw [←dz];kernel_rfl
theorem Iq0:glueN exZ [[110,115,46,98,46,101,120,97,109,112,108,101,46],exO]=[⟨[110,115,46,98,46,101,120,97,109,112,108,101,46],1,60,{zero with lo:=3}⟩]:=by kernel_rfl
theorem Js6:Jj2 exZ=5:=by kernel_rfl
theorem Js7:exZ.recs.length=6:=by kernel_rfl
theorem Iq1:findR exZ.recs [100,46,101,120,97,109,112,108,101,46] 1=[]:=by kernel_rfl
theorem Jt2 (n:List UInt8) (lo:Int):S Cw7 2 [.s n,.i .u64 lo]=some [Rec.pv ⟨n,1,60,{zero with lo:=lo}⟩]:=by
 refine Kr0 (N:=1) rfl ?_
 simp (disch:=omega) only [Kc4,EVC,xe,EVP,↓reduceIte,EV,Nat.reduceAdd,Nat.reduceEqDiff,Int.reduceToNat,reduceCtorEq]
 rfl
theorem By5:S Bk4 0 []=some [.b true]:=by
 refine Ks5 (N:=1) rfl ?_
 have hw:∀r∈exL,r.wf:=fun r hr=>Gw0 r (Cf _ hr)
 have ho:M8 exO:=by unfold M8 exO;decide
 have k0:=Bz3
 have hz:exZ.wf:=w7 ho (by decide) hw
 have hl:exZ.recs.length=6:=Js7
 have ec:Jd ⟨exO,sortR exL⟩=0:=y1
 have k1:=El7 exO exL ho (by decide) hw
 have en:newZ exO exL=exZ:=by unfold newZ;rw [if_pos ec];rfl
 rw [en,ec] at k1
 have k2:=Uz exZ hz (by omega)
 rw [y1] at k2
 have k3:=Wt exZ (by omega)
 rw [Js6] at k3
 have c1:=j8 exZ [120,46,110,115,46,98,46,101,120,97,109,112,108,101,46] hz (by omega) (by decide)
 rw [Iq6] at c1
 have c2:=j8 exZ exO hz (by omega) (by decide)
 rw [Iq5] at c2
 have e1:=Qk exZ [120,46,121,46,100,46,101,120,97,109,112,108,101,46] hz (by omega) (by decide)
 rw [Iq3] at e1
 have e2:=Qk exZ [110,115,46,98,46,101,120,97,109,112,108,101,46] hz (by omega) (by decide)
 rw [Iq2] at e2
 have n1:=Rp exZ hz (by omega)
 rw [Fh5] at n1
 have u1:=rm exZ hz (by omega)
 have ul:=Iq4
 have g1:=Fp0 exZ [[110,115,46,98,46,101,120,97,109,112,108,101,46],exO] hz (by omega) (by decide) (by decide)
 rw [Iq0] at g1
 have w1:=By9 exZ (-1) (by decide)
 have b1:=El7 exO (exL++[Gv9]) ho (by decide) Gw0
 rw [Jt0] at b1
 have a1:=Jt2 [110,115,46,98,46,101,120,97,109,112,108,101,46] 3
 have x1:=U5 exZ [100,46,101,120,97,109,112,108,101,46] hz (by omega)
 rw [Js9] at x1
 have x2:=U5 exZ [110,115,46,98,46,101,120,97,109,112,108,101,46] hz (by omega)
 rw [Js8] at x2
 have f1:=J8 exZ [100,46,101,120,97,109,112,108,101,46] 1 (by omega)
 rw [Iq1] at f1
 have eo:([101,120,97,109,112,108,101,46]:List UInt8)=exO:=rfl
 have happ:Iz 16 (Af exL) (Af [⟨[98,46,101,120,97,109,112,108,101,46],15,60,⟨false,0,0,[97,46],[],[],1,0,0,0,0,0,0⟩⟩])=some (Af (exL++[Gv9])):=i7 exL Gv9 (by decide)
 have hlit:J2 16 [PV.a [.s [98,46,101,120,97,109,112,108,101,46],.i .i64 15,.i .i64 60,.b false,.i .u64 0,.i .u64 0,.s [97,46],.s [],.s [],.i .i64 1,.i .i64 0,.i .i64 0,.i .i64 0,.i .i64 0,.i .i64 0,.i .u64 0]]=some (Af [⟨[98,46,101,120,97,109,112,108,101,46],15,60,⟨false,0,0,[97,46],[],[],1,0,0,0,0,0,0⟩⟩]):=rfl
 have hs2:Bw [[110,115,46,98,46,101,120,97,109,112,108,101,46],exO]= .l 1 [.s [110,115,46,98,46,101,120,97,109,112,108,101,46],.s [101,120,97,109,112,108,101,46]]:=rfl
 rw [hs2] at g1
 have hex:PV.s exO= .s [101,120,97,109,112,108,101,46]:=rfl
 rw [hex] at k1 c2 b1
 generalize newZ exO (exL++[Gv9])=nz at*
 generalize exL++[Gv9]=l2 at*
 have hn4:(Bw [[101,120,97,109,112,108,101,46],[98,46,101,120,97,109,112,108,101,46],[100,46,101,120,97,109,112,108,101,46],[99,46,100,46,101,120,97,109,112,108,101,46]])= .l 1 (List.map PV.s [[101,120,97,109,112,108,101,46],[98,46,101,120,97,109,112,108,101,46],[100,46,101,120,97,109,112,108,101,46],[99,46,100,46,101,120,97,109,112,108,101,46]]):=rfl
 generalize cutsN exZ=cz at*
 have hrl:((exZ.recs.length:Nat):Int)=6:=by omega
 generalize exZ=zz at*
 generalize exL=l1 at*
 have hlit2:J2 1 [.s [110,115,46,98,46,101,120,97,109,112,108,101,46],.s [101,120,97,109,112,108,101,46]]=some (.l 1 [.s [110,115,46,98,46,101,120,97,109,112,108,101,46],.s [101,120,97,109,112,108,101,46]]):=rfl
 clear hn4 hs2 hex eo
 simp (disch:=first|omega|decide) only [Kc9,k0,k1,k2,k3,hrl,c1,c2,e1,e2,n1,u1,ul,g1,w1,happ,hlit,hlit2,b1,a1,x1,x2,f1,EVC,xe,EVP,↓reduceIte,EV,Nat.reduceAdd,Nat.reduceEqDiff,Int.reduceToNat,reduceCtorEq]
end Go.X.G
/- The laws ZoneChecks, ZoneFinds, ZoneCuts, ZoneGlues. -/
namespace Go.X.G
open Go Go.X
theorem law_ZoneFinds (z:Zone) (q:Ques) (s:Int) (hz:z.wf) (hq:q.wf) (hs:gv s):S Jd5 3 [z.pv,q.pv,.i .i64 s]=some [.b true]:=by
 refine Lf5 (N:=1) rfl ?_
 have k0:=Fn9 z hz
 have hw:=Bh3 hz
 have hl:=Am1 z
 generalize smallZ z=x at*
 have k3:=Uz x hw (by omega)
 have k4:=Bz4 x hw
 have ka:=By5
 by_cases h:Jd x=0
 ·have ho:=Cm8 h
  rw [h] at k3 k4
  have k5:=Fn6 x s ho hw (by omega)
  have k6:=Fn5 x s (by omega)
  have k7:=Wt x (by omega)
  have k8:=Bz1 x (by omega)
  have k9:=J8 x q.name q.typ (by omega)
  have k10:=Em2 x q.name q.typ (by omega)
  have l1:(findR x.recs q.name q.typ).length≤x.recs.length:=D5 _ _
  have k11:=J6 (findR x.recs q.name q.typ) (findR x.recs q.name q.typ) (by omega)
  generalize findR x.recs q.name q.typ=f at*
  rcases Ak (inB s 4294967295) with hb|hb
  ·rw [if_pos hb] at k5 k6
   have k12:=cq (withL x s) (withL x s) (by unfold withL;simp;omega)
   generalize withL x s=w at*
   simp (disch:=omega) only [Kc5,k0,k3,k4,k5,k6,k7,k8,k9,k10,k11,k12,ka,Ff,Om,EVM,EVC,xe,EVP,↓reduceIte,EV,Nat.reduceAdd,Nat.reduceEqDiff,Int.reduceToNat,reduceCtorEq]
   try simp
  ·rw [if_neg (by simp [hb])] at k5 k6
   have k12:=cq ⟨[],[]⟩ ⟨[],[]⟩ (by simp)
   generalize (⟨[],[]⟩:Zone)=w at*
   simp (disch:=omega) only [Kc5,k0,k3,k4,k5,k6,k7,k8,k9,k10,k11,k12,ka,Ff,Om,EVM,EVC,xe,EVP,↓reduceIte,EV,Nat.reduceAdd,Nat.reduceEqDiff,Int.reduceToNat,reduceCtorEq]
   try simp
 ·simp (disch:=omega) only [Kc5,k0,k3,k4,h,ka,Ff,Om,EVM,EVC,xe,EVP,↓reduceIte,EV,Nat.reduceAdd,Nat.reduceEqDiff,Int.reduceToNat,reduceCtorEq]
end Go.X.G
