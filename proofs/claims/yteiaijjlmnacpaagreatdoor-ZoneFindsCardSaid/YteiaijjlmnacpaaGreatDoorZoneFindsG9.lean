/- Names: what the reference's functions give. -/
import Derived.Test.YteiaijjlmnacpaaGreatDoorZoneFindsG7
import Derived.Test.YteiaijjlmnacpaaGreatDoorZoneFindsG8
open Bool renaming eq_false_or_eq_true→Ak,and_eq_true→Av,false_eq_true→Ab,or_eq_true→Am,not_eq_true'→A7,eq_iff_iff→Ch,not_eq_false→Fp,not_true→Kn,false_or→Kp,and_true→O9
open Classical renaming not_not→G4
open List renaming getElem?_eq_some_iff→Aq,getElem?_eq_getElem→Ax,length_append→Az,mem_cons→Al,append_assoc→Ap,mem_of_getElem?→Ar,pairwise_cons→As,length_cons→A0,all_eq_true→Bv,length_pos_iff→By,length_nil→Bc,getElem?_map→Bd,getD_eq_getElem?_getD→Bf,mem_append_right→Bh,take_append_drop→Bl,mem_append→Br,mem_filter→Bs,length_drop→Bt,drop_eq_getElem_cons→B0,cons_append→B3,take_add_one→B7,any_eq_true→B8,getElem?_cons_zero→Ck,getElem?_range→Cv,nil_append→Cd,mem_append_left→Cf,take_length→Ct,getElem?_cons_succ→C2,drop_drop→C6,drop_zero→Ds,mem_map→D6,pairwise_append→E5,mem_range→E6,length_map→Fw,drop_eq_nil_of_le→Fz,exists_mem_of_ne_nil→Fc,mem_cons_self→Gb,flatMap_cons→G2,drop_append_of_le_length→Im,suffix_iff_eq_drop→I8,getLast_eq_getElem→Jj,isSuffixOf_iff_suffix→K5,cons_prefix_cons→L1,append_cancel_right→O8,length_mergeSort→jt,count_eq_zero→Ky8
open Nat renaming le_refl→Ac,zero_le→Cn
open Option renaming map_eq_some_iff→Aw,map_some→A4
set_option maxHeartbeats 1000000
set_option linter.unusedVariables false
set_option linter.unusedSimpArgs false
namespace Go.X.G
open Go Go.X
def Oy (c:UInt8):Bool:=decide (97≤(c.toNat:Int)) && decide ((c.toNat:Int)≤122)||decide (48≤(c.toNat:Int)) && decide ((c.toNat:Int)≤57)||decide ((c.toNat:Int)=45)||decide ((c.toNat:Int)=95)
theorem Bk8 (c:UInt8):(decide (97≤(c.toNat:Int)) && decide ((c.toNat:Int)≤122)||decide (48≤(c.toNat:Int)) && decide ((c.toNat:Int)≤57)||decide ((c.toNat:Int)=45)||decide ((c.toNat:Int)=95))=Oy c:=rfl
def Js (s:List UInt8):Bool:=decide (s=[42])||(decide (1≤s.length) && decide (s.length≤63) && s.all Oy)
theorem Bq3 (s:List UInt8) (N:Nat) (hN:s.length<N) (hs:s.length≤4294967296):
  Cd2.ev S N [.s s]=some (if s.all Oy=true then .yld 0 [] else .ret [.b false]):=by
 refine Dx s (fun i=>[.i .i64 (i:Int)]) (fun i r=>if r.all Oy=true then .yld 0 [] else .ret [.b false]) rfl hN (fun i c r hd hi hc=> ?_) ?_
 ·simp (disch:=omega) only [Bd7,xe,↓reduceIte,EV,Nat.reduceAdd,Nat.reduceEqDiff,Int.reduceToNat,reduceCtorEq,hc,Bk8]
  cases h:Oy c<;>simp [h,Out.goes]
 ·simp (disch:=omega) [Bd7,xe,↓reduceIte,EV,Nat.reduceAdd,Nat.reduceEqDiff,Int.reduceToNat,reduceCtorEq,Out.goes]
theorem Bq2 (s:List UInt8) (hs:s.length≤4294967296):S ez 1 [.s s]=some [.b (Js s)]:=by
 refine Jw7 (N:=s.length+1) rfl ?_
 simp (disch:=omega) only [Bd7,Bq3,xe,↓reduceIte,EV,Nat.reduceAdd,Nat.reduceEqDiff,Int.reduceToNat,reduceCtorEq]
 unfold Js
 grind
end Go.X.G
/- Names: what the reference's functions give. -/
namespace Go.X.G
open Go Go.X
def spl (first:Bool) (cur:List UInt8):List UInt8→Option (List (List UInt8))
 |[]=>some []
 |c::r=>if c=46 then (if Js cur=true∧(cur=[42]→first=true) then (spl false [] r).map (cur::·) else none) else spl first (cur++[c]) r
def nm (n:List UInt8):Option (List (List UInt8)):=
 if n=[46] then some [] else if 2≤n.length∧n.length≤254∧n[n.length - 1]? =some 46 then spl true [] n else none
def lbl (n:List UInt8):List (List UInt8):=(nm n).getD []
def vld (n:List UInt8):Bool:=(nm n).isSome
theorem Hm4 {α:Type} (n:List α) (i j:Nat) (c:α) (h:n[i]? =some c) (hj:j≤i):(n.take (i+1)).drop j=(n.take i).drop j++[c]:=by
 have hi:i<n.length:=(Aq.1 h).1
 rw [B7,h,Im (by simp;omega)];rfl
theorem Hm5 {α:Type} (n:List α) (i:Nat):(n.take i).drop i=[]:=by
 rw [List.drop_eq_nil_iff];simp;omega
def Vq (l:List (List UInt8)):Option (List (List UInt8))→Out
 |some ls=> .yld 0 [.l 1 ((l++ls).map .s)]
 |none=> .ret [.l 1 [],.b false]
theorem Fx3 (n:List UInt8) (N:Nat) (hN:n.length<N) (hs:n.length≤1000):
  Gk1.ev S N [.s n]=some (Vq [] (spl true [] n)):=by
 refine Gk n (fun i (g:List (List UInt8)×Nat)=>[.l 1 (g.1.map .s),.i .i64 (g.2:Int),.i .i64 (i:Int)]) (fun i g r=>Vq g.1 (spl (decide (g.2=0)) ((n.take i).drop g.2) r)) (fun i g=>g.1.length≤i∧g.2≤i) ([],0) rfl ⟨Ac _,Ac _⟩ hN (fun i g c r hd hi hc hI=> ?_) (fun g hI=> ?_)
 ·obtain ⟨l,st⟩:=g
  obtain ⟨h1,h2⟩:=hI
  simp only at h1 h2 ⊢
  have hl:((n.take i).drop st).length≤4294967296:=by simp;omega
  have hm:(l.map PV.s).length=l.length:=Fw ..
  have hd':=Hl7 c 46 (by omega)
  by_cases hdot:c=46
  ·have hdi:=hd'.2 hdot
   simp (disch:=omega) only [Z5,xe,↓reduceIte,EV,Nat.reduceAdd,Nat.reduceEqDiff,Int.reduceToNat,reduceCtorEq,hc,Bq2]
   simp only [spl,if_pos hdot]
   by_cases h:Js ((n.take i).drop st)=true∧((n.take i).drop st=[42]→st=0)
   ·obtain ⟨h3,h4⟩:=h
    left
    refine ⟨(l++[(n.take i).drop st],i+1),?_,?_,?_⟩
    ·rw [if_neg (by simp only [h3];intro h;simp at h;have:=h4 h.1;omega)]
     simp
    ·simp;omega
    ·simp only [Hm5]
     rw [if_pos ⟨h3,by simpa using h4⟩]
     cases h9:spl false [] r<;>simp [h9,Vq]
   ·right
    have h':¬(Js ((n.take i).drop st)=true∧((n.take i).drop st=[42]→decide (st=0)=true)):=by simpa using h
    rw [if_neg h']
    refine ⟨?_,rfl⟩
    rw [if_pos]
    ·rfl
    ·cases h5:Js ((n.take i).drop st)
     ·simp
     ·simp only [h5,true_and] at h
      have ⟨h6,h7⟩:=Classical.not_imp.1 h
      simp [h6];omega
  ·have hdi:¬(c.toNat:Int)=46:=fun h=>hdot (hd'.1 h)
   left
   refine ⟨(l,st),?_,?_,?_⟩
   ·simp (disch:=omega) only [Z5,xe,↓reduceIte,EV,Nat.reduceAdd,Nat.reduceEqDiff,Int.reduceToNat,reduceCtorEq,hc]
   ·simp only;omega
   ·simp only [spl];rw [if_neg hdot,Hm4 n i st c hc h2]
 ·simp (disch:=omega) [Z5,xe,↓reduceIte,EV,Nat.reduceAdd,Nat.reduceEqDiff,Int.reduceToNat,reduceCtorEq,Out.goes,spl,Vq]
theorem split_ok (n:List UInt8) (hs:n.length≤9223372036854775807):S Um 1 [.s n]=some [Bw (lbl n),.b (vld n)]:=by
 refine Kh1 (N:=n.length+1) rfl ?_
 unfold Bw lbl vld nm
 by_cases h1:n=[46]
 ·simp (disch:=omega) [Z5,xe,↓reduceIte,EV,Nat.reduceAdd,Nat.reduceEqDiff,Int.reduceToNat,reduceCtorEq,h1]
 ·rw [if_neg h1]
  by_cases h2:n.length<2
  ·simp (disch:=omega) only [Z5,xe,↓reduceIte,EV,Nat.reduceAdd,Nat.reduceEqDiff,Int.reduceToNat,reduceCtorEq,h1]
   have h3:¬(2≤n.length∧n.length≤254∧n[n.length - 1]? =some 46):=by omega
   rw [if_neg h3];rfl
  ·by_cases h3:254<n.length
   ·simp (disch:=omega) only [Z5,xe,↓reduceIte,EV,Nat.reduceAdd,Nat.reduceEqDiff,Int.reduceToNat,reduceCtorEq,h1]
    have h3:¬(2≤n.length∧n.length≤254∧n[n.length - 1]? =some 46):=by omega
    rw [if_neg h3];rfl
   ·have h4:=Ax (l:=n) (i:=n.length - 1) (by omega)
    have h5:((n.length:Int) - 1).toNat=n.length - 1:=by omega
    have h6:=Hl7 (n[n.length - 1]'(by omega)) 46 (by omega)
    simp (disch:=omega) only [Z5,xe,↓reduceIte,EV,Nat.reduceAdd,Nat.reduceEqDiff,Int.reduceToNat,reduceCtorEq,h1,h4,h5,Fx3]
    by_cases h7:n[n.length - 1]'(by omega)=46
    ·rw [if_pos (show 2≤n.length∧n.length≤254∧some (n[n.length - 1]'(by omega))=some 46 from ⟨by omega,by omega,by rw [h7]⟩),if_neg (fun h=>h (h6.2 h7))]
     cases h8:spl true [] n
     ·simp [Vq,El0]
     ·simp (disch:=omega) [Z5,Vq,xe,↓reduceIte,EV,Nat.reduceAdd,Nat.reduceEqDiff,Int.reduceToNat,reduceCtorEq]
    ·rw [if_neg (show¬(2≤n.length∧n.length≤254∧some (n[n.length - 1]'(by omega))=some 46) from fun h=>h7 (by simpa using h.2.2)),if_pos (show (((n[n.length - 1]'(by omega)).toNat:Int)≠46) from fun h=>h7 (h6.1 h))]
     rfl
end Go.X.G
/- Names: what the reference's functions give, ctd. -/
namespace Go.X.G
open Go Go.X
theorem lq:∀(r:List UInt8) (f:Bool) (cur:List UInt8) (l:List (List UInt8)),spl f cur r=some l→l.length≤r.length
 |[],f,cur,l,h=>by simp [spl] at h;simp [←h]
 |c::r,f,cur,l,h=>by
  simp only [spl] at h
  split at h
  ·split at h
   ·obtain ⟨m,hm,rfl⟩:=Aw.1 h
    have:=lq r _ _ _ hm
    simp;omega
   ·cases h
  ·have:=lq r _ _ _ h
   simp;omega
theorem Jd3 {n:List UInt8} {l:List (List UInt8)} (h:nm n=some l):l.length≤254:=by
 unfold nm at h
 split at h
 ·injection h with h;subst h;simp
 ·split at h
  ·rename_i h2
   have:=lq _ _ _ _ h;omega
  ·cases h
theorem G7 (n:List UInt8):(lbl n).length≤254:=by
 unfold lbl
 cases h:nm n with
 |none=>simp
 |some l=>exact Jd3 h
theorem Fg (n:List UInt8) (hs:n.length≤9223372036854775807):S dc 1 [.s n]=some [.b (vld n)]:=by
 refine Kn8 (N:=1) rfl ?_
 simp (disch:=omega) only [Kb8,split_ok,xe,EVP,↓reduceIte,EV,Nat.reduceAdd,Nat.reduceEqDiff,Int.reduceToNat,reduceCtorEq]
theorem Qj (n:List UInt8) (hs:n.length≤9223372036854775807):S Bj0 1 [.s n]=some [Bw (lbl n)]:=by
 refine Km5 (N:=1) rfl ?_
 simp (disch:=omega) only [Kb1,split_ok,xe,EVP,↓reduceIte,EV,Nat.reduceAdd,Nat.reduceEqDiff,Int.reduceToNat,reduceCtorEq]
def Rh {α:Type} [DecidableEq α]:List α→List α→Nat
 |x::xs,y::ys=>if x=y then Rh xs ys+1 else 0
 |_,_=>0
def Jm (a b:List (List UInt8)):Nat:=Rh a.reverse b.reverse
theorem Cm0 {α:Type} [DecidableEq α]:∀(a b:List α),Rh a b≤a.length∧Rh a b≤b.length
 |[],b=>by simp [Rh]
 |x::xs,[]=>by simp [Rh]
 |x::xs,y::ys=>by
  have:=Cm0 xs ys
  simp only [Rh]
  split<;>simp<;>omega
theorem Fy1 (a b:List (List UInt8)):Jm a b≤a.length∧Jm a b≤b.length:=by
 have:=Cm0 a.reverse b.reverse
 simpa [Jm] using this
theorem Hp2 (a b:List (List UInt8)) (N:Nat) (hN:a.length<N) (ha:a.length≤1000000) (hb:b.length≤1000000):
  m5.ev S N [Bw a,Bw b]=some (.yld 0 [.i .i64 (Jm a b:Int)]):=by
 have key:=It (fn:=S) (N:=N) (η:=[Bw a,Bw b]) (id:=1) (init:=[(.c (.i .i64 (0)))]) (body:=qp) (α:=Nat) (fun k=>[.i .i64 (k:Int)]) (fun k=> .yld 0 [.i .i64 ((k+Rh (a.reverse.drop k) (b.reverse.drop k):Nat):Int)]) (fun k=>k≤a.length∧k≤b.length) (fun k=>a.length - k) 0 rfl ⟨Cn _,Cn _⟩ (by omega) ?_
 ·simpa [Jm,m5] using key
 ·rintro k ⟨h1,h2⟩
  by_cases h3:k<a.length
  ·by_cases h4:k<b.length
   ·have e1:((a.length:Int) - 1 - k).toNat=a.length - 1 - k:=by omega
    have e2:((b.length:Int) - 1 - k).toNat=b.length - 1 - k:=by omega
    have g1:a[a.length - 1 - k]? =some (a[a.length - 1 - k]'(by omega)):=Ax (by omega)
    have g2:b[b.length - 1 - k]? =some (b[b.length - 1 - k]'(by omega)):=Ax (by omega)
    have d1:a.reverse.drop k=(a[a.length - 1 - k]'(by omega))::a.reverse.drop (k+1):=by
     rw [B0 (by simpa using h3)];simp
    have d2:b.reverse.drop k=(b[b.length - 1 - k]'(by omega))::b.reverse.drop (k+1):=by
     rw [B0 (by simpa using h4)];simp
    simp (disch:=omega) only [sq,xe,EVP,↓reduceIte,EV,Nat.reduceAdd,Nat.reduceEqDiff,Int.reduceToNat,reduceCtorEq,e1,e2,g1,g2]
    rw [d1,d2]
    simp only [Rh]
    by_cases h:a[a.length - 1 - k]'(by omega)=b[b.length - 1 - k]'(by omega)
    ·left
     refine ⟨k+1,by simp [h],⟨by omega,by omega⟩,by omega,?_⟩
     rw [if_pos h]
     congr 3
     push_cast
     omega
    ·right
     simp [h,Out.goes]
   ·right
    have d2:b.reverse.drop k=[]:=Fz (by simp;omega)
    have z:Rh (a.reverse.drop k) []=0:=by cases a.reverse.drop k<;>rfl
    rw [d2,z]
    simp (disch:=omega) [sq,xe,EVP,↓reduceIte,EV,Nat.reduceAdd,Nat.reduceEqDiff,Int.reduceToNat,reduceCtorEq,Out.goes]
  ·right
   have d1:a.reverse.drop k=[]:=Fz (by simp;omega)
   have z:Rh [] (b.reverse.drop k)=0:=rfl
   rw [d1,z]
   simp (disch:=omega) [sq,xe,EVP,↓reduceIte,EV,Nat.reduceAdd,Nat.reduceEqDiff,Int.reduceToNat,reduceCtorEq,Out.goes]
theorem lw (a b:List (List UInt8)) (ha:a.length≤1000000) (hb:b.length≤1000000):S Wk 2 [Bw a,Bw b]=some [.i .i64 (Jm a b:Int)]:=by
 refine Jz2 (N:=a.length+1) rfl ?_
 simp (disch:=omega) only [sq,Hp2,xe,EVP,↓reduceIte,EV,Nat.reduceAdd,Nat.reduceEqDiff,Int.reduceToNat,reduceCtorEq]
def under (n top:List UInt8):Bool:=vld n && vld top && decide (Jm (lbl n) (lbl top)=(lbl top).length)
theorem O3 (n top:List UInt8) (hn:n.length≤9223372036854775807) (ht:top.length≤9223372036854775807):S Bj5 2 [.s n,.s top]=some [.b (under n top)]:=by
 refine Kn4 (N:=1) rfl ?_
 have h1:=G7 n
 have h2:=G7 top
 unfold under
 cases h3:vld n<;>cases h4:vld top<;>simp (disch:=omega) only [Kb5,split_ok,lw,h3,h4,xe,EVP,↓reduceIte,EV,Nat.reduceAdd,Nat.reduceEqDiff,Int.reduceToNat,reduceCtorEq]
 all_goals (simp;try omega)
def cmpS (a b:List UInt8):Int:=if Op.bytesLess a b then -1 else if a=b then 0 else 1
theorem Nt (a b:List UInt8):S V3 2 [.s a,.s b]=some [.i .i64 (cmpS a b)]:=by
 refine Jv8 (N:=1) rfl ?_
 unfold cmpS
 simp (disch:=omega) only [Im6,xe,EVP,↓reduceIte,EV,Nat.reduceAdd,Nat.reduceEqDiff,Int.reduceToNat,reduceCtorEq]
 cases h:Op.bytesLess a b
 ·by_cases h2:a=b<;>simp [h2]
 ·simp
def I3 (a b:List UInt8):Int:=
 if vld a && vld b then
  let k:=Jm (lbl a) (lbl b)
  if k<(lbl a).length∧k<(lbl b).length then cmpS ((lbl a).getD ((lbl a).length - 1 - k) []) ((lbl b).getD ((lbl b).length - 1 - k) [])
  else if (lbl a).length<(lbl b).length then -1 else if (lbl b).length<(lbl a).length then 1 else 0
 else if vld a then -1 else if vld b then 1 else cmpS a b
theorem rz (a b:List UInt8) (hn:a.length≤9223372036854775807) (ht:b.length≤9223372036854775807):S fb 2 [.s a,.s b]=some [.i .i64 (I3 a b)]:=by
 refine Jy6 (N:=1) rfl ?_
 have h1:=G7 a
 have h2:=G7 b
 have h5:=Fy1 (lbl a) (lbl b)
 unfold I3
 cases h3:vld a<;>cases h4:vld b
 ·simp (disch:=omega) [ak,split_ok,Nt,h3,h4,xe,EVP,↓reduceIte,EV,Nat.reduceAdd,Nat.reduceEqDiff,Int.reduceToNat,reduceCtorEq]
 ·simp (disch:=omega) [ak,split_ok,Nt,h3,h4,xe,EVP,↓reduceIte,EV,Nat.reduceAdd,Nat.reduceEqDiff,Int.reduceToNat,reduceCtorEq]
 ·simp (disch:=omega) [ak,split_ok,Nt,h3,h4,xe,EVP,↓reduceIte,EV,Nat.reduceAdd,Nat.reduceEqDiff,Int.reduceToNat,reduceCtorEq]
 ·by_cases h6:Jm (lbl a) (lbl b)<(lbl a).length∧Jm (lbl a) (lbl b)<(lbl b).length
  ·obtain ⟨h7,h8⟩:=h6
   have e1:(((lbl a).length:Int) - 1 - (Jm (lbl a) (lbl b):Int)).toNat=(lbl a).length - 1 - Jm (lbl a) (lbl b):=by omega
   have e2:(((lbl b).length:Int) - 1 - (Jm (lbl a) (lbl b):Int)).toNat=(lbl b).length - 1 - Jm (lbl a) (lbl b):=by omega
   have g1:=Ax (l:=lbl a) (i:=(lbl a).length - 1 - Jm (lbl a) (lbl b)) (by omega)
   have g2:=Ax (l:=lbl b) (i:=(lbl b).length - 1 - Jm (lbl a) (lbl b)) (by omega)
   simp (disch:=omega) only [ak,split_ok,lw,Nt,h3,h4,e1,e2,g1,g2,xe,EVP,↓reduceIte,EV,Nat.reduceAdd,Nat.reduceEqDiff,Int.reduceToNat,reduceCtorEq]
   simp [h7,h8,g1,g2]
  ·simp (disch:=omega) only [ak,split_ok,lw,Nt,h3,h4,xe,EVP,↓reduceIte,EV,Nat.reduceAdd,Nat.reduceEqDiff,Int.reduceToNat,reduceCtorEq]
   simp only [h6]
   grind
end Go.X.G
/- The library's functions on strings. -/
namespace Go.X.G
open Go Go.X
theorem Ix2 (x:List UInt8) (c:UInt8):S xh 2 [.s x,.i .u8 (c.toNat:Int)]=some [.i .i64 (x.count c:Int)]:=
 Jk6 (args:=[.s x,.i .u8 (c.toNat:Int)]) (by simp [XK.run,Am4,Lib.countByte])
theorem Ij9 (x:List UInt8) (c:UInt8):S xp 2 [.s x,.i .u8 (c.toNat:Int)]=some [.i .i64 (Lib.indexByte x c)]:=
 Jv7 (args:=[.s x,.i .u8 (c.toNat:Int)]) (by simp [XK.run,Am4])
theorem Ix4 (x y:List UInt8):S xn 2 [.s x,.s y]=some [.i .i64 (Lib.compareBytes x y)]:=
 Jq7 (args:=[.s x,.s y]) (by simp [XK.run,Fy2])
theorem O5 (x:List UInt8) (c:UInt8):S V9 2 [.s x,.i .u8 (c.toNat:Int)]=some [.i .i64 (Lib.indexByte x c)]:=by
 refine Jy4 (N:=1) rfl ?_
 simp (disch:=omega) only [In9,Ij9,xe,EVP,↓reduceIte,EV,Nat.reduceAdd,Nat.reduceEqDiff,Int.reduceToNat,reduceCtorEq]
theorem jz (x:List UInt8) (c:UInt8):S Cv1 2 [.s x,.i .u8 (c.toNat:Int)]=some [.i .i64 (Lib.indexByte x c)]:=by
 refine Kl7 (N:=1) rfl ?_
 simp (disch:=omega) only [Kz7,O5,xe,EVP,↓reduceIte,EV,Nat.reduceAdd,Nat.reduceEqDiff,Int.reduceToNat,reduceCtorEq]
theorem M2 (c:UInt8):∀(x:List UInt8),c∉x→Lib.indexByte x c= -1
 |[],_=>rfl
 |b::l,h=>by
  have h1:b≠c:=fun e=>h (by simp [e])
  have h2:=M2 c l (fun e=>h (by simp [e]))
  simp [Lib.indexByte,h1,h2]
theorem Jt (c:UInt8) (post:List UInt8):∀(pre:List UInt8),c∉pre→Lib.indexByte (pre++c::post) c=(pre.length:Int)
 |[],_=>by simp [Lib.indexByte]
 |b::l,h=>by
  have h1:b≠c:=fun e=>h (by simp [e])
  have h2:=Jt c post l (fun e=>h (by simp [e]))
  simp only [B3,Lib.indexByte,h2]
  simp [h1]
  try omega
theorem dot_split (c:UInt8):∀(s:List UInt8),c∉s∨∃pre post,s=pre++c::post∧c∉pre
 |[]=> .inl (by simp)
 |b::l=>by
  by_cases h:b=c
  ·exact .inr ⟨[],l,by simp [h],by simp⟩
  ·rcases dot_split c l with h1|⟨pre,post,rfl,h2⟩
   ·exact .inl (by simp [h1,Ne.symm h])
   ·exact .inr ⟨b::pre,post,by simp,by simp [h2,Ne.symm h]⟩
def pcs (cur:List UInt8):List UInt8→List (List UInt8)
 |[]=>[cur]
 |c::r=>if c=46 then cur::pcs [] r else pcs (cur++[c]) r
def cut (s:List UInt8):List (List UInt8):=pcs [] s
theorem Ck9 (post:List UInt8):∀(pre cur:List UInt8),(46:UInt8)∉pre→pcs cur (pre++46::post)=(cur++pre)::pcs [] post
 |[],cur,_=>by simp [pcs]
 |b::l,cur,h=>by
  have h1:b≠46:=fun e=>h (by simp [e])
  have h2:=Ck9 post l (cur++[b]) (fun e=>h (by simp [e]))
  simp [pcs,h1,h2]
theorem X2:∀(s cur:List UInt8),(46:UInt8)∉s→pcs cur s=[cur++s]
 |[],cur,_=>by simp [pcs]
 |b::l,cur,h=>by
  have h1:b≠46:=fun e=>h (by simp [e])
  have h2:=X2 l (cur++[b]) (fun e=>h (by simp [e]))
  simp [pcs,h1,h2]
theorem Cl8 (s:List UInt8):(cut s).length=s.count 46+1:=by
 have:∀(s cur:List UInt8),(pcs cur s).length=s.count 46+1:=by
  intro s
  induction s with
  |nil=>intro cur;rfl
  |cons c r ih=>
   intro cur
   by_cases h:c=46<;>simp [pcs,h,ih]
 exact this s []
theorem Bz2 (s:List UInt8) (hs:s.length≤9223372036854775807):S dn 2 [.s s,.s [46]]=some [.i .i64 (Lib.indexByte s 46)]:=by
 refine Jk5 (N:=1) rfl ?_
 have h1:=O5 s 46
 have e:(((46:UInt8).toNat:Nat):Int)=46:=rfl
 rw [e] at h1
 by_cases h:[46]=s
 ·subst h
  simp (disch:=omega) only [Fp9,xe,EVP,↓reduceIte,EV,Nat.reduceAdd,Nat.reduceEqDiff,Int.reduceToNat,reduceCtorEq]
  rfl
 ·simp (disch:=omega) only [Fp9,h,h1,e,xe,EVP,↓reduceIte,EV,Nat.reduceAdd,Nat.reduceEqDiff,Int.reduceToNat,reduceCtorEq]
theorem jy (s:List UInt8) (hs:s.length≤9223372036854775807):S Vs 2 [.s s,.s [46]]=some [.i .i64 (Lib.indexByte s 46)]:=by
 refine Jv1 (N:=1) rfl ?_
 simp (disch:=omega) only [Im3,Bz2,xe,EVP,↓reduceIte,EV,Nat.reduceAdd,Nat.reduceEqDiff,Int.reduceToNat,reduceCtorEq]
theorem Em4 (s:List UInt8):S d7 2 [.s s,.s [46]]=some [.i .i64 (s.count 46:Int)]:=by
 refine Jv2 (N:=1) rfl ?_
 have h1:=Ix2 s 46
 have e:(((46:UInt8).toNat:Nat):Int)=46:=rfl
 rw [e] at h1
 simp (disch:=omega) only [Im4,h1,e,xe,EVP,↓reduceIte,EV,Nat.reduceAdd,Nat.reduceEqDiff,Int.reduceToNat,reduceCtorEq]
def Cg4 (done rest:List (List UInt8)):Out:=
 .yld 0 [.s ((done++rest).getLastD []),Bw ((done++rest).dropLast++[[]]),.i .i64 (((done++rest).length:Int) - 1)]
theorem nq (s:List UInt8) (N:Nat) (hN:s.length<N) (hs:s.length≤1000000) (p q:PV):
  m4.ev S N [.s s,.s [46],.i .i64 0,p,.i .i64 ((s.count 46:Int)+1)]=some (Cg4 [] (cut s)):=by
 have hc0:s.count 46≤s.length:=List.count_le_length
 have key:=It (fn:=S) (N:=N) (η:=[.s s,.s [46],.i .i64 0,p,.i .i64 ((s.count 46:Int)+1)]) (id:=1) (init:=[(.v 0),(.rep 1 (.mn (.v 4) (.bin .add (.slen (.v 0)) (.c (.i .i64 (1))))) (.c (.s []))),(.c (.i .i64 (0)))]) (body:=qm) (α:=List (List UInt8)×List UInt8)
  (fun a=>[.s a.2,Bw (a.1++List.replicate (a.2.count 46+1) []),.i .i64 (a.1.length:Int)]) (fun a=>Cg4 a.1 (cut a.2)) (fun a=>a.1.length+a.2.count 46=s.count 46∧a.2.length≤s.length) (fun a=>a.2.length) ([],s) ?_ ⟨by simp,Ac _⟩ hN ?_
 ·simpa [m4] using key
 ·have e:((s.count 46:Int)+1).toNat=s.count 46+1:=by omega
  simp (disch:=omega) only [e,xe,EVP,↓reduceIte,EV,Nat.reduceAdd,Nat.reduceEqDiff,Int.reduceToNat,reduceCtorEq]
 ·rintro ⟨done,rest⟩ ⟨h1,h2⟩
  simp only at h1 h2 ⊢
  rcases dot_split 46 rest with h|⟨pre,post,rfl,h⟩
  ·right
   have c0:rest.count 46=0:=Ky8.2 h
   have i0:=M2 46 rest h
   have cu:cut rest=[rest]:=by simpa [cut] using X2 rest [] h
   refine ⟨?_,rfl⟩
   rw [c0]
   rw [c0] at h1
   simp (disch:=omega) only [Bf0,jy,i0,xe,EVP,↓reduceIte,EV,Nat.reduceAdd,Nat.reduceEqDiff,Int.reduceToNat,reduceCtorEq]
   simp [Cg4,cu,List.getLastD_eq_getLast?]
  ·left
   have c0:(pre++46::post).count 46=post.count 46+1:=by
    rw [List.count_append,Ky8.2 h];simp
   have i0:=Jt 46 post pre h
   have cu:cut (pre++46::post)=pre::cut post:=by simpa [cut] using Ck9 post pre [] h
   have hl:(pre++46::post).length=pre.length+post.length+1:=by simp;omega
   have sl1:List.drop (0:Int).toNat (List.take ((pre.length:Int)+0).toNat (pre++46::post))=pre:=by
    simp
   have sl2:List.drop ((pre.length:Int)+1).toNat (List.take (pre++46::post).length (pre++46::post))=post:=by
    have:((pre.length:Int)+1).toNat=pre.length+1:=by omega
    rw [this,Ct,List.drop_append]
    simp
   have sl3:(done++[]::[]::List.replicate (post.count 46) ([]:List UInt8)).length=done.length+post.count 46+2:=by simp;omega
   refine ⟨(done++[pre],post),?_,⟨by simp;omega,by simp only;omega⟩,by simp;omega,by simp [Cg4,cu]⟩
   rw [c0]
   rw [c0] at h1
   simp (disch:=omega) only [Bf0,jy,i0,sl1,sl2,xe,EVP,↓reduceIte,EV,Nat.reduceAdd,Nat.reduceEqDiff,Int.reduceToNat,reduceCtorEq]
   simp [List.replicate_succ,List.set_append]
theorem nk (s:List UInt8) (hs:s.length≤1000000):S fj 4 [.s s,.s [46],.i .i64 0,.i .i64 (-1)]=some [Bw (cut s)]:=by
 refine Jx7 (N:=s.length+1) rfl ?_
 have h1:=Cl8 s
 have h2:s.count 46≤s.length:=List.count_le_length
 obtain ⟨l,x,hx⟩:∃l x,cut s=l++[x]:=⟨(cut s).dropLast,(cut s).getLast (by intro e;simp [e] at h1),(List.dropLast_concat_getLast _).symm⟩
 have h3:l.length=s.count 46:=by rw [hx] at h1;simpa using h1
 have h4:((l.length:Int)+1 - 1)=(l.length:Int):=by omega
 have h5:((l++[([]:List UInt8)]).length:Int)=l.length+1:=by simp
 have h6:((l++[x]).length:Int)=l.length+1:=by simp
 have g1:(l++[([]:List UInt8)])[l.length]? =some []:=by simp
 have g2:(l++[x]).getLastD []=x:=by simp [List.getLastD_eq_getLast?]
 have g3:(l++[([]:List UInt8)]).set l.length x=l++[x]:=by simp
 have hk:=nq s (s.length+1) (by omega) hs (.i .i64 (-1)) .u
 rw [hx] at hk ⊢
 simp only [Cg4,Cd,List.dropLast_concat] at hk
 simp (disch:=omega) only [Bf0,Em4,hk,h4,h6,g1,g2,g3,xe,EVP,↓reduceIte,EV,Nat.reduceAdd,Nat.reduceEqDiff,Int.reduceToNat,reduceCtorEq]
 have g4:((l.length:Int)+1).toNat=(l++[x]).length:=by simp
 rw [g4,Ct]
 rfl
theorem jq (s:List UInt8) (hs:s.length≤1000000):S At3 2 [.s s,.s [46]]=some [Bw (cut s)]:=by
 refine Kh9 (N:=1) rfl ?_
 simp (disch:=omega) only [Kz2,nk,xe,EVP,↓reduceIte,EV,Nat.reduceAdd,Nat.reduceEqDiff,Int.reduceToNat,reduceCtorEq]
theorem Zp (s t:List UInt8) (hs:s.length≤9223372036854775807):S fk 2 [.s s,.s t]=some [.b (t.isSuffixOf s)]:=by
 refine Jx8 (N:=1) rfl ?_
 by_cases h:t.length≤s.length
 ·have e:((s.length:Int) - (t.length:Int)).toNat=s.length - t.length:=by omega
  simp (disch:=omega) only [Fr3,e,xe,EVP,↓reduceIte,EV,Nat.reduceAdd,Nat.reduceEqDiff,Int.reduceToNat,reduceCtorEq]
  simp only [Ct]
  congr 4
  rw [Ch,K5,decide_eq_true_eq]
  refine ⟨fun h=>h▸List.drop_suffix _ _,fun h=> ?_⟩
  obtain ⟨p,rfl⟩:=h
  simp
 ·have h2:t.isSuffixOf s=false:=by
   rw [Bool.eq_false_iff,ne_eq,K5]
   exact fun h'=>h h'.length_le
  simp (disch:=omega) only [Fr3,h2,xe,EVP,↓reduceIte,EV,Nat.reduceAdd,Nat.reduceEqDiff,Int.reduceToNat,reduceCtorEq]
theorem L0 (s t:List UInt8) (hs:s.length≤9223372036854775807):S At4 2 [.s s,.s t]=some [.b (t.isSuffixOf s)]:=by
 refine Kl0 (N:=1) rfl ?_
 simp (disch:=omega) only [Kz3,Zp,xe,EVP,↓reduceIte,EV,Nat.reduceAdd,Nat.reduceEqDiff,Int.reduceToNat,reduceCtorEq]
theorem rv (x y:List UInt8):S d8 2 [.s x,.s y]=some [.i .i64 (Lib.compareBytes x y)]:=by
 refine Jv9 (N:=1) rfl ?_
 simp (disch:=omega) only [Im7,Ix4,xe,EVP,↓reduceIte,EV,Nat.reduceAdd,Nat.reduceEqDiff,Int.reduceToNat,reduceCtorEq]
theorem rj (x y:List UInt8):S Qd 2 [.s x,.s y]=some [.i .i64 (Lib.compareBytes x y)]:=by
 refine Jy8 (N:=1) rfl ?_
 simp (disch:=omega) only [Ip0,rv,xe,EVP,↓reduceIte,EV,Nat.reduceAdd,Nat.reduceEqDiff,Int.reduceToNat,reduceCtorEq]
end Go.X.G
/- Names and their labels. -/
namespace Go.X.G
open Go Go.X
def flat (l:List (List UInt8)):List UInt8:=l.flatMap fun x=>x++[46]
def jn (l:List (List UInt8)):List UInt8:=if l=[] then [46] else flat l
def Gt (first:Bool):List (List UInt8)→Bool
 |[]=>true
 |p::r=>Js p && (!decide (p=[42])||first) && Gt false r
theorem Ij1:Oy 46=false:=by decide
theorem Lb {p:List UInt8} (h:Js p=true):(46:UInt8)∉p:=by
 unfold Js at h
 simp at h
 rcases h with rfl|⟨_,h⟩
 ·decide
 ·intro h2
  have:=h 46 h2
  rw [Ij1] at this
  cases this
theorem yg {p:List UInt8} (h:Js p=true):p≠[]:=by
 rintro rfl
 simp [Js] at h
theorem Hr {p:List UInt8}:∀{f:Bool} {l:List (List UInt8)},Gt f l=true→p∈l→Js p=true
 |f,q::r,h,hp=>by
  simp only [Gt,Av] at h
  rcases Al.1 hp with rfl|hp
  ·exact h.1.1
  ·exact Hr h.2 hp
theorem Bq5:∀{l:List (List UInt8)},Gt false l=true→Gt true l=true
 |[],_=>rfl
 |p::r,h=>by
  simp only [Gt,Av] at h ⊢
  exact ⟨⟨h.1.1,by simp⟩,h.2⟩
theorem gx:∀{f:Bool} {a b:List (List UInt8)},Gt f (a++b)=(Gt f a && Gt (f && a.isEmpty) b)
 |f,[],b=>by simp [Gt]
 |f,p::r,b=>by
  simp only [B3,Gt,gx (a:=r)]
  simp [Bool.and_assoc]
theorem Bq6 {f:Bool} {l:List (List UInt8)} (h:Gt f l=true) (k:Nat):Gt f (l.drop k)=true:=by
 rw [←Bl k l,gx,Av] at h
 have h2:=h.2
 cases f with
 |false=>simpa using h2
 |true=>
  cases he:(l.take k).isEmpty with
  |true=>rw [he] at h2;exact h2
  |false=>rw [he] at h2;exact Bq5 h2
theorem Sk:∀(m:List UInt8) (f:Bool) (cur:List UInt8),spl f cur (m++[46])=if Gt f (pcs cur m)=true then some (pcs cur m) else none
 |[],f,cur=>by
  simp only [Cd,spl,if_true,pcs,Gt,A4,O9]
  by_cases h:Js cur=true<;>by_cases h2:cur=[42]<;>cases f<;>simp [h,h2]
 |c::r,f,cur=>by
  simp only [B3,spl,pcs]
  by_cases hc:c=46
  ·simp only [if_pos hc]
   rw [Sk r false []]
   simp only [Gt]
   by_cases h:Js cur=true<;>by_cases h2:cur=[42]<;>cases f<;>by_cases h3:Gt false (pcs [] r)=true<;>simp [h,h2,h3]
  ·simp only [if_neg hc]
   exact Sk r f (cur++[c])
theorem Sm (b:List UInt8):∀(a cur:List UInt8),pcs cur (a++46::b)=pcs cur a++cut b
 |[],cur=>by simp [pcs,cut]
 |c::r,cur=>by
  simp only [B3,pcs]
  split
  ·rw [Sm b r []];rfl
  ·exact Sm b r _
theorem Rz:∀(m cur:List UInt8),flat (pcs cur m)=cur++m++[46]
 |[],cur=>by simp [pcs,flat]
 |c::r,cur=>by
  simp only [pcs]
  split
  ·rename_i h
   have:=Rz r []
   simp only [flat,G2] at this ⊢
   rw [this,h];simp
  ·rw [Rz r (cur++[c])];simp
theorem Ym (a b:List (List UInt8)):flat (a++b)=flat a++flat b:=by simp [flat]
theorem Jb9 (cur m:List UInt8):pcs cur m≠[]:=by
 cases m with
 |nil=>simp [pcs]
 |cons c r=>
  simp only [pcs]
  split
  ·simp
  ·intro h
   have:=Rz r (cur++[c])
   rw [h] at this
   simp [flat] at this
theorem Rf:∀(l:List (List UInt8)),(∀p∈l,(46:UInt8)∉p)→cut (flat l)=l++[[]]
 |[],_=>rfl
 |p::l,h=>by
  have h1:flat (p::l)=p++46::flat l:=by simp [flat]
  rw [h1]
  show pcs [] _=_
  rw [Sm,X2 p [] (h p (by simp)),Rf l (fun q hq=>h q (by simp [hq]))]
  simp
theorem J3:∀(l:List (List UInt8)),l≠[]→∃m,flat l=m++[46]
 |[p],_=>⟨p,by simp [flat]⟩
 |p::q::r,_=>by
  obtain ⟨m,hm⟩:=J3 (q::r) (by simp)
  exact ⟨p++[46]++m,by simp only [flat,G2] at hm ⊢;rw [hm];simp⟩
theorem y3 {l:List (List UInt8)} (hl:l≠[]) (h:∀p∈l,(46:UInt8)∉p) {m:List UInt8} (hm:flat l=m++[46]):cut m=l:=by
 have h1:=Rf l h
 rw [hm] at h1
 have h2:cut (m++[46])=cut m++[[]]:=by
  show pcs [] (m++46::[])=_
  rw [Sm];rfl
 rw [h2] at h1
 exact O8 h1
theorem Jz {l:List (List UInt8)} (h:Gt true l=true) (hl:l≠[]):2≤(flat l).length:=by
 cases l with
 |nil=>exact absurd rfl hl
 |cons p r=>
  have h1:=yg (Hr h (Gb ..))
  have:0<p.length:=By.2 h1
  simp [flat];omega
theorem Hs3 {l:List (List UInt8)} (h:Gt true l=true) (hl:l≠[]) (hlen:(flat l).length≤254):nm (flat l)=some l:=by
 obtain ⟨m,hm⟩:=J3 l hl
 have h1:=y3 hl (fun p hp=>Lb (Hr h hp)) hm
 have h2:=Jz h hl
 unfold nm
 rw [if_neg (by intro e;rw [e] at h2;simp at h2),if_pos ⟨h2,hlen,by rw [hm];simp⟩,hm,Sk]
 have:pcs [] m=l:=h1
 rw [this,if_pos h]
theorem Hs2 {n:List UInt8} {l:List (List UInt8)} (h:nm n=some l):(n=[46]∧l=[])∨(l≠[]∧Gt true l=true∧n=flat l∧n.length≤254):=by
 unfold nm at h
 split at h
 ·rename_i e;injection h with h;exact .inl ⟨e,h.symm⟩
 ·split at h
  ·rename_i h1
   right
   obtain ⟨h2,h3,h4⟩:=h1
   obtain ⟨m,hm⟩:∃m,n=m++[46]:=by
    refine ⟨n.dropLast,?_⟩
    have:n≠[]:=by intro e;simp [e] at h2
    have h5:=List.dropLast_concat_getLast this
    rw [←h5]
    congr 1
    ·simp
    ·have h6:n[n.length - 1]? =some (n.getLast this):=by rw [Jj];exact Ax _
     rw [h6] at h4
     injection h4 with h4
     simp [h4]
   rw [hm,Sk] at h
   split at h
   ·rename_i h5
    injection h with h
    subst h
    refine ⟨Jb9 _ _,h5,?_,by omega⟩
    rw [Rz,hm];simp
   ·cases h
  ·cases h
theorem Hl4 {n:List UInt8}:vld n=true↔nm n=some (lbl n):=by
 unfold vld lbl
 cases nm n<;>simp
theorem vld_cases {n:List UInt8} (h:vld n=true):(n=[46]∧lbl n=[])∨(lbl n≠[]∧Gt true (lbl n)=true∧n=flat (lbl n)∧n.length≤254):=Hs2 (Hl4.1 h)
theorem s5 {n:List UInt8} (h:vld n=true):Gt true (lbl n)=true:=by
 rcases vld_cases h with ⟨_,h⟩|⟨_,h,_⟩
 ·rw [h];rfl
 ·exact h
theorem R4 {n:List UInt8} (h:vld n=true):n=jn (lbl n):=by
 unfold jn
 rcases vld_cases h with ⟨h1,h2⟩|⟨h1,_,h2,_⟩
 ·rw [h2,if_pos rfl];exact h1
 ·rw [if_neg h1];exact h2
theorem R3 {n:List UInt8} (h:vld n=true):n.length≤254:=by
 rcases vld_cases h with ⟨h1,_⟩|⟨_,_,_,h⟩
 ·simp [h1]
 ·exact h
theorem Rx:lbl [46]=[]:=rfl
theorem gp {l:List (List UInt8)} (h:Gt true l=true) (hl:l≠[]):flat l≠[46]:=by
 intro e
 have:=Jz h hl
 rw [e] at this;simp at this
theorem Ij2 {n:List UInt8} (h:vld n=true):lbl n=[]↔n=[46]:=by
 rcases vld_cases h with ⟨h1,h2⟩|⟨h1,h2,h3,_⟩
 ·simp [h1,Rx]
 ·constructor
  ·intro e;exact absurd e h1
  ·intro e;rw [h3] at e;exact absurd e (gp h2 h1)
theorem Ir6 {l:List (List UInt8)} (h:Gt true l=true) (hlen:(flat l).length≤254):vld (jn l)=true∧lbl (jn l)=l:=by
 unfold jn
 by_cases hl:l=[]
 ·subst hl;exact ⟨rfl,rfl⟩
 ·rw [if_neg hl]
  have:=Hs3 h hl hlen
  exact ⟨by simp [vld,this],by simp [lbl,this]⟩
theorem Tv {a b:List UInt8} (ha:vld a=true) (hb:vld b=true) (h:lbl a=lbl b):a=b:=by
 rw [R4 ha,R4 hb,h]
theorem Yh (l:List (List UInt8)) (k:Nat):(flat (l.drop k)).length≤(flat l).length:=by
 have:flat l=flat (l.take k)++flat (l.drop k):=by rw [←Ym,Bl]
 rw [this,Az];omega
theorem Q9 {n:List UInt8} (h:vld n=true) (k:Nat):vld (jn ((lbl n).drop k))=true∧lbl (jn ((lbl n).drop k))=(lbl n).drop k:=by
 refine Ir6 (Bq6 (s5 h) k) ?_
 rcases vld_cases h with ⟨_,h1⟩|⟨_,_,h1,h2⟩
 ·rw [h1];simp [flat]
 ·have:=Yh (lbl n) k
  rw [←h1] at this;omega
end Go.X.G
/- Names: what the program's functions give. -/
namespace Go.X.G
open Go Go.X
def ord (s:List UInt8):Bool:=decide (1≤s.length) && decide (s.length≤63) && s.all Oy
theorem Cf7 (s:List UInt8):Js s=(decide (s=[42])||ord s):=rfl
theorem Fb7:ord [42]=false:=by decide
theorem ln (s:List UInt8) (N:Nat) (hN:s.length<N) (hs:s.length≤9223372036854775807):
  Gk4.ev S N [.s s]=some (if s.all Oy=true then .yld 0 [] else .ret [.b false]):=by
 refine Dx s (fun i=>[.i .i64 (i:Int)]) (fun i r=>if r.all Oy=true then .yld 0 [] else .ret [.b false]) rfl hN (fun i c r hd hi hc=> ?_) ?_
 ·have key:Ef5.ev S N ([.s s]++[.i .i64 (i:Int)])=some (if Oy c=true then .yld 1 [.i .i64 ((i:Int)+1)] else .ret [.b false]):=by
   simp (disch:=omega) only [Bc4,hc,xe,EVP,↓reduceIte,EV,Nat.reduceAdd,Nat.reduceEqDiff,Int.reduceToNat,reduceCtorEq]
   unfold Oy
   grind
  rw [key]
  rcases Ak (Oy c) with h|h<;>simp [h,Out.goes]
 ·simp (disch:=omega) [Bc4,xe,EVP,↓reduceIte,EV,Nat.reduceAdd,Nat.reduceEqDiff,Int.reduceToNat,reduceCtorEq,Out.goes]
theorem Kx (s:List UInt8) (hs:s.length≤9223372036854775807):S Cq8 1 [.s s]=some [.b (ord s)]:=by
 refine Kh8 (N:=s.length+1) rfl ?_
 unfold ord
 by_cases h1:s=[]
 ·subst h1
  simp (disch:=omega) [Bc4,xe,EVP,↓reduceIte,EV,Nat.reduceAdd,Nat.reduceEqDiff,Int.reduceToNat,reduceCtorEq]
 ·have h2:1≤s.length:=By.2 h1
  by_cases h3:s.length≤63
  ·simp (disch:=omega) only [Bc4,ln,h1,xe,EVP,↓reduceIte,EV,Nat.reduceAdd,Nat.reduceEqDiff,Int.reduceToNat,reduceCtorEq]
   cases s.all Oy<;>simp [h2,h3]
  ·simp (disch:=omega) only [Bc4,h1,xe,EVP,↓reduceIte,EV,Nat.reduceAdd,Nat.reduceEqDiff,Int.reduceToNat,reduceCtorEq]
   simp [h3]
def okP (i:Nat) (p:List UInt8):Bool:=ord p||(decide (i=0) && decide (p=[42]))
def Fc6:Nat→List (List UInt8)→Bool
 |_,[]=>true
 |i,p::r=>okP i p && Fc6 (i+1) r
theorem dv:∀(l:List (List UInt8)) (i:Nat),Fc6 i l=Gt (decide (i=0)) l
 |[],_=>rfl
 |p::r,i=>by
  have h1:=dv r (i+1)
  simp only [Fc6,Gt,h1,okP,Cf7]
  by_cases h2:p=[42]
  ·subst h2
   by_cases h3:i=0<;>simp [Fb7,h3]
  ·simp [h2]
theorem El3 (p q:PV) (l:List (List UInt8)) (hl:l.length≤1000000) (hw:∀x∈l,x.length≤9223372036854775807) (N:Nat) (hN:l.length<N):
  Gq5.ev S N [p,q,Bw l]=some (if Fc6 0 l=true then .yld 0 [] else .ret [.b false]):=by
 refine Dx l (fun i=>[.i .i64 (i:Int)]) (fun i r=>if Fc6 i r=true then .yld 0 [] else .ret [.b false]) rfl hN (fun i c r hd hi hc=> ?_) ?_
 ·have hcw:=hw c (Ar hc)
  have key:Eg1.ev S N ([p,q,Bw l]++[.i .i64 (i:Int)])=some (if okP i c=true then .yld 1 [.i .i64 ((i:Int)+1)] else .ret [.b false]):=by
   rcases Ak (ord c) with h1|h1
   ·simp (disch:=omega) only [Xv,Kx,hc,h1,xe,EVP,↓reduceIte,EV,Nat.reduceAdd,Nat.reduceEqDiff,Int.reduceToNat,reduceCtorEq]
    simp [okP,h1]
   ·by_cases h2:i=0
    ·subst h2
     by_cases h3:c=[42]
     ·subst h3
      simp (disch:=omega) only [Xv,Kx,hc,h1,xe,EVP,↓reduceIte,EV,Nat.reduceAdd,Nat.reduceEqDiff,Int.reduceToNat,reduceCtorEq]
      simp [okP]
     ·simp (disch:=omega) only [Xv,Kx,hc,h1,h3,xe,EVP,↓reduceIte,EV,Nat.reduceAdd,Nat.reduceEqDiff,Int.reduceToNat,reduceCtorEq]
      simp [okP,h1,h3]
    ·simp (disch:=omega) only [Xv,Kx,hc,h1,xe,EVP,↓reduceIte,EV,Nat.reduceAdd,Nat.reduceEqDiff,Int.reduceToNat,reduceCtorEq]
     simp [okP,h1,h2]
  rw [key]
  rcases Ak (okP i c) with h|h<;>simp [h,Fc6,Out.goes]
 ·simp (disch:=omega) only [Xv,xe,EVP,↓reduceIte,EV,Nat.reduceAdd,Nat.reduceEqDiff,Int.reduceToNat,reduceCtorEq]
  simp [Out.goes,Fc6]
theorem X3:∀(m cur:List UInt8) (x:List UInt8),x∈pcs cur m→x.length≤cur.length+m.length
 |[],cur,x,h=>by simp [pcs] at h;subst h;simp
 |c::r,cur,x,h=>by
  simp only [pcs] at h
  split at h
  ·rcases Al.1 h with rfl|h
   ·omega
   ·have:=X3 r [] x h;simp at this ⊢;omega
  ·have:=X3 r _ x h;simp at this ⊢;omega
theorem Fl7 (m x:List UInt8) (h:x∈cut m):x.length≤m.length:=by simpa using X3 m [] x h
theorem Kq4 (m:List UInt8):(cut m).length≤m.length+1:=by
 have:=Cl8 m
 have:m.count 46≤m.length:=List.count_le_length
 omega
theorem Bg6 (n:List UInt8):([46]:List UInt8).isSuffixOf n=true↔∃m,n=m++[46]:=by
 rw [K5]
 exact ⟨fun ⟨m,h⟩=>⟨m,h.symm⟩,fun ⟨m,h⟩=>⟨m,h.symm⟩⟩
theorem Ep4 (m:List UInt8) (hm:m≠[]) (hl:m.length≤253):vld (m++[46])=Fc6 0 (cut m):=by
 have h1:m++[46]≠[46]:=fun e=>hm (O8 (bs:=[46]) (by simpa using e))
 have h2:0<m.length:=By.2 hm
 unfold vld nm
 rw [if_neg h1,if_pos ⟨by simp;omega,by simp;omega,by simp⟩,Sk,dv]
 have e:pcs [] m=cut m:=rfl
 have e2:Gt (decide ((0:Nat)=0)) (cut m)=Gt true (cut m):=rfl
 rw [e,e2]
 cases Gt true (cut m)<;>rfl
theorem Ff2 (m:List UInt8) (h:vld (m++[46])=true) (hm:m≠[]):lbl (m++[46])=cut m:=by
 rcases vld_cases h with ⟨h1,_⟩|⟨h1,h2,h3,_⟩
 ·exact absurd (O8 (bs:=[46]) (by simpa using h1)) hm
 ·exact (y3 h1 (fun p hp=>Lb (Hr h2 hp)) h3.symm).symm
theorem B4 (n:List UInt8) (hn:n.length≤9223372036854775807):S Oj 1 [.s n]=some [.b (vld n)]:=by
 refine Kp7 (N:=300) rfl ?_
 by_cases h0:n=[46]
 ·subst h0
  simp (disch:=omega) only [Xv,xe,EVP,↓reduceIte,EV,Nat.reduceAdd,Nat.reduceEqDiff,Int.reduceToNat,reduceCtorEq]
  rfl
 ·by_cases h1:255≤n.length
  ·have hv:vld n=false:=by
    rw [Bool.eq_false_iff];intro h;have:=R3 h;omega
   simp (disch:=omega) only [Xv,h0,hv,xe,EVP,↓reduceIte,EV,Nat.reduceAdd,Nat.reduceEqDiff,Int.reduceToNat,reduceCtorEq]
  ·rcases Ak (([46]:List UInt8).isSuffixOf n) with h2|h2
   ·obtain ⟨m,rfl⟩:=(Bg6 n).1 h2
    have hm:m≠[]:=fun e=>h0 (by simp [e])
    have hl:(m++[46]).length=m.length+1:=by simp
    have hml:m.length≤1000000:=by omega
    have e:List.drop 0 (List.take (((m++[46]).length:Int) - 1).toNat (m++[46]))=m:=by
     have:(((m++[46]).length:Int) - 1).toNat=m.length:=by omega
     rw [this];simp
    have hc:=Kq4 m
    have hv:=Ep4 m hm (by omega)
    have hk:=El3 (.s (m++[46])) (.b true) (cut m) (by omega) (fun x hx=>by have:=Fl7 m x hx;omega) 300 (by omega)
    simp (disch:=omega) only [Xv,L0,jq,e,hk,h0,h2,xe,EVP,↓reduceIte,EV,Nat.reduceAdd,Nat.reduceEqDiff,Int.reduceToNat,reduceCtorEq]
    rw [hv]
    cases Fc6 0 (cut m)<;>simp
   ·have hv:vld n=false:=by
     rw [Bool.eq_false_iff];intro h
     rcases vld_cases h with ⟨h3,_⟩|⟨h3,_,h5,_⟩
     ·exact h0 h3
     ·obtain ⟨m,hm⟩:=J3 _ h3
      have:=(Bg6 n).2 ⟨m,h5.trans hm⟩
      rw [h2] at this;cases this
    simp (disch:=omega) only [Xv,L0,h0,h2,hv,xe,EVP,↓reduceIte,EV,Nat.reduceAdd,Nat.reduceEqDiff,Int.reduceToNat,reduceCtorEq]
theorem P9 (n:List UInt8) (hn:n.length≤9223372036854775807):S S5 1 [.s n]=some [Bw (lbl n)]:=by
 refine Jy7 (N:=1) rfl ?_
 by_cases h0:n=[46]
 ·subst h0
  simp (disch:=omega) only [Bf2,Rx,xe,EVP,↓reduceIte,EV,Nat.reduceAdd,Nat.reduceEqDiff,Int.reduceToNat,reduceCtorEq]
 ·rcases Ak (vld n) with h1|h1
  ·obtain ⟨m,hm,rfl⟩:∃m,m≠[]∧n=m++[46]:=by
    rcases vld_cases h1 with ⟨h3,_⟩|⟨h3,_,h5,_⟩
    ·exact absurd h3 h0
    ·obtain ⟨m,hm⟩:=J3 _ h3
     exact ⟨m,fun e=>h0 (by rw [h5,hm,e];rfl),h5.trans hm⟩
   have hl:(m++[46]).length=m.length+1:=by simp
   have e:List.drop 0 (List.take (((m++[46]).length:Int) - 1).toNat (m++[46]))=m:=by
    have:(((m++[46]).length:Int) - 1).toNat=m.length:=by omega
    rw [this];simp
   have hl2:=R3 h1
   have e2:=Ff2 m h1 hm
   simp (disch:=omega) only [Bf2,B4,jq,e,e2,h0,h1,xe,EVP,↓reduceIte,EV,Nat.reduceAdd,Nat.reduceEqDiff,Int.reduceToNat,reduceCtorEq]
  ·have e:lbl n=[]:=by
    unfold lbl;unfold vld at h1
    cases h:nm n with
    |none=>rfl
    |some l=>rw [h] at h1;cases h1
   simp (disch:=omega) only [Bf2,B4,h0,h1,e,xe,EVP,↓reduceIte,EV,Nat.reduceAdd,Nat.reduceEqDiff,Int.reduceToNat,reduceCtorEq]
theorem Ol (p:List UInt8) (l:List (List UInt8)):flat (p::l)=p++46::flat l:=by simp [flat]
def X6 (n:List UInt8):List UInt8:=if vld n=true∧n≠[46] then jn ((lbl n).drop 1) else []
def yl (n:List UInt8):Bool:=vld n && !decide (n=[46])
theorem W0 (n:List UInt8) (hn:n.length≤9223372036854775807):S Bj8 1 [.s n]=some [.s (X6 n),.b (yl n)]:=by
 refine Kr1 (N:=1) rfl ?_
 unfold X6 yl
 by_cases h0:n=[46]
 ·subst h0
  simp (disch:=omega) only [Ep0,xe,EVP,↓reduceIte,EV,Nat.reduceAdd,Nat.reduceEqDiff,Int.reduceToNat,reduceCtorEq]
  simp
 ·rcases Ak (vld n) with h1|h1
  ·rcases vld_cases h1 with ⟨h3,_⟩|⟨h3,h4,h5,h6⟩
   ·exact absurd h3 h0
   ·cases hl:lbl n with
    |nil=>exact absurd hl h3
    |cons p r=>
     rw [hl] at h4 h5
     have hp:=Lb (Hr h4 (Gb ..))
     have hi:=jz n 46
     have hc:(((46:UInt8).toNat:Nat):Int)=46:=rfl
     have hx:Lib.indexByte n 46=(p.length:Int):=by rw [h5,Ol];exact Jt 46 _ p hp
     rw [hc,hx] at hi
     have hlen:n.length=p.length+1+(flat r).length:=by rw [h5,Ol];simp;omega
     have e:List.drop ((p.length:Int)+1).toNat (List.take n.length n)=flat r:=by
      have:((p.length:Int)+1).toNat=p.length+1:=by omega
      rw [this,Ct,h5,Ol]
      simp
     by_cases h7:r=[]
     ·subst h7
      have e2:flat []=[]:=rfl
      simp (disch:=omega) only [Ep0,B4,hi,e,e2,h0,h1,xe,EVP,↓reduceIte,EV,Nat.reduceAdd,Nat.reduceEqDiff,Int.reduceToNat,reduceCtorEq]
      simp [jn]
     ·have e2:¬flat r=[]:=by
       obtain ⟨m,hm⟩:=J3 r h7
       rw [hm];simp
      simp (disch:=omega) only [Ep0,B4,hi,e,e2,h0,h1,xe,EVP,↓reduceIte,EV,Nat.reduceAdd,Nat.reduceEqDiff,Int.reduceToNat,reduceCtorEq]
      simp [jn,h7]
  ·simp (disch:=omega) only [Ep0,B4,h0,h1,xe,EVP,↓reduceIte,EV,Nat.reduceAdd,Nat.reduceEqDiff,Int.reduceToNat,reduceCtorEq]
   simp
def Ch7 (n top:List UInt8):Bool:=(decide (top=[46])||decide (n=top))||(46::top).isSuffixOf n
theorem Iv8 (n top:List UInt8) (hn:n.length≤9223372036854775807) (ht:top.length≤1000000):S Cv2 2 [.s n,.s top]=some [.b (Ch7 n top)]:=by
 refine Kl8 (N:=1) rfl ?_
 unfold Ch7
 have h0:([46]:List UInt8).length=1:=rfl
 by_cases h1:top=[46]<;>by_cases h2:n=top<;>simp (disch:=omega) only [Kz8,L0,h1,h2,xe,EVP,↓reduceIte,EV,Nat.reduceAdd,Nat.reduceEqDiff,Int.reduceToNat,reduceCtorEq]
 all_goals simp
theorem ny {a b:List (List UInt8)} (ha:Gt true a=true) (hb:Gt true b=true) (h:(46::flat b)<:+flat a):b<:+a:=by
 obtain ⟨p,hp⟩:=h
 have h1:=Rf a (fun x hx=>Lb (Hr ha hx))
 have h2:=Rf b (fun x hx=>Lb (Hr hb hx))
 rw [←hp] at h1
 have h3:cut (p++46::flat b)=cut p++cut (flat b):=Sm (flat b) p []
 rw [h3,h2,←Ap] at h1
 exact ⟨cut p,O8 h1⟩
theorem Fh6 {n top:List UInt8} (hn:vld n=true) (ht:vld top=true):Ch7 n top=true↔lbl top<:+lbl n:=by
 unfold Ch7
 simp only [Am,decide_eq_true_eq,K5]
 constructor
 ·rintro ((rfl|rfl)|h)
  ·rw [Rx];exact List.nil_suffix
  ·exact List.suffix_refl _
  ·rcases vld_cases ht with ⟨h1,h2⟩|⟨h1,h2,h3,_⟩
   ·rw [h2];exact List.nil_suffix
   ·rcases vld_cases hn with ⟨h5,_⟩|⟨h5,h6,h7,_⟩
    ·rw [h5] at h
     have h9:=h.length_le
     have h8:=Jz h2 h1
     rw [←h3] at h8
     simp only [A0,Bc] at h9;omega
    ·rw [h3,h7] at h
     exact ny h6 h2 h
 ·intro h
  obtain ⟨p,hp⟩:=h
  rcases vld_cases ht with ⟨h1,h2⟩|⟨h1,h2,h3,_⟩
  ·exact .inl (.inl h1)
  ·by_cases hp0:p=[]
   ·left;right
    subst hp0
    exact Tv hn ht hp.symm
   ·right
    rcases vld_cases hn with ⟨_,h5⟩|⟨h5,h6,h7,_⟩
    ·rw [h5] at hp
     exact absurd (List.append_eq_nil_iff.1 hp).1 hp0
    ·obtain ⟨m,hm⟩:=J3 p hp0
     rw [h7,←hp,Ym,hm]
     exact ⟨m,by rw [Ap,←h3];simp⟩
theorem T6 {α:Type} [DecidableEq α]:∀(a b:List α),Rh a b=b.length↔b<+:a
 |[],[]=>by simp [Rh]
 |[],y::ys=>by simp [Rh]
 |x::xs,[]=>by simp [Rh]
 |x::xs,y::ys=>by
  have:=T6 xs ys
  simp only [Rh]
  split
  ·rename_i h;subst h
   simp [this,L1]
  ·rename_i h
   simp [L1,Ne.symm h]
theorem cj (a b:List (List UInt8)):Jm a b=b.length↔b<:+a:=by
 unfold Jm
 have:=T6 a.reverse b.reverse
 rw [List.length_reverse] at this
 rw [this,List.reverse_prefix]
theorem C9 {n top:List UInt8}:under n top=true↔vld n=true∧vld top=true∧lbl top<:+lbl n:=by
 unfold under
 simp [cj,and_assoc]
theorem Al6 {n top:List UInt8} (hn:vld n=true) (ht:vld top=true):Ch7 n top=under n top:=by
 rw [Ch,Fh6 hn ht,C9]
 simp [hn,ht]
theorem Hq (n top:List UInt8) (hn:n.length≤9223372036854775807) (ht:top.length≤9223372036854775807):S Pp 2 [.s n,.s top]=some [.b (under n top)]:=by
 refine Kr2 (N:=1) rfl ?_
 rcases Ak (vld n) with h1|h1
 ·rcases Ak (vld top) with h2|h2
  ·have h3:=R3 h2
   simp (disch:=omega) only [Hl0,B4,Iv8,h1,h2,xe,EVP,↓reduceIte,EV,Nat.reduceAdd,Nat.reduceEqDiff,Int.reduceToNat,reduceCtorEq]
   rw [Al6 h1 h2]
  ·have h3:under n top=false:=by simp [under,h2]
   simp (disch:=omega) only [Hl0,B4,h1,h2,h3,xe,EVP,↓reduceIte,EV,Nat.reduceAdd,Nat.reduceEqDiff,Int.reduceToNat,reduceCtorEq]
 ·have h3:under n top=false:=by simp [under,h1]
  simp (disch:=omega) only [Hl0,B4,h1,h3,xe,EVP,↓reduceIte,EV,Nat.reduceAdd,Nat.reduceEqDiff,Int.reduceToNat,reduceCtorEq]
end Go.X.G
/- Names: order, common ancestors, wildcards. -/
namespace Go.X.G
open Go Go.X
theorem Qp:∀(a:List UInt8),Op.bytesLess a a=false
 |[]=>rfl
 |a::x=>by simp [Op.bytesLess,Qp x]
theorem Lh:∀(a b:List UInt8),Lib.compareBytes a b=cmpS a b
 |[],[]=>rfl
 |[],_::_=>rfl
 |_::_,[]=>rfl
 |a::x,b::y=>by
  have ih:=Lh x y
  unfold cmpS at ih ⊢
  simp only [Lib.compareBytes,Op.bytesLess,ih]
  by_cases h1:a<b
  ·simp [h1]
  ·by_cases h2:b<a
   ·have h3:a≠b:=fun e=>by subst e;exact h1 h2
    simp [h1,h2,h3]
   ·have h3:a=b:=UInt8.le_antisymm (UInt8.not_lt.1 h2) (UInt8.not_lt.1 h1)
    subst h3
    simp [h1]
theorem I2 {a b:List UInt8}:cmpS a b=0↔a=b:=by
 unfold cmpS
 by_cases h:a=b
 ·subst h;simp [Qp]
 ·cases h2:Op.bytesLess a b<;>simp [h]
theorem Km (x y:List UInt8):S Qd 2 [.s x,.s y]=some [.i .i64 (cmpS x y)]:=by
 rw [rj,Lh]
def Ud:List (List UInt8)→List (List UInt8)→Option Int
 |x::xs,y::ys=>if x=y then Ud xs ys else some (cmpS x y)
 |_,_=>none
theorem Cm3:∀(a b:List (List UInt8)),Ud a b=if Rh a b<a.length∧Rh a b<b.length then some (cmpS (a.getD (Rh a b) []) (b.getD (Rh a b) [])) else none
 |[],b=>by simp [Ud,Rh]
 |x::xs,[]=>by simp [Ud,Rh]
 |x::xs,y::ys=>by
  have ih:=Cm3 xs ys
  simp only [Ud,Rh]
  by_cases h:x=y
  ·simp only [if_pos h,ih]
   simp
  ·simp [h]
def Bx7 (a b:List (List UInt8)):Int:=match Ud a.reverse b.reverse with
 |some c=>c
 |none=>if a.length<b.length then -1 else if b.length<a.length then 1 else 0
theorem yn (a:List (List UInt8)) (k:Nat) (h:k<a.length):a.reverse.getD k []=a.getD (a.length - 1 - k) []:=by
 simp [Bf,List.getElem?_reverse h]
theorem Y7 {a b:List UInt8} (ha:vld a=true) (hb:vld b=true):I3 a b=Bx7 (lbl a) (lbl b):=by
 unfold I3 Bx7
 rw [Cm3]
 have e:Rh (lbl a).reverse (lbl b).reverse=Jm (lbl a) (lbl b):=rfl
 rw [e,ha,hb]
 simp only [List.length_reverse,Bool.and_self,if_true]
 by_cases h:Jm (lbl a) (lbl b)<(lbl a).length∧Jm (lbl a) (lbl b)<(lbl b).length
 ·rw [if_pos h,if_pos h,yn _ _ h.1,yn _ _ h.2]
 ·rw [if_neg h,if_neg h]
theorem rq (a b:List (List UInt8)) (p1 p2 p3 p4:PV) (ha:a.length≤1000) (hb:b.length≤1000) (N:Nat) (hN:1001<N):
  Cb9.ev S N [p1,p2,p3,p4,Bw a,Bw b]=some (match Ud a.reverse b.reverse with|some c=> .ret [.i .i64 c]|none=> .yld 0 []):=by
 have key:=It (fn:=S) (N:=N) (η:=[p1,p2,p3,p4,Bw a,Bw b]) (id:=1) (init:=[(.c (.i .i64 (1)))]) (body:=Ef8) (α:=Nat) (fun k=>[.i .i64 ((k:Int)+1)])
  (fun k=>match Ud (a.reverse.drop k) (b.reverse.drop k) with|some c=> .ret [.i .i64 c]|none=> .yld 0 []) (fun k=>k≤a.length∧k≤b.length) (fun k=>a.length - k) 0 rfl ⟨Cn _,Cn _⟩ (by omega) ?_
 ·simpa [Cb9] using key
 ·rintro k ⟨h1,h2⟩
  by_cases h3:k<a.length
  ·by_cases h4:k<b.length
   ·have e1:((a.length:Int) - ((k:Int)+1)).toNat=a.length - 1 - k:=by omega
    have e2:((b.length:Int) - ((k:Int)+1)).toNat=b.length - 1 - k:=by omega
    have g1:a[a.length - 1 - k]? =some (a[a.length - 1 - k]'(by omega)):=Ax (by omega)
    have g2:b[b.length - 1 - k]? =some (b[b.length - 1 - k]'(by omega)):=Ax (by omega)
    have d1:a.reverse.drop k=(a[a.length - 1 - k]'(by omega))::a.reverse.drop (k+1):=by
     rw [B0 (by simpa using h3)];simp
    have d2:b.reverse.drop k=(b[b.length - 1 - k]'(by omega))::b.reverse.drop (k+1):=by
     rw [B0 (by simpa using h4)];simp
    rw [d1,d2]
    generalize (a[a.length - 1 - k]'(by omega))=x at g1
    generalize (b[b.length - 1 - k]'(by omega))=y at g2
    simp only [Ud]
    by_cases h:x=y
    ·left
     have h5:cmpS x y=0:=I2.2 h
     refine ⟨k+1,?_,⟨by omega,by omega⟩,by omega,by rw [if_pos h]⟩
     simp (disch:=omega) only [kj,Km,e1,e2,g1,g2,h5,xe,EVP,↓reduceIte,EV,Nat.reduceAdd,Nat.reduceEqDiff,Int.reduceToNat,reduceCtorEq]
    ·right
     have h5:¬cmpS x y=0:=fun e=>h (I2.1 e)
     rw [if_neg h]
     simp (disch:=omega) only [kj,Km,e1,e2,g1,g2,h5,xe,EVP,↓reduceIte,EV,Nat.reduceAdd,Nat.reduceEqDiff,Int.reduceToNat,reduceCtorEq]
     simp [Out.goes]
   ·right
    have d2:b.reverse.drop k=[]:=Fz (by simp;omega)
    have z:Ud (a.reverse.drop k) []=none:=by cases a.reverse.drop k<;>rfl
    rw [d2,z]
    simp (disch:=omega) [kj,xe,EVP,↓reduceIte,EV,Nat.reduceAdd,Nat.reduceEqDiff,Int.reduceToNat,reduceCtorEq,Out.goes]
  ·right
   have d1:a.reverse.drop k=[]:=Fz (by simp;omega)
   have z:Ud [] (b.reverse.drop k)=none:=rfl
   rw [d1,z]
   simp (disch:=omega) [kj,xe,EVP,↓reduceIte,EV,Nat.reduceAdd,Nat.reduceEqDiff,Int.reduceToNat,reduceCtorEq,Out.goes]
theorem Uy (a b:List UInt8) (hn:a.length≤9223372036854775807) (ht:b.length≤9223372036854775807):S Pn 2 [.s a,.s b]=some [.i .i64 (I3 a b)]:=by
 refine Km3 (N:=1002) rfl ?_
 have h1:=G7 a
 have h2:=G7 b
 rcases Ak (vld a) with h3|h3<;>rcases Ak (vld b) with h4|h4
 ·rw [Y7 h3 h4]
  unfold Bx7
  have hk:=rq (lbl a) (lbl b) (.s a) (.s b) (.b true) (.b true) (by omega) (by omega) 1002 (by omega)
  cases h5:Ud (lbl a).reverse (lbl b).reverse with
  |some c=>
   rw [h5] at hk
   simp (disch:=omega) only [kj,B4,P9,hk,h3,h4,xe,EVP,↓reduceIte,EV,Nat.reduceAdd,Nat.reduceEqDiff,Int.reduceToNat,reduceCtorEq]
  |none=>
   rw [h5] at hk
   simp (disch:=omega) only [kj,B4,P9,hk,h3,h4,xe,EVP,↓reduceIte,EV,Nat.reduceAdd,Nat.reduceEqDiff,Int.reduceToNat,reduceCtorEq]
   grind
 all_goals unfold I3
 all_goals simp (disch:=omega) only [kj,B4,Km,h3,h4,xe,EVP,↓reduceIte,EV,Nat.reduceAdd,Nat.reduceEqDiff,Int.reduceToNat,reduceCtorEq]
 all_goals simp
theorem Gv7 {n:List UInt8} (h:vld n=true) (k:Nat):(jn ((lbl n).drop k)).length≤254:=R3 (Q9 h k).1
theorem Al9 {n:List UInt8} (h:vld n=true):(n[0]? =some 42↔(lbl n)[0]? =some [42]):=by
 rcases vld_cases h with ⟨h1,h2⟩|⟨h1,h2,h3,_⟩
 ·subst h1;simp [Rx]
 ·cases hl:lbl n with
  |nil=>exact absurd hl h1
  |cons p r=>
   rw [hl] at h2 h3
   have hp:=Hr h2 (Gb ..)
   have hne:=yg hp
   cases p with
   |nil=>exact absurd rfl hne
   |cons c q=>
    rw [h3,Ol]
    simp only [B3,Ck,Option.some.injEq]
    constructor
    ·rintro rfl
     unfold Js at hp
     simp at hp
     rcases hp with h|h
     ·rw [h]
     ·exfalso
      have:Oy 42=false:=by decide
      rw [this] at h;simp at h
    ·intro h;injection h
end Go.X.G
/- The canonical order of names is a total order. -/
namespace Go.X.G
open Go Go.X
structure TO {α:Type} (lt:α→α→Prop):Prop where
 irr:∀a,¬lt a a
 tr:∀a b c,lt a b→lt b c→lt a c
 tri:∀a b,lt a b∨a=b∨lt b a
theorem TO.asym {α:Type} {lt:α→α→Prop} (h:TO lt) {a b:α} (h1:lt a b):¬lt b a:=fun h2=>h.irr a (h.tr _ _ _ h1 h2)
theorem TO.ntr {α:Type} {lt:α→α→Prop} (h:TO lt) {a b c:α} (h1:¬lt a b) (h2:¬lt b c):¬lt a c:=by
 intro h3
 rcases h.tri b a with h4|h4|h4
 ·exact h2 (h.tr _ _ _ h4 h3)
 ·subst h4;exact h2 h3
 ·exact h1 h4
def lex {α:Type} (lt:α→α→Prop):List α→List α→Prop
 |[],[]=>False
 |[],_::_=>True
 |_::_,[]=>False
 |a::x,b::y=>lt a b∨(a=b∧lex lt x y)
theorem Cz4 {α:Type} {lt:α→α→Prop} (h:TO lt):∀x:List α,¬lex lt x x
 |[]=>by simp [lex]
 |a::x=>by
  simp only [lex,true_and,not_or]
  exact ⟨h.irr a,Cz4 h x⟩
theorem Gj5 {α:Type} {lt:α→α→Prop} (h:TO lt):∀x y z:List α,lex lt x y→lex lt y z→lex lt x z
 |[],[],_,h1,_=>by simp [lex] at h1
 |[],_::_,[],_,h2=>by simp [lex] at h2
 |[],_::_,_::_,_,_=>by simp [lex]
 |_::_,[],_,h1,_=>by simp [lex] at h1
 |_::_,_::_,[],_,h2=>by simp [lex] at h2
 |a::x,b::y,c::z,h1,h2=>by
  simp only [lex] at h1 h2 ⊢
  rcases h1 with h1|⟨rfl,h1⟩
  ·rcases h2 with h2|⟨rfl,h2⟩
   ·exact .inl (h.tr _ _ _ h1 h2)
   ·exact .inl h1
  ·rcases h2 with h2|⟨rfl,h2⟩
   ·exact .inl h2
   ·exact .inr ⟨rfl,Gj5 h x y z h1 h2⟩
theorem lex_tri {α:Type} {lt:α→α→Prop} (h:TO lt):∀x y:List α,lex lt x y∨x=y∨lex lt y x
 |[],[]=> .inr (.inl rfl)
 |[],_::_=> .inl (by simp [lex])
 |_::_,[]=> .inr (.inr (by simp [lex]))
 |a::x,b::y=>by
  simp only [lex]
  rcases h.tri a b with h1|rfl|h1
  ·exact .inl (.inl h1)
  ·rcases lex_tri h x y with h2|rfl|h2
   ·exact .inl (.inr ⟨rfl,h2⟩)
   ·exact .inr (.inl rfl)
   ·exact .inr (.inr (.inr ⟨rfl,h2⟩))
  ·exact .inr (.inr (.inl h1))
theorem TO.lex {α:Type} {lt:α→α→Prop} (h:TO lt):TO (G.lex lt):=⟨Cz4 h,Gj5 h,lex_tri h⟩
theorem Kf4:TO (fun a b:UInt8=>a<b):=⟨fun a=>UInt8.lt_irrefl a,fun a b c h1 h2=>UInt8.lt_trans h1 h2,fun a b=>by
 rcases UInt8.lt_or_le a b with h|h
 ·exact .inl h
 ·rcases UInt8.lt_or_le b a with h2|h2
  ·exact .inr (.inr h2)
  ·exact .inr (.inl (UInt8.le_antisymm h2 h))⟩
abbrev ltB:List UInt8→List UInt8→Prop:=lex fun a b:UInt8=>a<b
theorem Em9:TO ltB:=Kf4.lex
theorem T9:∀a b:List UInt8,Op.bytesLess a b=true↔ltB a b
 |[],[]=>by simp [Op.bytesLess,lex]
 |[],_::_=>by simp [Op.bytesLess,lex]
 |_::_,[]=>by simp [Op.bytesLess,lex]
 |a::x,b::y=>by
  have ih:=T9 x y
  simp only [Op.bytesLess,Am,decide_eq_true_eq,Av,beq_iff_eq,lex]
  rw [ih]
theorem Rl (a b:List UInt8):cmpS a b<0↔ltB a b:=by
 rw [←T9]
 unfold cmpS
 cases h:Op.bytesLess a b
 ·simp only [Ab,if_false,iff_false]
  split<;>omega
 ·simp
abbrev ltL:List (List UInt8)→List (List UInt8)→Prop:=lex ltB
theorem to_L:TO ltL:=Em9.lex
def Bx8 (a b:List (List UInt8)):Int:=match Ud a b with
 |some c=>c
 |none=>if a.length<b.length then -1 else if b.length<a.length then 1 else 0
theorem zj:∀a b:List (List UInt8),Bx8 a b<0↔ltL a b
 |[],[]=>by simp [Bx8,Ud,lex]
 |[],_::_=>by simp [Bx8,Ud,lex]
 |_::_,[]=>by simp [Bx8,Ud,lex]
 |x::xs,y::ys=>by
  have ih:=zj xs ys
  simp only [Bx8,Ud,lex] at ih ⊢
  by_cases h:x=y
  ·subst h
   rw [if_pos rfl]
   simp only [A0,Nat.add_lt_add_iff_right,true_and]
   rw [ih]
   constructor
   ·exact fun h=> .inr h
   ·rintro (h|h)
    ·exact absurd h (Em9.irr x)
    ·exact h
  ·rw [if_neg h]
   simp only
   rw [Rl]
   simp [h]
theorem od (a b:List (List UInt8)):Bx7 a b=Bx8 a.reverse b.reverse:=by
 unfold Bx7 Bx8
 cases Ud a.reverse b.reverse<;>simp
theorem Cm2 (a b:List (List UInt8)):Bx7 a b<0↔ltL a.reverse b.reverse:=by
 rw [←zj,od]
def ltN (a b:List UInt8):Prop:=if vld a=true then (if vld b=true then ltL (lbl a).reverse (lbl b).reverse else True) else (if vld b=true then False else ltB a b)
theorem Et (a b:List UInt8):I3 a b<0↔ltN a b:=by
 unfold ltN
 rcases Ak (vld a) with ha|ha
 ·rcases Ak (vld b) with hb|hb
  ·rw [Y7 ha hb,Cm2,if_pos ha,if_pos hb]
  ·unfold I3;simp [ha,hb]
 ·rcases Ak (vld b) with hb|hb
  ·unfold I3;simp [ha,hb]
  ·have e:I3 a b=cmpS a b:=by unfold I3;simp [ha,hb]
   rw [e,Rl];simp [ha,hb]
theorem to_N:TO ltN:=by
 refine ⟨fun a h=> ?_,fun a b c h1 h2=> ?_,fun a b=> ?_⟩
 ·unfold ltN at h
  split at h
  ·exact to_L.irr _ h
  ·exact Em9.irr _ h
 ·unfold ltN at*
  rcases Ak (vld a) with ha|ha<;>rcases Ak (vld b) with hb|hb<;>rcases Ak (vld c) with hc|hc<;>
   simp only [ha,hb,hc,if_true,Ab,if_false] at h1 h2 ⊢
  ·exact to_L.tr _ _ _ h1 h2
  ·exact Em9.tr _ _ _ h1 h2
 ·unfold ltN
  rcases Ak (vld a) with ha|ha<;>rcases Ak (vld b) with hb|hb<;>simp only [ha,hb,if_true,Ab,if_false]
  ·rcases to_L.tri (lbl a).reverse (lbl b).reverse with h|h|h
   ·exact .inl h
   ·exact .inr (.inl (Tv ha hb (List.reverse_inj.1 h)))
   ·exact .inr (.inr h)
  ·simp
  ·simp
  ·exact Em9.tri a b
theorem H1 {a b:List UInt8}:I3 a b=0↔a=b:=by
 constructor
 ·intro h
  rcases Ak (vld a) with ha|ha
  ·rcases Ak (vld b) with hb|hb
   ·rw [Y7 ha hb] at h
    have key:∀x y:List (List UInt8),Bx8 x y=0→x=y:=by
     intro x
     induction x with
     |nil=>intro y hy;cases y with
      |nil=>rfl
      |cons=>simp [Bx8,Ud] at hy
     |cons x xs ih=>intro y hy;cases y with
      |nil=>simp [Bx8,Ud] at hy
      |cons y ys=>
       simp only [Bx8,Ud] at hy ih
       by_cases e:x=y
       ·subst e
        rw [if_pos rfl] at hy
        simp only [A0,Nat.add_lt_add_iff_right] at hy
        rw [ih ys hy]
       ·rw [if_neg e] at hy
        exact absurd (I2.1 hy) e
    rw [od] at h
    exact Tv ha hb (List.reverse_inj.1 (key _ _ h))
   ·unfold I3 at h;simp [ha,hb] at h
  ·rcases Ak (vld b) with hb|hb
   ·unfold I3 at h;simp [ha,hb] at h
   ·have e:I3 a b=cmpS a b:=by unfold I3;simp [ha,hb]
    rw [e] at h;exact I2.1 h
 ·rintro rfl
  have h1:=Et a a
  have h2:¬I3 a a<0:=fun h=>to_N.irr a (h1.1 h)
  have key:∀x:List (List UInt8),Bx8 x x=0:=by
   intro x
   induction x with
   |nil=>rfl
   |cons x xs ih=>
    simp only [Bx8,Ud] at ih ⊢
    simp only [if_true,A0,Nat.add_lt_add_iff_right]
    exact ih
  rcases Ak (vld a) with ha|ha
  ·rw [Y7 ha ha]
   rw [od];exact key _
  ·have e:I3 a a=cmpS a a:=by unfold I3;simp [ha]
   rw [e];exact I2.2 rfl
end Go.X.G
/- Data of records: what the reference's functions give. -/
namespace Go.X.G
open Go Go.X
def Kx5 (t:Int):List UInt8:=
 if t=1 then [65] else if t=2 then [78,83] else if t=5 then [67,78,65,77,69] else if t=6 then [83,79,65] else if t=12 then [80,84,82]
 else if t=15 then [77,88] else if t=16 then [84,88,84] else if t=28 then [65,65,65,65] else if t=33 then [83,82,86] else if t=39 then [68,78,65,77,69]
 else if t=43 then [68,83] else if t=46 then [82,82,83,73,71] else if t=47 then [78,83,69,67] else if t=48 then [68,78,83,75,69,89] else []
theorem t15 (t:Int):t=1∨t=2∨t=5∨t=6∨t=12∨t=15∨t=16∨t=28∨t=33∨t=39∨t=43∨t=46∨t=47∨t=48∨(t≠1∧t≠2∧t≠5∧t≠6∧t≠12∧t≠15∧t≠16∧t≠28∧t≠33∧t≠39∧t≠43∧t≠46∧t≠47∧t≠48):=by omega
theorem q9 (t:Int):S ew 1 [.i .i64 t]=some [.s (Kx5 t)]:=by
 refine Jw6 (N:=1) rfl ?_
 rcases t15 t with rfl|rfl|rfl|rfl|rfl|rfl|rfl|rfl|rfl|rfl|rfl|rfl|rfl|rfl|⟨h0,h1,h2,h3,h4,h5,h6,h7,h8,h9,h10,h11,h12,h13⟩
 all_goals simp (disch:=omega) only [In2,xe,EVP,↓reduceIte,EV,Nat.reduceAdd,Nat.reduceEqDiff,Int.reduceToNat,reduceCtorEq]
 all_goals first|rfl|(unfold Kx5;simp only [if_neg, *];rfl)
def knw (t:Int):Bool:=decide (t=1)||decide (t=2)||decide (t=5)||decide (t=6)||decide (t=12)||decide (t=15)||decide (t=16)||decide (t=28)||decide (t=33)||decide (t=39)||decide (t=43)||decide (t=46)||decide (t=47)||decide (t=48)
theorem Ff3 (t:Int):decide (Kx5 t≠[])=knw t:=by
 unfold Kx5 knw
 rcases t15 t with rfl|rfl|rfl|rfl|rfl|rfl|rfl|rfl|rfl|rfl|rfl|rfl|rfl|rfl|⟨h0,h1,h2,h3,h4,h5,h6,h7,h8,h9,h10,h11,h12,h13⟩
 all_goals simp [*]
theorem Cw (t:Int):S Yw 1 [.i .i64 t]=some [.b (knw t)]:=by
 refine Kh0 (N:=1) rfl ?_
 simp (disch:=omega) only [Ky9,q9,Ff3,xe,EVP,↓reduceIte,EV,Nat.reduceAdd,Nat.reduceEqDiff,Int.reduceToNat,reduceCtorEq]
theorem jv (t:Int):S fg 1 [.i .i64 t]=some [.b (decide (t=6)||decide (t=5)||decide (t=39))]:=by
 refine Jz1 (N:=1) rfl ?_
 simp (disch:=omega) only [Ip1,xe,EVP,↓reduceIte,EV,Nat.reduceAdd,Nat.reduceEqDiff,Int.reduceToNat,reduceCtorEq]
def Dl (d:Dat):Bool:=d.v6||(decide (d.hi=0) && decide (d.lo<4294967296))
theorem jk (d:Dat):S V4 1 [I5 d]=some [.b (Dl d)]:=by
 refine Jw4 (N:=1) rfl ?_
 unfold Dl
 cases h:d.v6<;>by_cases h2:d.hi=0<;>simp (disch:=omega) [In0,h,h2,xe,EVP,↓reduceIte,EV,Nat.reduceAdd,Nat.reduceEqDiff,Int.reduceToNat,reduceCtorEq]
def inB (n most:Int):Bool:=decide (0≤n) && decide (n≤most)
theorem Bq4 (n m:Int):S Gh 2 [.i .i64 n,.i .i64 m]=some [.b (inB n m)]:=by
 refine Jw2 (N:=1) rfl ?_
 simp (disch:=omega) only [Im9,inB,xe,EVP,↓reduceIte,EV,Nat.reduceAdd,Nat.reduceEqDiff,Int.reduceToNat,reduceCtorEq]
theorem jj (n:Int):S Bj1 1 [.i .i64 n]=some [.b (inB n 4294967295)]:=by
 refine Km8 (N:=1) rfl ?_
 simp (disch:=omega) only [Kb2,inB,xe,EVP,↓reduceIte,EV,Nat.reduceAdd,Nat.reduceEqDiff,Int.reduceToNat,reduceCtorEq]
 congr 5
 simp;omega
def Gj (s:List UInt8):Bool:=decide (1≤s.length) && decide (s.length≤255)
theorem Xd (s:List UInt8):S S3 1 [.s s]=some [.b (Gj s)]:=by
 refine Jw1 (N:=1) rfl ?_
 simp (disch:=omega) only [Im8,Gj,xe,EVP,↓reduceIte,EV,Nat.reduceAdd,Nat.reduceEqDiff,Int.reduceToNat,reduceCtorEq]
 congr 5<;>simp<;>omega
theorem Bf6 {n:List UInt8} (h:vld n=true):0<n.length:=by
 unfold vld nm at h
 split at h
 ·rename_i e;simp [e]
 ·split at h
  ·omega
  ·cases h
def Ft (n:List UInt8):Bool:=vld n && decide (n[0]? ≠some 42)
theorem Hg (n:List UInt8) (hn:n.length≤9223372036854775807):S M0 1 [.s n]=some [.b (Ft n)]:=by
 refine Jw3 (N:=1) rfl ?_
 unfold Ft
 cases h:vld n
 ·simp (disch:=omega) only [Fr0,Fg,h,xe,EVP,↓reduceIte,EV,Nat.reduceAdd,Nat.reduceEqDiff,Int.reduceToNat,reduceCtorEq]
  rfl
 ·have h0:=Ax (Bf6 h)
  have h1:=Hl7 (n[0]'(Bf6 h)) 42 (by omega)
  simp (disch:=omega) only [Fr0,Fg,h,h0,xe,EVP,↓reduceIte,EV,Nat.reduceAdd,Nat.reduceEqDiff,Int.reduceToNat,reduceCtorEq]
  simp
  exact h1
def bit (set:Int) (t:Nat):Int:=set / 2 ^ t % 2
theorem Kw5 (x:Int):IntKind.u64.wrap ((BitVec.ofInt IntKind.u64.bits x &&& BitVec.ofInt IntKind.u64.bits 1).toNat:Int)=x % 2:=by
 have h2:(BitVec.ofInt 64 x &&& BitVec.ofInt 64 1).toNat=(BitVec.ofInt 64 x).toNat % 2:=by
  rw [BitVec.toNat_and]
  show (BitVec.ofInt 64 x).toNat &&& 1=_
  exact Nat.and_one_is_mod _
 show IntKind.u64.wrap (((BitVec.ofInt 64 x &&& BitVec.ofInt 64 1).toNat:Nat):Int)=_
 rw [h2,BitVec.toNat_ofInt]
 rw [Kd0]<;>omega
end Go.X.G
/- Data of records: bytes. -/
namespace Go.X.G
open Go Go.X
def Ah7 (set:Int) (i:Nat):Nat→Bool
 |0=>true
 |k+1=>(!decide (bit set i=1)||knw (i:Int)) && Ah7 set (i+1) k
theorem Kw7 (set:Int) (N:Nat) (hN:64<N):
  Cd1.ev S N [.i .u64 set]=some (if Ah7 set 0 64=true then .yld 0 [] else .ret [.b false]):=by
 refine Er 64 (fun i=>[.i .i64 (i:Int)]) (fun i=>if Ah7 set i (64 - i)=true then .yld 0 [] else .ret [.b false]) rfl hN (fun i hi=> ?_) ?_
 ·obtain ⟨k,hk⟩:∃k,64 - i=k+1:=⟨63 - i,by omega⟩
  have hk':64 - (i+1)=k:=by omega
  have hb:IntKind.u64.bits=64:=rfl
  have hi':i<IntKind.u64.bits:=by rw [hb];exact hi
  have h0:X.bin .shr (.i .u64 set) (.i .u64 (i:Int))=some (.i .u64 (set / 2 ^ i)):=Am2 _ _ _ _ hi'
  have h1:set / 2 ^ i % 2=bit set i:=rfl
  rw [hk,hk']
  simp only [Ah7]
  by_cases h2:bit set i=1<;>rcases Ak (knw (i:Int)) with h3|h3<;>simp (disch:=omega) only [Bd6,Cw,Uk,Kw5,h0,h1,h2,h3,xe,EVP,↓reduceIte,EV,Nat.reduceAdd,Nat.reduceEqDiff,Int.reduceToNat,reduceCtorEq]
  all_goals simp [Out.goes]
 ·simp (disch:=omega) [Bd6,xe,EVP,↓reduceIte,EV,Nat.reduceAdd,Nat.reduceEqDiff,Int.reduceToNat,reduceCtorEq,Out.goes,Ah7]
theorem Kw6 (set:Int):S d9 1 [.i .u64 set]=some [.b (Ah7 set 0 64)]:=by
 refine Jw0 (N:=65) rfl ?_
 simp (disch:=omega) only [Bd6,Kw7,xe,EVP,↓reduceIte,EV,Nat.reduceAdd,Nat.reduceEqDiff,Int.reduceToNat,reduceCtorEq]
 cases Ah7 set 0 64<;>rfl
def be (v:Int):Nat→List UInt8
 |0=>[]
 |n+1=>UInt8.ofNat (v / 256 ^ n % 256).toNat::be v n
theorem Df (v:Int):∀n,(be v n).length=n
 |0=>rfl
 |n+1=>by simp [be,Df v n]
theorem Sr (z:Int) (h1:0≤z) (h2:z<256):((UInt8.ofNat z.toNat).toNat:Int)=z:=by
 simp;omega
theorem oz (v:Int) (j:Nat):v / 256 ^ j / 256=v / 256 ^ (j+1):=by
 rw [Int.pow_succ,Int.ediv_ediv_of_nonneg (Int.le_of_lt (Int.pow_pos (by decide)))]
theorem ib (v:Int) (j:Nat) (h:0≤v):0≤v / 256 ^ j:=Int.ediv_nonneg h (Int.le_of_lt (Int.pow_pos (by decide)))
theorem ic (v:Int) (j:Nat) (h:0≤v):v / 256 ^ j≤v:=Int.ediv_le_self _ h
theorem Cq5 (v:Int) (n i:Nat) (p q:PV) (N:Nat) (hN:i<N) (hi:i≤1000) (h0:0≤v) (h1:v≤18446744073709551615):
  Cb3.ev S N [.i .u64 v,p,q,.i .i64 (i:Int)]=some (.yld 2 [.i .u64 (v / 256 ^ i)]):=by
 refine Er i (fun j=>[.i .u64 (v / 256 ^ j),.i .i64 (j:Int)]) (fun j=> .yld 2 [.i .u64 (v / 256 ^ i)]) (by simp [Yn,nb,Lb7,Lc1]) hN (fun j hj=> ?_) ?_
 ·left
  have h2:=ib v j h0
  have h3:=ic v j h0
  have h4:=oz v j
  simp (disch:=omega) only [Z6,h4,xe,EVP,↓reduceIte,EV,Nat.reduceAdd,Nat.reduceEqDiff,Int.reduceToNat,reduceCtorEq]
  simp
 ·simp (disch:=omega) only [Z6,xe,EVP,↓reduceIte,EV,Nat.reduceAdd,Nat.reduceEqDiff,Int.reduceToNat,reduceCtorEq]
  simp [Out.goes]
theorem Cq6 (v:Int) (n:Nat) (N:Nat) (hN:n+1<N) (hn:n≤1000) (h0:0≤v) (h1:v≤18446744073709551615):
  mr.ev S N [.i .u64 v,.i .i64 (n:Int)]=some (.yld 0 [.l 1 (Bp (be v n))]):=by
 have key:=It (fn:=S) (N:=N) (η:=[.i .u64 v,.i .i64 (n:Int)]) (id:=1) (init:=[(.c (.l 1 [])),(.bin .sub (.v 1) (.c (.i .i64 (1))))]) (body:=qd) (α:=Nat×List UInt8) (fun a=>[.l 1 (Bp a.2),.i .i64 ((a.1:Int) - 1)]) (fun a=> .yld 0 [.l 1 (Bp (a.2++be v a.1))]) (fun a=>a.1+a.2.length=n) (fun a=>a.1) (n,[]) (by simp (disch:=omega) only [xe,EVP,↓reduceIte,EV,Nat.reduceAdd,Nat.reduceEqDiff,Int.reduceToNat,reduceCtorEq];rfl) rfl (by simp only;omega) ?_
 ·simpa [mr] using key
 ·rintro ⟨m,acc⟩ hm
  simp only at hm ⊢
  cases m with
  |zero=>
   right
   simp (disch:=omega) only [Z6,xe,EVP,↓reduceIte,EV,Nat.reduceAdd,Nat.reduceEqDiff,Int.reduceToNat,reduceCtorEq]
   simp [be,Out.goes]
  |succ m=>
   left
   have h2:=ib v m h0
   have h3:=ic v m h0
   have e:((m+1:Nat):Int) - 1=(m:Int):=by omega
   have e2:=Sr (v / 256 ^ m % 256) (by omega) (by omega)
   have e3:=Lm acc
   refine ⟨(m,acc++[UInt8.ofNat (v / 256 ^ m % 256).toNat]),?_,by simp;omega,by simp,by simp [be]⟩
   rw [e]
   have hin:=Cq5 v n m (.i .i64 (n:Int)) (.l 1 (Bp acc)) N (by omega) (by omega) h0 h1
   simp (disch:=omega) only [Z6,hin,xe,EVP,↓reduceIte,EV,Nat.reduceAdd,Nat.reduceEqDiff,Int.reduceToNat,reduceCtorEq]
   rw [←P7,e2]
theorem Ss (v:Int) (n:Nat) (hn:n≤1000) (h0:0≤v) (h1:v≤18446744073709551615):S S1 2 [.i .u64 v,.i .i64 (n:Int)]=some [.s (be v n)]:=by
 refine Jk0 (N:=n+2) rfl ?_
 simp (disch:=omega) only [Z6,Cq6,xe,EVP,↓reduceIte,EV,Nat.reduceAdd,Nat.reduceEqDiff,Int.reduceToNat,reduceCtorEq]
theorem El4 (v:Int) (n i:Nat) (p q:PV) (N:Nat) (hN:i<N) (hi:i≤1000) (h0:0≤v) (h1:v≤9223372036854775807):
  Cb5.ev S N [.i .i64 v,p,q,.i .i64 (i:Int)]=some (.yld 2 [.i .i64 (v / 256 ^ i)]):=by
 refine Er i (fun j=>[.i .i64 (v / 256 ^ j),.i .i64 (j:Int)]) (fun j=> .yld 2 [.i .i64 (v / 256 ^ i)]) (by simp [Yn,nb,Lb7,Lc1]) hN (fun j hj=> ?_) ?_
 ·left
  have h2:=ib v j h0
  have h3:=ic v j h0
  have h4:=oz v j
  simp (disch:=omega) only [Z7,h4,xe,EVP,↓reduceIte,EV,Nat.reduceAdd,Nat.reduceEqDiff,Int.reduceToNat,reduceCtorEq]
  simp
 ·simp (disch:=omega) only [Z7,xe,EVP,↓reduceIte,EV,Nat.reduceAdd,Nat.reduceEqDiff,Int.reduceToNat,reduceCtorEq]
  simp [Out.goes]
theorem El5 (v:Int) (n:Nat) (N:Nat) (hN:n+1<N) (hn:n≤1000) (h0:0≤v) (h1:v≤9223372036854775807):
  ms.ev S N [.i .i64 v,.i .i64 (n:Int)]=some (.yld 0 [.l 1 (Bp (be v n))]):=by
 have key:=It (fn:=S) (N:=N) (η:=[.i .i64 v,.i .i64 (n:Int)]) (id:=1) (init:=[(.c (.l 1 [])),(.bin .sub (.v 1) (.c (.i .i64 (1))))]) (body:=qf) (α:=Nat×List UInt8) (fun a=>[.l 1 (Bp a.2),.i .i64 ((a.1:Int) - 1)]) (fun a=> .yld 0 [.l 1 (Bp (a.2++be v a.1))]) (fun a=>a.1+a.2.length=n) (fun a=>a.1) (n,[]) (by simp (disch:=omega) only [xe,EVP,↓reduceIte,EV,Nat.reduceAdd,Nat.reduceEqDiff,Int.reduceToNat,reduceCtorEq];rfl) rfl (by simp only;omega) ?_
 ·simpa [ms] using key
 ·rintro ⟨m,acc⟩ hm
  simp only at hm ⊢
  cases m with
  |zero=>
   right
   simp (disch:=omega) only [Z7,xe,EVP,↓reduceIte,EV,Nat.reduceAdd,Nat.reduceEqDiff,Int.reduceToNat,reduceCtorEq]
   simp [be,Out.goes]
  |succ m=>
   left
   have h2:=ib v m h0
   have h3:=ic v m h0
   have e:((m+1:Nat):Int) - 1=(m:Int):=by omega
   have e2:=Sr (v / 256 ^ m % 256) (by omega) (by omega)
   have e3:=Lm acc
   refine ⟨(m,acc++[UInt8.ofNat (v / 256 ^ m % 256).toNat]),?_,by simp;omega,by simp,by simp [be]⟩
   rw [e]
   have hin:=El4 v n m (.i .i64 (n:Int)) (.l 1 (Bp acc)) N (by omega) (by omega) h0 h1
   simp (disch:=omega) only [Z7,hin,xe,EVP,↓reduceIte,EV,Nat.reduceAdd,Nat.reduceEqDiff,Int.reduceToNat,reduceCtorEq]
   rw [←P7,e2]
theorem Lt (v:Int) (n:Nat) (hn:n≤1000) (h0:0≤v) (h1:v≤9223372036854775807):S Ed 2 [.i .i64 v,.i .i64 (n:Int)]=some [.s (be v n)]:=by
 refine Jk8 (N:=n+2) rfl ?_
 simp (disch:=omega) only [Z7,El5,xe,EVP,↓reduceIte,EV,Nat.reduceAdd,Nat.reduceEqDiff,Int.reduceToNat,reduceCtorEq]
end Go.X.G
/- Data of records: the wire form. -/
namespace Go.X.G
open Go Go.X
theorem Ty {s:List UInt8} (h:Js s=true):s.length≤63:=by
 unfold Js at h
 simp at h
 rcases h with h|h
 ·simp [h]
 ·omega
theorem Xf:∀(r:List UInt8) (f:Bool) (cur:List UInt8) (l:List (List UInt8)),spl f cur r=some l→∀x∈l,Js x=true
 |[],f,cur,l,h=>by simp [spl] at h;subst h;simp
 |c::r,f,cur,l,h=>by
  simp only [spl] at h
  split at h
  ·split at h
   ·rename_i h2
    obtain ⟨m,hm,rfl⟩:=Aw.1 h
    intro x hx
    simp at hx
    rcases hx with rfl|hx
    ·exact h2.1
    ·exact Xf r _ _ _ hm x hx
   ·cases h
  ·exact Xf r _ _ _ h
theorem Oz (n:List UInt8):∀x∈lbl n,Js x=true:=by
 unfold lbl nm
 split
 ·simp
 ·split
  ·cases h:spl true [] n with
   |none=>simp
   |some l=>simpa using Xf _ _ _ _ h
  ·simp
def wireL (l:List (List UInt8)):List UInt8:=l.flatMap fun x=>be (x.length:Int) 1++x
def Iv (n:List UInt8):List UInt8:=wireL (lbl n)++be 0 1
theorem Np:∀(l:List (List UInt8)),(∀x∈l,Js x=true)→(wireL l).length≤64*l.length
 |[],_=>by simp [wireL]
 |x::l,h=>by
  have h1:=Ty (h x (by simp))
  have h2:=Np l (fun y hy=>h y (by simp [hy]))
  simp only [wireL,G2,Az,Df,A0] at h2 ⊢
  omega
theorem Nn (n:List UInt8):(Iv n).length≤20000:=by
 have h1:=Np (lbl n) (Oz n)
 have h2:=G7 n
 simp only [Iv,Az,Df]
 omega
theorem q8 (n:List UInt8) (N:Nat) (hN:254<N):
  mt.ev S N [.s n,Bw (lbl n)]=some (.yld 0 [.s (wireL (lbl n))]):=by
 have hl:=G7 n
 have key:=Gk (fn:=S) (N:=N) (η:=[.s n,Bw (lbl n)]) (id:=1) (init:=[(.c (.s [])),(.c (.i .i64 (0)))]) (body:=qg) (lbl n) (fun i (g:List UInt8)=>[.s g,.i .i64 (i:Int)]) (fun i g r=> .yld 0 [.s (g++wireL r)]) (fun i g=>g.length≤64*i) [] rfl (Ac _) (by omega) (fun i g c r hd hi hc hI=> ?_) (fun g hI=> ?_)
 ·simpa [mt] using key
 ·left
  have h1:=Ty (Oz n c (Ar hc))
  have h2:=Lt (c.length:Int) 1 (by omega) (by omega) (by omega)
  have h3:=Df (c.length:Int) 1
  have h4:(be (c.length:Int) 1++c).length=1+c.length:=by rw [Az,h3]
  refine ⟨g++(be (c.length:Int) 1++c),?_,?_,?_⟩
  ·simp only [Int.natCast_one] at h2
   simp (disch:=omega) only [Bd2,hc,h2,xe,EVP,↓reduceIte,EV,Nat.reduceAdd,Nat.reduceEqDiff,Int.reduceToNat,reduceCtorEq]
  ·rw [Az,h4];omega
  ·simp [wireL]
 ·simp (disch:=omega) only [Bd2,xe,EVP,↓reduceIte,EV,Nat.reduceAdd,Nat.reduceEqDiff,Int.reduceToNat,reduceCtorEq]
  simp [Out.goes,wireL]
theorem Ev (n:List UInt8) (hn:n.length≤9223372036854775807):S Lv 1 [.s n]=some [.s (Iv n)]:=by
 refine Jk9 (N:=255) rfl ?_
 have h1:=Np (lbl n) (Oz n)
 have h2:=G7 n
 have h3:=Df 0 1
 have h4:=Lt 0 1 (by omega) (by omega) (by omega)
 simp only [Int.natCast_one] at h4
 simp (disch:=omega) only [Bd2,Qj,q8,h4,xe,EVP,↓reduceIte,EV,Nat.reduceAdd,Nat.reduceEqDiff,Int.reduceToNat,reduceCtorEq]
 rfl
def bmV (set:Int) (i:Nat):Nat→Int
 |0=>0
 |j+1=>bmV set i j*2+bit set (i*8+j)
theorem Ed2 (set:Int) (t:Nat):0≤bit set t∧bit set t≤1:=by unfold bit;omega
theorem Wm (set:Int) (i:Nat):∀j,0≤bmV set i j∧bmV set i j<2 ^ j
 |0=>by simp [bmV]
 |j+1=>by
  have h1:=Wm set i j
  have h2:=Ed2 set (i*8+j)
  simp only [bmV,Int.pow_succ]
  omega
def bmB (set:Int) (i:Nat):UInt8:=UInt8.ofNat (bmV set i 8).toNat
def bmL (set:Int):Nat→Nat
 |0=>0
 |i+1=>if bmV set i 8≠0 then i+1 else bmL set i
theorem Ec5 (set:Int):∀i,bmL set i≤i
 |0=>Ac _
 |i+1=>by have:=Ec5 set i;simp only [bmL];split<;>omega
def bmap (set:Int):List UInt8:=((List.range 8).map (bmB set)).take (bmL set 8)
theorem Ec9 (set:Int) (p q:PV) (i:Nat) (hi:i<8) (N:Nat) (hN:8<N):
  Cb4.ev S N [.i .u64 set,p,q,.i .i64 (i:Int)]=some (.yld 2 [.i .i64 (bmV set i 8)]):=by
 refine Er 8 (fun j=>[.i .i64 (bmV set i j),.i .i64 (j:Int)]) (fun j=> .yld 2 [.i .i64 (bmV set i 8)]) rfl hN (fun j hj=> ?_) ?_
 ·left
  have hb:IntKind.u64.bits=64:=rfl
  have hi':i*8+j<IntKind.u64.bits:=by rw [hb];omega
  have e:((i:Int)*8+(j:Int))=((i*8+j:Nat):Int):=by simp
  have h0:X.bin .shr (.i .u64 set) (.i .u64 ((i*8+j:Nat):Int))=some (.i .u64 (set / 2 ^ (i*8+j))):=Am2 _ _ _ _ hi'
  have h1:set / 2 ^ (i*8+j) % 2=bit set (i*8+j):=rfl
  have h2:=Wm set i j
  have h3:(2:Int) ^ j≤128:=(by decide:∀j,j<8→(2:Int) ^ j≤128) j hj
  have h4:=Ed2 set (i*8+j)
  simp (disch:=omega) only [U6,Uk,Kw5,h0,h1,←e,xe,EVP,↓reduceIte,EV,Nat.reduceAdd,Nat.reduceEqDiff,Int.reduceToNat,reduceCtorEq]
  refine ⟨?_,trivial⟩
  rw [e,h0]
  simp (disch:=omega) only [Uk,Kw5,h0,h1,xe,EVP,↓reduceIte,EV,Nat.reduceAdd,Nat.reduceEqDiff,Int.reduceToNat,reduceCtorEq]
  rfl
 ·simp (disch:=omega) only [U6,xe,EVP,↓reduceIte,EV,Nat.reduceAdd,Nat.reduceEqDiff,Int.reduceToNat,reduceCtorEq]
  simp [Out.goes]
theorem Ed0 (set:Int) (N:Nat) (hN:8<N):
  Cc3.ev S N [.i .u64 set]=some (.yld 0 [.l 1 (Bp ((List.range 8).map (bmB set))),.i .i64 (bmL set 8:Int)]):=by
 refine Er 8 (fun i=>[.l 1 (Bp ((List.range i).map (bmB set))),.i .i64 (bmL set i:Int),.i .i64 (i:Int)]) (fun _=> .yld 0 [.l 1 (Bp ((List.range 8).map (bmB set))),.i .i64 (bmL set 8:Int)]) rfl hN (fun i hi=> ?_) ?_
 ·left
  have h1:=Ec9 set (.l 1 (Bp ((List.range i).map (bmB set)))) (.i .i64 (bmL set i:Int)) i hi N hN
  have h2:=Wm set i 8
  have h3:(2:Int) ^ 8=256:=rfl
  have h4:=Sr (bmV set i 8) (by omega) (by omega)
  have h5:(Bp ((List.range i).map (bmB set))).length=i:=by simp [Lm]
  have h6:Bp ((List.range (i+1)).map (bmB set))=Bp ((List.range i).map (bmB set))++[.i .u8 (bmV set i 8)]:=by
   rw [List.range_succ,List.map_append,←h4]
   exact (P7 _ _).symm
  rw [h6]
  by_cases h7:bmV set i 8=0
  ·simp (disch:=omega) only [U6,h1,bmL,h7,xe,EVP,↓reduceIte,EV,Nat.reduceAdd,Nat.reduceEqDiff,Int.reduceToNat,reduceCtorEq]
   simp
  ·simp (disch:=omega) only [U6,h1,bmL,xe,EVP,↓reduceIte,EV,Nat.reduceAdd,Nat.reduceEqDiff,Int.reduceToNat,reduceCtorEq]
   simp [h7]
 ·simp (disch:=omega) only [U6,xe,EVP,↓reduceIte,EV,Nat.reduceAdd,Nat.reduceEqDiff,Int.reduceToNat,reduceCtorEq]
  simp [Out.goes]
theorem Ec8 (set:Int):S dp 1 [.i .u64 set]=some [.s (bmap set)]:=by
 refine Jk7 (N:=9) rfl ?_
 have h1:=Ec5 set 8
 have h2:(Bp ((List.range 8).map (bmB set))).length=8:=by simp [Lm]
 have h3:List.drop 0 (List.take (bmL set 8) (Bp ((List.range 8).map (bmB set))))=Bp (bmap set):=by
  simp only [Ds,bmap,Bp,List.map_take]
 simp (disch:=omega) only [U6,Ed0,h3,xe,EVP,↓reduceIte,EV,Nat.reduceAdd,Nat.reduceEqDiff,Int.reduceToNat,reduceCtorEq]
theorem Zy (set:Int):(bmap set).length≤8:=by simp [bmap];omega
def Nr (d:Dat):List UInt8:=if d.v6 then be d.hi 8++be d.lo 8 else be d.lo 4
theorem Al0 (d:Dat) (h:d.wf):S dr 1 [I5 d]=some (if Dl d=true then [.s (Nr d),.i .i64 0] else [.s [],.i .i64 3]):=by
 refine Jq0 (N:=1) rfl ?_
 have h1:=h.hi
 have h2:=h.lo
 have a1:=Ss d.hi 8 (by omega) h1.1 h1.2
 have a2:=Ss d.lo 8 (by omega) h2.1 h2.2
 have a3:=Ss d.lo 4 (by omega) h2.1 h2.2
 have b1:=Df d.hi 8
 have b2:=Df d.lo 8
 simp only [Int.cast_ofNat_Int] at a1 a2 a3
 unfold Nr
 rcases Ak (Dl d) with h3|h3<;>rcases Ak d.v6 with h4|h4<;>simp (disch:=omega) only [Im0,jk,h3,h4,a1,a2,a3,xe,EVP,↓reduceIte,EV,Nat.reduceAdd,Nat.reduceEqDiff,Int.reduceToNat,reduceCtorEq]
def usd (t:Int) (d:Dat):Dat:=
 if t=1∨t=28 then ⟨d.v6,d.hi,d.lo,[],[],[],0,0,0,0,0,0,0⟩
 else if t=2∨t=5∨t=12∨t=39 then ⟨false,0,0,d.host,[],[],0,0,0,0,0,0,0⟩
 else if t=6 then ⟨false,0,0,d.host,d.mail,[],d.a,d.b,d.c,d.d,d.e,0,0⟩
 else if t=15 then ⟨false,0,0,d.host,[],[],d.a,0,0,0,0,0,0⟩
 else if t=16 then ⟨false,0,0,[],[],d.text,0,0,0,0,0,0,0⟩
 else if t=33 then ⟨false,0,0,d.host,[],[],d.a,d.b,d.c,0,0,0,0⟩
 else if t=43∨t=48 then ⟨false,0,0,[],[],d.text,d.a,d.b,d.c,0,0,0,0⟩
 else if t=46 then ⟨false,0,0,d.host,[],d.text,d.a,d.b,d.c,d.d,d.e,d.f,0⟩
 else ⟨false,0,0,d.host,[],[],0,0,0,0,0,0,d.bits⟩
theorem Gs (t:Int) (d:Dat):S eq 2 [.i .i64 t,d.pv]=some [(usd t d).pv]:=by
 refine Jw5 (N:=1) rfl ?_
 rcases t15 t with rfl|rfl|rfl|rfl|rfl|rfl|rfl|rfl|rfl|rfl|rfl|rfl|rfl|rfl|⟨h0,h1,h2,h3,h4,h5,h6,h7,h8,h9,h10,h11,h12,h13⟩
 all_goals simp (disch:=omega) only [In1,xe,EVP,↓reduceIte,EV,Nat.reduceAdd,Nat.reduceEqDiff,Int.reduceToNat,reduceCtorEq]
 all_goals first|rfl|(unfold usd;simp [*])
end Go.X.G
/- Data of records: which are valid. -/
namespace Go.X.G
open Go Go.X
def Cb (t:Int) (d:Dat):Bool:=
 if t=1 then Dl d && !d.v6
 else if t=28 then d.v6
 else if t=6 then Ft d.host && Ft d.mail && inB d.a 4294967295 && inB d.b 2147483647 && inB d.c 2147483647 && inB d.d 2147483647 && inB d.e 2147483647
 else if t=15 then Ft d.host && inB d.a 65535
 else if t=16 then decide (d.text.length≤255)
 else if t=33 then Ft d.host && inB d.a 65535 && inB d.b 65535 && inB d.c 65535
 else if t=43 then inB d.a 65535 && inB d.b 255 && inB d.c 255 && Gj d.text
 else if t=46 then knw d.a && decide (d.a≠46) && inB d.b 127 && inB d.c 2147483647 && inB d.d 4294967295 && inB d.e 4294967295 && inB d.f 65535 && Ft d.host && Gj d.text
 else if t=47 then vld d.host && decide (d.bits≠0) && Ah7 d.bits 0 64
 else if t=48 then (decide (d.a=256)||decide (d.a=257)) && decide (d.b=3) && inB d.c 255 && Gj d.text
 else Ft d.host
def Dz (t:Int) (d:Dat):Bool:=knw t && decide (usd t d=d) && Cb t d
theorem Ex (t:Int) (d:Dat) (h:d.wf):S At0 2 [.i .i64 t,d.pv]=some [.b (Dz t d)]:=by
 refine Kg9 (N:=1) rfl ?_
 have g1:=h.host
 have g2:=h.mail
 have g3:=h.text
 unfold M8 at g1 g2 g3
 rcases Ak (knw t) with hk|hk
 ·by_cases hu:usd t d=d
  ·rcases t15 t with rfl|rfl|rfl|rfl|rfl|rfl|rfl|rfl|rfl|rfl|rfl|rfl|rfl|rfl|⟨h0,h1,h2,h3,h4,h5,h6,h7,h8,h9,h10,h11,h12,h13⟩
   ·rcases ch2 (Dl d) (d.v6) with e0|⟨e0,e1⟩|⟨e0,e1⟩
    all_goals simp (disch:=omega) only [Ml,Cw,Gs,jk,xe,EVP,↓reduceIte,EV,Nat.reduceAdd,Nat.reduceEqDiff,Int.reduceToNat,reduceCtorEq,hk,hu, *]
    all_goals (unfold Dz Cb;simp [*])
   ·simp (disch:=omega) only [Ml,Cw,Gs,Hg,xe,EVP,↓reduceIte,EV,Nat.reduceAdd,Nat.reduceEqDiff,Int.reduceToNat,reduceCtorEq,hk,hu]
    unfold Dz Cb;simp [*]
   ·simp (disch:=omega) only [Ml,Cw,Gs,Hg,xe,EVP,↓reduceIte,EV,Nat.reduceAdd,Nat.reduceEqDiff,Int.reduceToNat,reduceCtorEq,hk,hu]
    unfold Dz Cb;simp [*]
   ·rcases ch7 (Ft d.host) (Ft d.mail) (inB d.a 4294967295) (inB d.b 2147483647) (inB d.c 2147483647) (inB d.d 2147483647) (inB d.e 2147483647) with e0|⟨e0,e1⟩|⟨e0,e1,e2⟩|⟨e0,e1,e2,e3⟩|⟨e0,e1,e2,e3,e4⟩|⟨e0,e1,e2,e3,e4,e5⟩|⟨e0,e1,e2,e3,e4,e5,e6⟩|⟨e0,e1,e2,e3,e4,e5,e6⟩
    all_goals simp (disch:=omega) only [Ml,Cw,Gs,Hg,jj,Bq4,xe,EVP,↓reduceIte,EV,Nat.reduceAdd,Nat.reduceEqDiff,Int.reduceToNat,reduceCtorEq,hk,hu, *]
    all_goals (unfold Dz Cb;simp [*])
   ·simp (disch:=omega) only [Ml,Cw,Gs,Hg,xe,EVP,↓reduceIte,EV,Nat.reduceAdd,Nat.reduceEqDiff,Int.reduceToNat,reduceCtorEq,hk,hu]
    unfold Dz Cb;simp [*]
   ·rcases ch2 (Ft d.host) (inB d.a 65535) with e0|⟨e0,e1⟩|⟨e0,e1⟩
    all_goals simp (disch:=omega) only [Ml,Cw,Gs,Hg,Bq4,xe,EVP,↓reduceIte,EV,Nat.reduceAdd,Nat.reduceEqDiff,Int.reduceToNat,reduceCtorEq,hk,hu, *]
    all_goals (unfold Dz Cb;simp [*])
   ·simp (disch:=omega) only [Ml,Cw,Gs,Hg,xe,EVP,↓reduceIte,EV,Nat.reduceAdd,Nat.reduceEqDiff,Int.reduceToNat,reduceCtorEq,hk,hu]
    unfold Dz Cb;simp [*];omega
   ·simp (disch:=omega) only [Ml,Cw,Gs,Hg,xe,EVP,↓reduceIte,EV,Nat.reduceAdd,Nat.reduceEqDiff,Int.reduceToNat,reduceCtorEq,hk,hu]
    unfold Dz Cb;simp [*]
   ·rcases ch4 (Ft d.host) (inB d.a 65535) (inB d.b 65535) (inB d.c 65535) with e0|⟨e0,e1⟩|⟨e0,e1,e2⟩|⟨e0,e1,e2,e3⟩|⟨e0,e1,e2,e3⟩
    all_goals simp (disch:=omega) only [Ml,Cw,Gs,Hg,Bq4,xe,EVP,↓reduceIte,EV,Nat.reduceAdd,Nat.reduceEqDiff,Int.reduceToNat,reduceCtorEq,hk,hu, *]
    all_goals (unfold Dz Cb;simp [*])
   ·simp (disch:=omega) only [Ml,Cw,Gs,Hg,xe,EVP,↓reduceIte,EV,Nat.reduceAdd,Nat.reduceEqDiff,Int.reduceToNat,reduceCtorEq,hk,hu]
    unfold Dz Cb;simp [*]
   ·rcases ch4 (inB d.a 65535) (inB d.b 255) (inB d.c 255) (Gj d.text) with e0|⟨e0,e1⟩|⟨e0,e1,e2⟩|⟨e0,e1,e2,e3⟩|⟨e0,e1,e2,e3⟩
    all_goals simp (disch:=omega) only [Ml,Cw,Gs,Bq4,Xd,xe,EVP,↓reduceIte,EV,Nat.reduceAdd,Nat.reduceEqDiff,Int.reduceToNat,reduceCtorEq,hk,hu, *]
    all_goals (unfold Dz Cb;simp [*])
   ·rcases ch9 (knw d.a) (decide (d.a≠46)) (inB d.b 127) (inB d.c 2147483647) (inB d.d 4294967295) (inB d.e 4294967295) (inB d.f 65535) (Ft d.host) (Gj d.text) with e0|⟨e0,e1⟩|⟨e0,e1,e2⟩|⟨e0,e1,e2,e3⟩|⟨e0,e1,e2,e3,e4⟩|⟨e0,e1,e2,e3,e4,e5⟩|⟨e0,e1,e2,e3,e4,e5,e6⟩|⟨e0,e1,e2,e3,e4,e5,e6,e7⟩|⟨e0,e1,e2,e3,e4,e5,e6,e7,e8⟩|⟨e0,e1,e2,e3,e4,e5,e6,e7,e8⟩
    all_goals simp (disch:=omega) only [Ml,Cw,Gs,Hg,Bq4,Xd,xe,EVP,↓reduceIte,EV,Nat.reduceAdd,Nat.reduceEqDiff,Int.reduceToNat,reduceCtorEq,hk,hu, *]
    all_goals (unfold Dz Cb;simp [*])
   ·rcases ch3 (vld d.host) (decide (d.bits≠0)) (Ah7 d.bits 0 64) with e0|⟨e0,e1⟩|⟨e0,e1,e2⟩|⟨e0,e1,e2⟩
    all_goals simp (disch:=omega) only [Ml,Cw,Gs,Fg,Kw6,xe,EVP,↓reduceIte,EV,Nat.reduceAdd,Nat.reduceEqDiff,Int.reduceToNat,reduceCtorEq,hk,hu, *]
    all_goals (unfold Dz Cb;simp [*])
   ·rcases ch4 (decide (d.a=256)||decide (d.a=257)) (decide (d.b=3)) (inB d.c 255) (Gj d.text) with e0|⟨e0,e1⟩|⟨e0,e1,e2⟩|⟨e0,e1,e2,e3⟩|⟨e0,e1,e2,e3⟩
    all_goals simp (disch:=omega) only [Ml,Cw,Gs,Bq4,Xd,xe,EVP,↓reduceIte,EV,Nat.reduceAdd,Nat.reduceEqDiff,Int.reduceToNat,reduceCtorEq,hk,hu, *]
    all_goals (unfold Dz Cb;simp [*])
   ·simp [knw, *] at hk
  ·simp (disch:=omega) only [Ml,Cw,Gs,xe,EVP,↓reduceIte,EV,Nat.reduceAdd,Nat.reduceEqDiff,Int.reduceToNat,reduceCtorEq,hk,hu]
   unfold Dz
   simp [hu]
 ·simp (disch:=omega) only [Ml,Cw,xe,EVP,↓reduceIte,EV,Nat.reduceAdd,Nat.reduceEqDiff,Int.reduceToNat,reduceCtorEq,hk]
  unfold Dz
  simp [hk]
def Iw (t:Int) (d:Dat):List UInt8:=
 if t=1∨t=28 then Nr d
 else if t=6 then Iv d.host++Iv d.mail++be d.a 4++be d.b 4++be d.c 4++be d.d 4++be d.e 4
 else if t=15 then be d.a 2++Iv d.host
 else if t=16 then be (d.text.length:Int) 1++d.text
 else if t=33 then be d.a 2++be d.b 2++be d.c 2++Iv d.host
 else if t=43∨t=48 then be d.a 2++be d.b 1++be d.c 1++d.text
 else if t=46 then be d.a 2++be 253 1++be d.b 1++be d.c 4++be d.d 4++be d.e 4++be d.f 2++Iv d.host++d.text
 else if t=47 then Iv d.host++be 0 1++be ((bmap d.bits).length:Int) 1++bmap d.bits
 else Iv d.host
theorem knw_cases {t:Int} (h:knw t=true):t=1∨t=2∨t=5∨t=6∨t=12∨t=15∨t=16∨t=28∨t=33∨t=39∨t=43∨t=46∨t=47∨t=48:=by
 simp [knw] at h;omega
theorem Uw (v:Int) (h0:0≤v) (h1:v≤9223372036854775807):S Ed 2 [.i .i64 v,.i .i64 1]=some [.s (be v 1)]:=Lt v 1 (by omega) h0 h1
theorem Uv (v:Int) (h0:0≤v) (h1:v≤9223372036854775807):S Ed 2 [.i .i64 v,.i .i64 2]=some [.s (be v 2)]:=Lt v 2 (by omega) h0 h1
theorem El6 (v:Int) (h0:0≤v) (h1:v≤9223372036854775807):S Ed 2 [.i .i64 v,.i .i64 4]=some [.s (be v 4)]:=Lt v 4 (by omega) h0 h1
theorem Rm (t:Int) (d:Dat) (h:d.wf):S Vt 2 [.i .i64 t,d.pv]=some (if Dz t d=true then [.s (Iw t d),.i .i64 0] else if knw t=true then [.s [],.i .i64 5] else [.s [],.i .i64 4]):=by
 refine Jv3 (N:=1) rfl ?_
 have g1:=h.host
 have g2:=h.mail
 have g3:=h.text
 unfold M8 at g1 g2 g3
 have g4:=Nn d.host
 have g5:=Nn d.mail
 have g6:=Zy d.bits
 rcases Ak (knw t) with hk|hk
 ·rcases Ak (Dz t d) with hv|hv
  ·rw [if_pos hv]
   have hv':=hv
   rcases knw_cases hk with rfl|rfl|rfl|rfl|rfl|rfl|rfl|rfl|rfl|rfl|rfl|rfl|rfl|rfl
   ·simp [Dz,Cb] at hv'
    simp (disch:=omega) only [Ik,Cw,Ex _ _ h,Al0 d h,hk,hv,hv'.2.1,xe,EVP,↓reduceIte,EV,Nat.reduceAdd,Nat.reduceEqDiff,Int.reduceToNat,reduceCtorEq]
    rfl
   ·simp (disch:=omega) only [Ik,Cw,Ex _ _ h,Ev,hk,hv,xe,EVP,↓reduceIte,EV,Nat.reduceAdd,Nat.reduceEqDiff,Int.reduceToNat,reduceCtorEq]
    rfl
   ·simp (disch:=omega) only [Ik,Cw,Ex _ _ h,Ev,hk,hv,xe,EVP,↓reduceIte,EV,Nat.reduceAdd,Nat.reduceEqDiff,Int.reduceToNat,reduceCtorEq]
    rfl
   ·simp [Dz,Cb,inB,Gj] at hv'
    simp (disch:=first|omega|(simp only [Az,Df];omega)) only [Ik,Cw,Ex _ _ h,Ev,El6,hk,hv,xe,EVP,↓reduceIte,EV,Nat.reduceAdd,Nat.reduceEqDiff,Int.reduceToNat,reduceCtorEq]
    rfl
   ·simp (disch:=omega) only [Ik,Cw,Ex _ _ h,Ev,hk,hv,xe,EVP,↓reduceIte,EV,Nat.reduceAdd,Nat.reduceEqDiff,Int.reduceToNat,reduceCtorEq]
    rfl
   ·simp [Dz,Cb,inB,Gj] at hv'
    simp (disch:=first|omega|(simp only [Az,Df];omega)) only [Ik,Cw,Ex _ _ h,Ev,Uv,hk,hv,xe,EVP,↓reduceIte,EV,Nat.reduceAdd,Nat.reduceEqDiff,Int.reduceToNat,reduceCtorEq]
    rfl
   ·simp [Dz,Cb,inB,Gj] at hv'
    simp (disch:=first|omega|(simp only [Az,Df];omega)) only [Ik,Cw,Ex _ _ h,Ev,Uw,hk,hv,xe,EVP,↓reduceIte,EV,Nat.reduceAdd,Nat.reduceEqDiff,Int.reduceToNat,reduceCtorEq]
    rfl
   ·simp [Dz,Cb] at hv'
    have ha:Dl d=true:=by simp [Dl,hv'.2]
    simp (disch:=omega) only [Ik,Cw,Ex _ _ h,Al0 d h,hk,hv,ha,xe,EVP,↓reduceIte,EV,Nat.reduceAdd,Nat.reduceEqDiff,Int.reduceToNat,reduceCtorEq]
    rfl
   ·simp [Dz,Cb,inB,Gj] at hv'
    simp (disch:=first|omega|(simp only [Az,Df];omega)) only [Ik,Cw,Ex _ _ h,Ev,Uv,hk,hv,xe,EVP,↓reduceIte,EV,Nat.reduceAdd,Nat.reduceEqDiff,Int.reduceToNat,reduceCtorEq]
    rfl
   ·simp (disch:=omega) only [Ik,Cw,Ex _ _ h,Ev,hk,hv,xe,EVP,↓reduceIte,EV,Nat.reduceAdd,Nat.reduceEqDiff,Int.reduceToNat,reduceCtorEq]
    rfl
   ·simp [Dz,Cb,inB,Gj] at hv'
    simp (disch:=first|omega|(simp only [Az,Df];omega)) only [Ik,Cw,Ex _ _ h,Ev,Uw,Uv,hk,hv,xe,EVP,↓reduceIte,EV,Nat.reduceAdd,Nat.reduceEqDiff,Int.reduceToNat,reduceCtorEq]
    rfl
   ·simp [Dz,Cb,inB,Gj] at hv'
    have k1:0≤d.a:=by have:=knw_cases hv'.2.1.1.1.1.1.1.1.1;omega
    have k2:=h.a.2
    simp (disch:=first|omega|(simp only [Az,Df];omega)) only [Ik,Cw,Ex _ _ h,Ev,Uw,Uv,El6,hk,hv,xe,EVP,↓reduceIte,EV,Nat.reduceAdd,Nat.reduceEqDiff,Int.reduceToNat,reduceCtorEq]
    rfl
   ·simp (disch:=first|omega|(simp only [Az,Df];omega)) only [Ik,Cw,Ex _ _ h,Ev,Ec8,Uw,hk,hv,xe,EVP,↓reduceIte,EV,Nat.reduceAdd,Nat.reduceEqDiff,Int.reduceToNat,reduceCtorEq]
    rfl
   ·simp [Dz,Cb,inB,Gj] at hv'
    simp (disch:=first|omega|(simp only [Az,Df];omega)) only [Ik,Cw,Ex _ _ h,Ev,Uw,Uv,hk,hv,xe,EVP,↓reduceIte,EV,Nat.reduceAdd,Nat.reduceEqDiff,Int.reduceToNat,reduceCtorEq]
    rfl
  ·simp (disch:=omega) only [Ik,Cw,Ex _ _ h,hk,hv,xe,EVP,↓reduceIte,EV,Nat.reduceAdd,Nat.reduceEqDiff,Int.reduceToNat,reduceCtorEq]
 ·have hv:Dz t d=false:=by simp [Dz,hk]
  simp (disch:=omega) only [Ik,Cw,hk,hv,xe,EVP,↓reduceIte,EV,Nat.reduceAdd,Nat.reduceEqDiff,Int.reduceToNat,reduceCtorEq]
def Cm5 (t:Int) (a b:Dat):Int:=
 if Dz t a && Dz t b then cmpS (Iw t a) (Iw t b) else if Dz t a then -1 else if Dz t b then 1 else 0
theorem ry (t:Int) (a b:Dat) (ha:a.wf) (hb:b.wf):S fq 3 [.i .i64 t,a.pv,b.pv]=some [.i .i64 (Cm5 t a b)]:=by
 refine Jx9 (N:=1) rfl ?_
 unfold Cm5 cmpS
 rcases Ak (Dz t a) with h1|h1<;>rcases Ak (Dz t b) with h2|h2
 ·simp (disch:=omega) only [Fr4,Rm _ _ ha,Rm _ _ hb,h1,h2,xe,EVP,↓reduceIte,EV,Nat.reduceAdd,Nat.reduceEqDiff,Int.reduceToNat,reduceCtorEq]
  cases Op.bytesLess (Iw t a) (Iw t b)
  ·by_cases h3:Iw t a=Iw t b<;>simp [h3]
  ·simp
 all_goals rcases Ak (knw t) with h3|h3<;>simp (disch:=omega) [Fr4,Rm _ _ ha,Rm _ _ hb,h1,h2,h3,xe,EVP,↓reduceIte,EV,Nat.reduceAdd,Nat.reduceEqDiff,Int.reduceToNat,reduceCtorEq]
end Go.X.G
/- Lists of records: what the reference's functions give. -/
namespace Go.X.G
open Go Go.X
def Mm (r:Rec):Bool:=vld r.name && knw r.typ && decide (0≤r.ttl) && decide (r.ttl≤2147483647) && Dz r.typ r.data
theorem i9 (r:Rec) (h:r.wf):S Cv9 1 [r.pv]=some [.b (Mm r)]:=by
 refine Kn6 (N:=1) rfl ?_
 have g:=h.name
 unfold M8 at g
 unfold Mm
 by_cases h0:0≤r.ttl<;>by_cases h1:r.ttl≤2147483647
 all_goals rcases ch3 (vld r.name) (knw r.typ) (Dz r.typ r.data) with e0|⟨e0,e1⟩|⟨e0,e1,e2⟩|⟨e0,e1,e2⟩
 all_goals simp (disch:=omega) [Kb7,Fg,Cw,Ex _ _ h.data,xe,EVP,↓reduceIte,EV,Nat.reduceAdd,Nat.reduceEqDiff,Int.reduceToNat,reduceCtorEq, *]
def im (a b:Int):Int:=if a<b then -1 else if b<a then 1 else 0
theorem As7 (a b:Int):S fw 2 [.i .i64 a,.i .i64 b]=some [.i .i64 (im a b)]:=by
 refine Jy0 (N:=1) rfl ?_
 unfold im
 simp (disch:=omega) only [In8,xe,EVP,↓reduceIte,EV,Nat.reduceAdd,Nat.reduceEqDiff,Int.reduceToNat,reduceCtorEq]
 grind
def Ny (a b:Rec):Int:=
 if I3 a.name b.name≠0 then I3 a.name b.name else if im a.typ b.typ≠0 then im a.typ b.typ else Cm5 a.typ a.data b.data
theorem gr (a b:Rec) (ha:a.wf) (hb:b.wf):S At5 2 [a.pv,b.pv]=some [.i .i64 (Ny a b)]:=by
 refine Kl1 (N:=1) rfl ?_
 have g1:=ha.name
 have g2:=hb.name
 unfold M8 at g1 g2
 unfold Ny
 simp (disch:=omega) only [Kz4,rz,As7,ry _ _ _ ha.data hb.data,xe,EVP,↓reduceIte,EV,Nat.reduceAdd,Nat.reduceEqDiff,Int.reduceToNat,reduceCtorEq]
 by_cases h1:I3 a.name b.name=0<;>by_cases h2:im a.typ b.typ=0<;>simp [h1,h2]
def isK (n:List UInt8) (t:Int) (r:Rec):Bool:=decide (r.name=n) && decide (r.typ=t)
def findR (l:List Rec) (n:List UInt8) (t:Int):List Rec:=l.filter (isK n t)
theorem Jh (l:List Rec) (n:List UInt8) (t:Int) (hl:l.length≤1000000):S Yy 3 [Af l,.s n,.i .i64 t]=some [Af (findR l n t)]:=by
 refine Kn7 (N:=l.length+1) rfl ?_
 have key:Gq1.ev S (l.length+1) [Af l,.s n,.i .i64 t]=some (.yld 0 [Af ([]++findR l n t)]):=by
  refine Gk l (fun i (g:List Rec)=>[Af g,.i .i64 (i:Int)]) (fun i g r=> .yld 0 [Af (g++findR r n t)]) (fun i g=>g.length≤i) [] rfl (Cn _) (by omega) (fun i g c r hd hi hc hI=> ?_) (fun g hI=> ?_)
  ·left
   by_cases h:isK n t c=true
   ·refine ⟨g++[c],?_,by simp;omega,by simp [findR,h]⟩
    simp [isK] at h
    simp (disch:=omega) only [Bc7,hc,h.1,h.2,xe,EVP,↓reduceIte,EV,Nat.reduceAdd,Nat.reduceEqDiff,Int.reduceToNat,reduceCtorEq]
   ·refine ⟨g,?_,by omega,by simp [findR,h]⟩
    simp [isK] at h
    by_cases h1:c.name=n
    ·simp (disch:=omega) only [Bc7,hc,h1,h h1,xe,EVP,↓reduceIte,EV,Nat.reduceAdd,Nat.reduceEqDiff,Int.reduceToNat,reduceCtorEq]
    ·simp (disch:=omega) only [Bc7,hc,h1,xe,EVP,↓reduceIte,EV,Nat.reduceAdd,Nat.reduceEqDiff,Int.reduceToNat,reduceCtorEq]
  ·simp (disch:=omega) only [Bc7,xe,EVP,↓reduceIte,EV,Nat.reduceAdd,Nat.reduceEqDiff,Int.reduceToNat,reduceCtorEq]
   simp [findR,Out.goes]
 simp (disch:=omega) only [Bc7,key,xe,EVP,↓reduceIte,EV,Nat.reduceAdd,Nat.reduceEqDiff,Int.reduceToNat,reduceCtorEq]
theorem Fp1 (l:List Rec) (n:List UInt8) (t:Int) (hl:l.length≤1000000):S Cv5 3 [Af l,.s n,.i .i64 t]=some [Af (findR l n t)]:=by
 refine Km7 (N:=l.length+1) rfl ?_
 have key:Gk8.ev S (l.length+1) [Af l,.s n,.i .i64 t]=some (.yld 0 [Af ([]++findR l n t)]):=by
  refine Gk l (fun i (g:List Rec)=>[Af g,.i .i64 (i:Int)]) (fun i g r=> .yld 0 [Af (g++findR r n t)]) (fun i g=>g.length≤i) [] rfl (Cn _) (by omega) (fun i g c r hd hi hc hI=> ?_) (fun g hI=> ?_)
  ·left
   by_cases h:isK n t c=true
   ·refine ⟨g++[c],?_,by simp;omega,by simp [findR,h]⟩
    simp [isK] at h
    simp (disch:=omega) only [Bc5,hc,h.1,h.2,xe,EVP,↓reduceIte,EV,Nat.reduceAdd,Nat.reduceEqDiff,Int.reduceToNat,reduceCtorEq]
   ·refine ⟨g,?_,by omega,by simp [findR,h]⟩
    simp [isK] at h
    by_cases h1:c.name=n
    ·simp (disch:=omega) only [Bc5,hc,h1,h h1,xe,EVP,↓reduceIte,EV,Nat.reduceAdd,Nat.reduceEqDiff,Int.reduceToNat,reduceCtorEq]
    ·by_cases h2:c.typ=t<;>simp (disch:=omega) only [Bc5,hc,h1,h2,xe,EVP,↓reduceIte,EV,Nat.reduceAdd,Nat.reduceEqDiff,Int.reduceToNat,reduceCtorEq]
  ·simp (disch:=omega) only [Bc5,xe,EVP,↓reduceIte,EV,Nat.reduceAdd,Nat.reduceEqDiff,Int.reduceToNat,reduceCtorEq]
   simp [findR,Out.goes]
 simp (disch:=omega) only [Bc5,key,xe,EVP,↓reduceIte,EV,Nat.reduceAdd,Nat.reduceEqDiff,Int.reduceToNat,reduceCtorEq]
theorem J6 (a b:List Rec) (ha:a.length≤1000000):S my 2 [Af a,Af b]=some [.b (decide (a=b))]:=by
 refine Ks1 (N:=a.length+1) rfl ?_
 by_cases hl:a.length=b.length
 ·have key:Gv2.ev S (a.length+1) [Af a,Af b]=some (if a.drop 0=b.drop 0 then .yld 0 [] else .ret [.b false]):=by
   refine Dx a (fun i=>[.i .i64 (i:Int)]) (fun i r=>if r=b.drop i then .yld 0 [] else .ret [.b false]) rfl (by omega) (fun i c r hd hi hc=> ?_) ?_
   ·obtain ⟨y,r',hb,hd2,hd3⟩:∃y r',b[i]? =some y∧b.drop i=y::r'∧b.drop (i+1)=r':=⟨b[i]'(by omega),_,Ax (by omega),B0 (by omega),rfl⟩
    rw [hd2,hd3]
    by_cases h:c=y
    ·subst h
     left
     simp (disch:=omega) only [Al5,hc,hb,xe,EVP,↓reduceIte,EV,Nat.reduceAdd,Nat.reduceEqDiff,Int.reduceToNat,reduceCtorEq]
     simp
    ·right
     simp (disch:=omega) only [Al5,hc,hb,h,xe,EVP,↓reduceIte,EV,Nat.reduceAdd,Nat.reduceEqDiff,Int.reduceToNat,reduceCtorEq]
     simp [h,Out.goes]
   ·have hd2:b.drop a.length=[]:=Fz (by omega)
    rw [hd2]
    simp (disch:=omega) only [Al5,xe,EVP,↓reduceIte,EV,Nat.reduceAdd,Nat.reduceEqDiff,Int.reduceToNat,reduceCtorEq]
    simp [Out.goes]
  simp only [Ds] at key
  by_cases h:a=b
  ·rw [if_pos h] at key
   simp (disch:=omega) only [Al5,key,xe,EVP,↓reduceIte,EV,Nat.reduceAdd,Nat.reduceEqDiff,Int.reduceToNat,reduceCtorEq]
   try simp [h]
  ·rw [if_neg h] at key
   simp (disch:=omega) only [Al5,key,xe,EVP,↓reduceIte,EV,Nat.reduceAdd,Nat.reduceEqDiff,Int.reduceToNat,reduceCtorEq]
   try simp [h]
 ·have h:a≠b:=fun h=>hl (by rw [h])
  simp (disch:=omega) [Al5,h,xe,EVP,↓reduceIte,EV,Nat.reduceAdd,Nat.reduceEqDiff,Int.reduceToNat,reduceCtorEq]
def Tb (x:Rec):List Rec→List Rec
 |[]=>[x]
 |y::r=>if Ny y x<0 then y::Tb x r else if Ny y x=0 then (if x.ttl<y.ttl then x::r else y::r) else x::y::r
def sortR (l:List Rec):List Rec:=l.foldl (fun acc x=>Tb x acc) []
def Kc (x:Rec):List Rec→Nat
 |[]=>0
 |y::r=>if Ny y x<0 then Kc x r+1 else 0
theorem yy (x:Rec):∀l,Kc x l≤l.length
 |[]=>Ac _
 |y::r=>by have:=yy x r;simp only [Kc];split<;>simp;omega
theorem Cg1 (x:Rec):∀(l:List Rec),Tb x l=match l[Kc x l]? with
  |some y=>if Ny y x=0 then (if x.ttl<y.ttl then l.set (Kc x l) x else l) else l.take (Kc x l)++[x]++l.drop (Kc x l)
  |none=>l.take (Kc x l)++[x]++l.drop (Kc x l)
 |[]=>rfl
 |y::r=>by
  simp only [Tb,Kc]
  by_cases h:Ny y x<0
  ·simp only [if_pos h,C2]
   rw [Cg1 x r]
   cases h2:r[Kc x r]? with
   |none=>simp
   |some z=>by_cases h3:Ny z x=0<;>by_cases h4:x.ttl<z.ttl<;>simp [h3,h4]
  ·simp only [if_neg h,Ck]
   by_cases h3:Ny y x=0<;>by_cases h4:x.ttl<y.ttl<;>simp [h3,h4]
theorem yh (x:Rec):∀l,(Tb x l).length≤l.length+1
 |[]=>by simp [Tb]
 |y::r=>by
  have:=yh x r
  simp only [Tb]
  split
  ·simp;omega
  ·split
   ·split<;>simp
   ·simp
theorem insR_mem (x:Rec):∀(l:List Rec) (y:Rec),y∈Tb x l→y=x∨y∈l
 |[],y,h=>by simp [Tb] at h;exact .inl h
 |z::r,y,h=>by
  simp only [Tb] at h
  split at h
  ·simp at h
   rcases h with h|h
   ·exact .inr (by simp [h])
   ·rcases insR_mem x r y h with h|h
    ·exact .inl h
    ·exact .inr (by simp [h])
  ·split at h
   ·split at h
    ·simp at h;rcases h with h|h
     ·exact .inl h
     ·exact .inr (by simp [h])
    ·exact .inr h
   ·simp at h;rcases h with h|h
    ·exact .inl h
    ·exact .inr (by simpa using h)
theorem Ig8 (l g:List Rec) (i:Nat) (x:Rec) (hx:l[i]? =some x) (hw:∀r∈l,r.wf) (hg:∀r∈g,r.wf) (N:Nat) (hN:g.length<N) (hl:g.length≤1000000):
  Cb1.ev S N [Af l,Af g,.i .i64 (i:Int)]=some (.yld 2 [.i .i64 (Kc x g:Int)]):=by
 have key:Cb1.ev S N [Af l,Af g,.i .i64 (i:Int)]=some (.yld 2 [.i .i64 ((0+Kc x g:Nat):Int)]):=by
  refine Dx g (fun k=>[.i .i64 (k:Int)]) (fun k r=> .yld 2 [.i .i64 ((k+Kc x r:Nat):Int)]) rfl hN (fun k c r hd hk hc=> ?_) ?_
  ·have h1:=gr c x (hg c (Ar hc)) (hw x (Ar hx))
   by_cases h:Ny c x<0
   ·left
    simp (disch:=omega) only [Xw,hc,hx,h1,h,xe,EVP,↓reduceIte,EV,Nat.reduceAdd,Nat.reduceEqDiff,Int.reduceToNat,reduceCtorEq]
    refine ⟨trivial,?_⟩
    simp only [Kc,if_pos h]
    congr 3;push_cast;omega
   ·right
    simp (disch:=omega) only [Xw,hc,hx,h1,xe,EVP,↓reduceIte,EV,Nat.reduceAdd,Nat.reduceEqDiff,Int.reduceToNat,reduceCtorEq]
    simp [Kc,h,Out.goes]
  ·simp (disch:=omega) only [Xw,xe,EVP,↓reduceIte,EV,Nat.reduceAdd,Nat.reduceEqDiff,Int.reduceToNat,reduceCtorEq]
   simp [Kc,Out.goes]
 simpa using key
theorem Ig9 (l:List Rec) (hw:∀r∈l,r.wf) (N:Nat) (hN:l.length<N) (hl:l.length≤1000000):
  Gq6.ev S N [Af l]=some (.yld 0 [Af (sortR l)]):=by
 refine Gk l (fun i (g:List Rec)=>[Af g,.i .i64 (i:Int)]) (fun i g r=> .yld 0 [Af (r.foldl (fun acc x=>Tb x acc) g)]) (fun i g=>g.length≤i∧∀r∈g,r.wf) [] rfl ⟨Ac _,fun r h=>by cases h⟩ hN (fun i g c r hd hi hc hI=> ?_) (fun g hI=> ?_)
 ·left
  obtain ⟨h1,h2⟩:=hI
  have hcw:=hw c (Ar hc)
  have h3:=Ig8 l g i c hc hw h2 N (by omega) (by omega)
  have h4:=yy c g
  have h5:=yh c g
  refine ⟨Tb c g,?_,⟨by omega,fun r hr=> ?_⟩,rfl⟩
  ·rw [Cg1]
   cases h6:g[Kc c g]? with
   |none=>
    have h7:=List.getElem?_eq_none_iff.1 h6
    have h8:Kc c g=g.length:=by omega
    simp (disch:=first|omega|(simp;omega)) only [Xw,hc,h3,h8,xe,EVP,↓reduceIte,EV,Nat.reduceAdd,Nat.reduceEqDiff,Int.reduceToNat,reduceCtorEq]
    simp
   |some y=>
    have h7:=(Aq.1 h6).1
    have h8:=gr y c (h2 y (Ar h6)) hcw
    by_cases h9:Ny y c=0
    ·by_cases h10:c.ttl<y.ttl
     ·simp (disch:=omega) only [Xw,hc,h3,h6,h8,h9,h10,xe,EVP,↓reduceIte,EV,Nat.reduceAdd,Nat.reduceEqDiff,Int.reduceToNat,reduceCtorEq]
     ·simp (disch:=omega) only [Xw,hc,h3,h6,h8,h9,h10,xe,EVP,↓reduceIte,EV,Nat.reduceAdd,Nat.reduceEqDiff,Int.reduceToNat,reduceCtorEq]
    ·simp (disch:=first|omega|(simp;omega)) only [Xw,hc,h3,h6,h8,h9,xe,EVP,↓reduceIte,EV,Nat.reduceAdd,Nat.reduceEqDiff,Int.reduceToNat,reduceCtorEq]
     simp
  ·rcases insR_mem c g r hr with h|h
   ·subst h;exact hcw
   ·exact h2 r h
 ·simp (disch:=omega) only [Xw,xe,EVP,↓reduceIte,EV,Nat.reduceAdd,Nat.reduceEqDiff,Int.reduceToNat,reduceCtorEq]
  simp [Out.goes]
theorem Rn (l:List Rec) (hw:∀r∈l,r.wf) (hl:l.length≤1000000):S Cw6 1 [Af l]=some [Af (sortR l)]:=by
 refine Kp8 (N:=l.length+1) rfl ?_
 simp (disch:=omega) only [Xw,Ig9 l hw,xe,EVP,↓reduceIte,EV,Nat.reduceAdd,Nat.reduceEqDiff,Int.reduceToNat,reduceCtorEq]
end Go.X.G
/- Zones: what the reference's check gives. -/
namespace Go.X.G
open Go Go.X
def Dt (n top:List UInt8):Bool:=decide (n≠top) && under n top
theorem Md (n top:List UInt8) (hn:n.length≤9223372036854775807) (ht:top.length≤9223372036854775807):S db 2 [.s n,.s top]=some [.b (Dt n top)]:=by
 refine Km6 (N:=1) rfl ?_
 unfold Dt
 by_cases h:n=top
 ·simp (disch:=omega) only [Il6,O3,h,xe,EVP,↓reduceIte,EV,Nat.reduceAdd,Nat.reduceEqDiff,Int.reduceToNat,reduceCtorEq]
  simp
 ·simp (disch:=omega) only [Il6,O3,h,xe,EVP,↓reduceIte,EV,Nat.reduceAdd,Nat.reduceEqDiff,Int.reduceToNat,reduceCtorEq]
  simp
def Ub (l:List Rec) (n:List UInt8) (t:Int):Bool:=decide (0<(findR l n t).length)
theorem Of (l:List Rec) (n:List UInt8) (t:Int) (hl:l.length≤1000000):S Bj6 3 [Af l,.s n,.i .i64 t]=some [.b (Ub l n t)]:=by
 refine Kn5 (N:=1) rfl ?_
 unfold Ub
 simp (disch:=omega) only [Kb6,Jh,xe,EVP,↓reduceIte,EV,Nat.reduceAdd,Nat.reduceEqDiff,Int.reduceToNat,reduceCtorEq]
 simp
def Hj (r x:Rec):Bool:=
 !decide (x.name=r.name)||(!(decide (x.typ=r.typ) && decide (r.typ≠46) && decide (x.ttl≠r.ttl)) && !(decide (x.typ=r.typ) && (decide (r.typ=6)||decide (r.typ=5)||decide (r.typ=39)) && decide (x≠r)) &&
  !(decide (r.typ=5) && decide (x.typ≠5) && decide (x.typ≠46) && decide (x.typ≠47)))
def Ln (z:Zone) (r:Rec):Bool:=z.recs.all (Hj r)
theorem Ed5 (z:Zone) (r:Rec) (N:Nat) (hN:z.recs.length<N) (hz:z.recs.length≤1000000):
  Gq0.ev S N [z.pv,r.pv]=some (if Ln z r=true then .yld 0 [] else .ret [.b false]):=by
 refine Dx z.recs (fun i=>[.i .i64 (i:Int)]) (fun i l=>if l.all (Hj r)=true then .yld 0 [] else .ret [.b false]) rfl hN (fun i c l hd hi hc=> ?_) ?_
 ·have key:Eg0.ev S N ([z.pv,r.pv]++[.i .i64 (i:Int)])=some (if Hj r c=true then .yld 1 [.i .i64 ((i:Int)+1)] else .ret [.b false]):=by
   by_cases h1:c.name=r.name
   ·by_cases h2:c.typ=r.typ
    ·simp (disch:=omega) only [Bc6,jv,hc,h1,h2,xe,EVP,↓reduceIte,EV,Nat.reduceAdd,Nat.reduceEqDiff,Int.reduceToNat,reduceCtorEq]
     simp only [Hj,h1,h2]
     grind
    ·simp (disch:=omega) only [Bc6,jv,hc,h1,h2,xe,EVP,↓reduceIte,EV,Nat.reduceAdd,Nat.reduceEqDiff,Int.reduceToNat,reduceCtorEq]
     simp only [Hj,h1,h2]
     grind
   ·simp (disch:=omega) only [Bc6,hc,h1,xe,EVP,↓reduceIte,EV,Nat.reduceAdd,Nat.reduceEqDiff,Int.reduceToNat,reduceCtorEq]
    simp [Hj,h1]
  rw [key]
  rcases Ak (Hj r c) with h|h<;>simp [h,Out.goes]
 ·simp (disch:=omega) [Bc6,xe,EVP,↓reduceIte,EV,Nat.reduceAdd,Nat.reduceEqDiff,Int.reduceToNat,reduceCtorEq,Out.goes]
theorem Ed4 (z:Zone) (r:Rec) (hz:z.recs.length≤1000000):S Cv8 2 [z.pv,r.pv]=some [.b (Ln z r)]:=by
 refine Kn3 (N:=z.recs.length+1) rfl ?_
 simp (disch:=omega) only [Bc6,Ed5,xe,EVP,↓reduceIte,EV,Nat.reduceAdd,Nat.reduceEqDiff,Int.reduceToNat,reduceCtorEq]
 cases Ln z r<;>simp
def Fs (z:Zone) (r x:Rec):Bool:=
 !(decide (x.typ=39) && Dt r.name x.name) && !(decide (x.typ=2) && Dt x.name z.origin && Dt r.name x.name && decide (r.typ≠1) && decide (r.typ≠28))
def Ph (t:Int):Bool:=decide (t=2)||decide (t=43)||decide (t=47)||decide (t=46)||decide (t=1)||decide (t=28)
def Nq (z:Zone) (r:Rec):Bool:=
 if (lbl r.name)[0]? =some [42]∧(r.typ=2∨r.typ=39) then false
 else z.recs.all (Fs z r) && (if Dt r.name z.origin && Ub z.recs r.name 2 then Ph r.typ else decide (r.typ≠43))
theorem Sg (z:Zone) (r:Rec) (hz:z.wf) (hr:r.wf) (p:PV) (N:Nat) (hN:z.recs.length<N) (hl:z.recs.length≤1000000):
  Gk9.ev S N [z.pv,r.pv,p]=some (if z.recs.all (Fs z r)=true then .yld 0 [] else .ret [.b false]):=by
 have g1:=hz.origin
 have g2:=hr.name
 unfold M8 at g1 g2
 refine Dx z.recs (fun i=>[.i .i64 (i:Int)]) (fun i l=>if l.all (Fs z r)=true then .yld 0 [] else .ret [.b false]) rfl hN (fun i c l hd hi hc=> ?_) ?_
 ·have g3:=(hz.recs.2 c (Ar hc)).name
  unfold M8 at g3
  have key:Ef9.ev S N ([z.pv,r.pv,p]++[.i .i64 (i:Int)])=some (if Fs z r c=true then .yld 1 [.i .i64 ((i:Int)+1)] else .ret [.b false]):=by
   by_cases h1:c.typ=39
   ·have h2:c.typ≠2:=by omega
    rcases Ak (Dt r.name c.name) with h3|h3<;>simp (disch:=omega) only [Xk,Md,hc,h1,h3,xe,EVP,↓reduceIte,EV,Nat.reduceAdd,Nat.reduceEqDiff,Int.reduceToNat,reduceCtorEq]<;>simp [Fs,h1,h3]
   ·by_cases h2:c.typ=2
    ·rcases Ak (Dt r.name c.name) with h3|h3<;>rcases Ak (Dt c.name z.origin) with h4|h4<;>simp (disch:=omega) only [Xk,Md,hc,h2,h3,h4,xe,EVP,↓reduceIte,EV,Nat.reduceAdd,Nat.reduceEqDiff,Int.reduceToNat,reduceCtorEq]<;>simp [Fs,h2,h3,h4]
     by_cases h5:r.typ=1<;>by_cases h6:r.typ=28<;>simp [h5,h6]
    ·simp (disch:=omega) only [Xk,hc,h1,h2,xe,EVP,↓reduceIte,EV,Nat.reduceAdd,Nat.reduceEqDiff,Int.reduceToNat,reduceCtorEq]
     simp [Fs,h1,h2]
  rw [key]
  rcases Ak (Fs z r c) with h|h<;>simp [h,Out.goes]
 ·simp (disch:=omega) [Xk,xe,EVP,↓reduceIte,EV,Nat.reduceAdd,Nat.reduceEqDiff,Int.reduceToNat,reduceCtorEq,Out.goes]
theorem Ck0 (z:Zone) (r:Rec) (hz:z.wf) (hr:r.wf) (hl:z.recs.length≤1000000):S Cv7 2 [z.pv,r.pv]=some [.b (Nq z r)]:=by
 refine Kn2 (N:=z.recs.length+1) rfl ?_
 have g1:=hz.origin
 have g2:=hr.name
 unfold M8 at g1 g2
 have g3:=G7 r.name
 have tail:T.ev S (z.recs.length+1) o8 [z.pv,r.pv,Bw (lbl r.name)]=some (.ret [.b (z.recs.all (Fs z r) && (if Dt r.name z.origin && Ub z.recs r.name 2 then Ph r.typ else decide (r.typ≠43)))]):=by
  rcases Ak (z.recs.all (Fs z r)) with h0|h0
  ·rcases Ak (Dt r.name z.origin) with h1|h1<;>rcases Ak (Ub z.recs r.name 2) with h2|h2
   ·simp (disch:=omega) only [Xk,Sg z r hz hr,Md,Of,h0,h1,h2,xe,EVP,↓reduceIte,EV,Nat.reduceAdd,Nat.reduceEqDiff,Int.reduceToNat,reduceCtorEq]
    simp only [Ph]
    grind
   all_goals simp (disch:=omega) only [Xk,Sg z r hz hr,Md,Of,h0,h1,h2,xe,EVP,↓reduceIte,EV,Nat.reduceAdd,Nat.reduceEqDiff,Int.reduceToNat,reduceCtorEq]
   all_goals simp
  ·simp (disch:=omega) only [Xk,Sg z r hz hr,h0,xe,EVP,↓reduceIte,EV,Nat.reduceAdd,Nat.reduceEqDiff,Int.reduceToNat,reduceCtorEq]
   simp
 unfold Nq
 cases h:lbl r.name with
 |nil=>
  rw [h] at tail
  simp (disch:=first|omega|(simp;omega)) only [↓tail,Xk,Qj,h,xe,EVP,↓reduceIte,EV,Nat.reduceAdd,Nat.reduceEqDiff,Int.reduceToNat,reduceCtorEq]
  simp
 |cons a l=>
  rw [h] at tail
  have g4:0<((a::l).length:Int):=by simp only [A0];omega
  by_cases h1:a=[42]<;>by_cases h2:r.typ=2<;>by_cases h3:r.typ=39
  all_goals first|omega|skip
  all_goals try subst h1
  all_goals simp (disch:=first|omega|(simp;omega)) only [↓tail,Xk,Qj,h,h2,h3,xe,EVP,↓reduceIte,EV,Nat.reduceAdd,Nat.reduceEqDiff,Int.reduceToNat,reduceCtorEq]
  all_goals simp [h2,h3, *]
def Kw (z:Zone) (r:Rec):Bool:=under r.name z.origin && !(decide (r.typ=6) && decide (r.name≠z.origin)) && Ln z r && Nq z r
def Jd (z:Zone):Int:=
 if vld z.origin=false then 2
 else if 2048<z.recs.length then 9
 else if z.recs.all (fun r=>decide ((findR z.recs r.name r.typ).length≤64))=false then 9
 else if z.recs.all Mm=false then 5
 else if z.recs≠sortR z.recs then 7
 else if (findR z.recs z.origin 6).length≠1∨Ub z.recs z.origin 2=false then 13
 else if z.recs.all (Kw z)=false then 13
 else 0
theorem Mh (z:Zone) (N:Nat) (hN:z.recs.length<N) (hl:z.recs.length≤1000000) (p:PV):
  Gv4.ev S N [z.pv,p]=some (if z.recs.all (fun r=>decide ((findR z.recs r.name r.typ).length≤64))=true then .yld 0 [] else .ret [.i .i64 9]):=by
 refine Dx z.recs (fun i=>[.i .i64 (i:Int)]) (fun i l=>if l.all (fun r=>decide ((findR z.recs r.name r.typ).length≤64))=true then .yld 0 [] else .ret [.i .i64 9]) rfl hN (fun i c l hd hi hc=> ?_) ?_
 ·by_cases h:(findR z.recs c.name c.typ).length≤64
  ·left
   simp (disch:=omega) only [K6,Jh,hc,xe,EVP,↓reduceIte,EV,Nat.reduceAdd,Nat.reduceEqDiff,Int.reduceToNat,reduceCtorEq]
   simp [h]
  ·right
   simp (disch:=omega) only [K6,Jh,hc,xe,EVP,↓reduceIte,EV,Nat.reduceAdd,Nat.reduceEqDiff,Int.reduceToNat,reduceCtorEq]
   simp [h,Out.goes]
 ·simp (disch:=omega) [K6,xe,EVP,↓reduceIte,EV,Nat.reduceAdd,Nat.reduceEqDiff,Int.reduceToNat,reduceCtorEq,Out.goes]
theorem O6 (z:Zone) (hz:z.wf) (N:Nat) (hN:z.recs.length<N) (hl:z.recs.length≤1000000) (p:PV):
  Gk0.ev S N [z.pv,p]=some (if z.recs.all Mm=true then .yld 0 [] else .ret [.i .i64 5]):=by
 refine Dx z.recs (fun i=>[.i .i64 (i:Int)]) (fun i l=>if l.all Mm=true then .yld 0 [] else .ret [.i .i64 5]) rfl hN (fun i c l hd hi hc=> ?_) ?_
 ·have hw:=hz.recs.2 c (Ar hc)
  rcases Ak (Mm c) with h|h
  ·left
   simp (disch:=omega) only [K6,i9 c hw,hc,h,xe,EVP,↓reduceIte,EV,Nat.reduceAdd,Nat.reduceEqDiff,Int.reduceToNat,reduceCtorEq]
   simp [h]
  ·right
   simp (disch:=omega) only [K6,i9 c hw,hc,h,xe,EVP,↓reduceIte,EV,Nat.reduceAdd,Nat.reduceEqDiff,Int.reduceToNat,reduceCtorEq]
   simp [h,Out.goes]
 ·simp (disch:=omega) [K6,xe,EVP,↓reduceIte,EV,Nat.reduceAdd,Nat.reduceEqDiff,Int.reduceToNat,reduceCtorEq,Out.goes]
theorem Fp2 (z:Zone) (hz:z.wf) (N:Nat) (hN:z.recs.length<N) (hl:z.recs.length≤1000000) (p1 p2 p3 p4 p5:PV):
  Gj6.ev S N [z.pv,p1,p2,p3,p4,p5]=some (if z.recs.all (Kw z)=true then .yld 0 [] else .ret [.i .i64 13]):=by
 have g1:=hz.origin
 unfold M8 at g1
 refine Dx z.recs (fun i=>[.i .i64 (i:Int)]) (fun i l=>if l.all (Kw z)=true then .yld 0 [] else .ret [.i .i64 13]) rfl hN (fun i c l hd hi hc=> ?_) ?_
 ·have hw:=hz.recs.2 c (Ar hc)
  have g2:=hw.name
  unfold M8 at g2
  have key:Ed6.ev S N ([z.pv,p1,p2,p3,p4,p5]++[.i .i64 (i:Int)])=some (if Kw z c=true then .yld 1 [.i .i64 ((i:Int)+1)] else .ret [.i .i64 13]):=by
   rcases Ak (under c.name z.origin) with h1|h1
   ·by_cases h2:c.typ=6<;>by_cases h3:c.name=z.origin
    all_goals try rw [h3] at h1 g2
    all_goals rcases ch2 (Ln z c) (Nq z c) with e0|⟨e0,e1⟩|⟨e0,e1⟩
    all_goals simp (disch:=omega) only [K6,O3,Ed4,Ck0 z c hz hw,hc,h1,h2,h3,xe,EVP,↓reduceIte,EV,Nat.reduceAdd,Nat.reduceEqDiff,Int.reduceToNat,reduceCtorEq, *]
    all_goals simp [Kw,h1,h2,h3, *]
   ·simp (disch:=omega) only [K6,O3,hc,h1,xe,EVP,↓reduceIte,EV,Nat.reduceAdd,Nat.reduceEqDiff,Int.reduceToNat,reduceCtorEq]
    simp [Kw,h1]
  rw [key]
  rcases Ak (Kw z c) with h|h<;>simp [h,Out.goes]
 ·simp (disch:=omega) [K6,xe,EVP,↓reduceIte,EV,Nat.reduceAdd,Nat.reduceEqDiff,Int.reduceToNat,reduceCtorEq,Out.goes]
theorem Bz4 (z:Zone) (hz:z.wf):S Cy2 1 [z.pv]=some [.i .i64 (Jd z)]:=by
 refine Ks7 (N:=z.recs.length+1) rfl ?_
 have g1:=hz.origin
 unfold M8 at g1
 unfold Jd
 rcases Ak (vld z.origin) with h1|h1
 ·by_cases h2:2048<z.recs.length
  ·simp (disch:=omega) only [K6,Fg,h1,h2,xe,EVP,↓reduceIte,EV,Nat.reduceAdd,Nat.reduceEqDiff,Int.reduceToNat,reduceCtorEq]
  ·rcases Ak (z.recs.all (fun r=>decide ((findR z.recs r.name r.typ).length≤64))) with h3|h3
   ·rcases Ak (z.recs.all Mm) with h4|h4
    ·by_cases h5:z.recs=sortR z.recs
     ·by_cases h6:(findR z.recs z.origin 6).length=1
      ·rcases Ak (Ub z.recs z.origin 2) with h7|h7
       ·rcases Ak (z.recs.all (Kw z)) with h8|h8<;>simp (disch:=omega) only [K6,Fg,Mh,O6 z hz,Fp2 z hz,Rn _ hz.recs.2,J6,Jh,Of,h1,h2,h3,h4,←h5,h6,h7,h8,xe,EVP,↓reduceIte,EV,Nat.reduceAdd,Nat.reduceEqDiff,Int.reduceToNat,reduceCtorEq]<;>simp
       ·simp (disch:=omega) only [K6,Fg,Mh,O6 z hz,Rn _ hz.recs.2,J6,Jh,Of,h1,h2,h3,h4,←h5,h6,h7,xe,EVP,↓reduceIte,EV,Nat.reduceAdd,Nat.reduceEqDiff,Int.reduceToNat,reduceCtorEq]
        simp
      ·simp (disch:=omega) only [K6,Fg,Mh,O6 z hz,Rn _ hz.recs.2,J6,Jh,Of,h1,h2,h3,h4,←h5,h6,xe,EVP,↓reduceIte,EV,Nat.reduceAdd,Nat.reduceEqDiff,Int.reduceToNat,reduceCtorEq]
       simp
     ·simp (disch:=omega) only [K6,Fg,Mh,O6 z hz,Rn _ hz.recs.2,J6,h1,h2,h3,h4,h5,xe,EVP,↓reduceIte,EV,Nat.reduceAdd,Nat.reduceEqDiff,Int.reduceToNat,reduceCtorEq]
    ·simp (disch:=omega) only [K6,Fg,Mh,O6 z hz,h1,h2,h3,h4,xe,EVP,↓reduceIte,EV,Nat.reduceAdd,Nat.reduceEqDiff,Int.reduceToNat,reduceCtorEq]
   ·simp (disch:=omega) only [K6,Fg,Mh,h1,h2,h3,xe,EVP,↓reduceIte,EV,Nat.reduceAdd,Nat.reduceEqDiff,Int.reduceToNat,reduceCtorEq]
 ·simp (disch:=omega) only [K6,Fg,h1,xe,EVP,↓reduceIte,EV,Nat.reduceAdd,Nat.reduceEqDiff,Int.reduceToNat,reduceCtorEq]
end Go.X.G
/- The order of records; what a checked zone is like. -/
namespace Go.X.G
open Go Go.X
theorem TO.prod {α β:Type} {l1:α→α→Prop} {l2:β→β→Prop} (h1:TO l1) (h2:TO l2):TO (fun p q:α×β=>l1 p.1 q.1∨(p.1=q.1∧l2 p.2 q.2)) where
 irr:=fun p h=>by
  rcases h with h|⟨_,h⟩
  ·exact h1.irr _ h
  ·exact h2.irr _ h
 tr:=fun p q r a b=>by
  rcases a with a|⟨a,a'⟩<;>rcases b with b|⟨b,b'⟩
  ·exact .inl (h1.tr _ _ _ a b)
  ·exact .inl (b▸a)
  ·exact .inl (a▸b)
  ·exact .inr ⟨a.trans b,h2.tr _ _ _ a' b'⟩
 tri:=fun p q=>by
  rcases h1.tri p.1 q.1 with a|a|a
  ·exact .inl (.inl a)
  ·rcases h2.tri p.2 q.2 with b|b|b
   ·exact .inl (.inr ⟨a,b⟩)
   ·exact .inr (.inl (Prod.ext a b))
   ·exact .inr (.inr (.inr ⟨a.symm,b⟩))
  ·exact .inr (.inr (.inl a))
theorem Is3:TO (fun a b:Int=>a<b):=⟨fun a h=>by omega,fun a b c h1 h2=>by omega,fun a b=>by omega⟩
theorem Y8 (a b:Int):im a b<0↔a<b:=by unfold im;split<;>(try split)<;>omega
theorem H2 (a b:Int):im a b=0↔a=b:=by unfold im;split<;>(try split)<;>omega
abbrev Key:=List UInt8×Int×List UInt8
abbrev ltK:Key→Key→Prop:=fun p q=>ltN p.1 q.1∨(p.1=q.1∧(p.2.1<q.2.1∨(p.2.1=q.2.1∧ltB p.2.2 q.2.2)))
theorem to_K:TO ltK:=to_N.prod (Is3.prod Em9)
def En0 (r:Rec):Key:=(r.name,r.typ,Iw r.typ r.data)
abbrev ltR (a b:Rec):Prop:=ltK (En0 a) (En0 b)
theorem Ns {r:Rec} (h:Mm r=true):Dz r.typ r.data=true:=by
 unfold Mm at h
 simp only [Av] at h
 exact h.2
theorem ax {r:Rec} (h:Mm r=true):vld r.name=true:=by
 unfold Mm at h
 simp only [Av] at h
 exact h.1.1.1.1
theorem Gw8 {t:Int} {a b:Dat} (ha:Dz t a=true) (hb:Dz t b=true):Cm5 t a b=cmpS (Iw t a) (Iw t b):=by
 unfold Cm5;rw [ha,hb];rfl
theorem y9 {a b:Rec} (ha:Mm a=true) (hb:Mm b=true):Ny a b<0↔ltR a b:=by
 unfold Ny ltR ltK En0
 simp only
 by_cases h1:I3 a.name b.name=0
 ·rw [if_neg (by simp [h1])]
  have e1:=H1.1 h1
  have n1:¬ltN a.name b.name:=by rw [e1];exact to_N.irr _
  by_cases h2:im a.typ b.typ=0
  ·rw [if_neg (by simp [h2])]
   have e2:=(H2 _ _).1 h2
   have ha':=Ns ha
   have hb':=Ns hb
   rw [e2] at ha' ⊢
   rw [Gw8 ha' hb',Rl]
   constructor
   ·intro h;exact .inr ⟨e1,.inr ⟨rfl,h⟩⟩
   ·rintro (h|⟨_,h|⟨_,h⟩⟩)
    ·exact absurd h n1
    ·omega
    ·exact h
  ·rw [if_pos h2,Y8]
   have e2:a.typ≠b.typ:=fun e=>h2 ((H2 _ _).2 e)
   constructor
   ·intro h;exact .inr ⟨e1,.inl h⟩
   ·rintro (h|⟨_,h|⟨h,_⟩⟩)
    ·exact absurd h n1
    ·exact h
    ·exact absurd h e2
 ·rw [if_pos h1,Et]
  have e1:a.name≠b.name:=fun e=>h1 (H1.2 e)
  constructor
  ·intro h;exact .inl h
  ·rintro (h|⟨h,_⟩)
   ·exact h
   ·exact absurd h e1
theorem ir {a b:Rec} (ha:Mm a=true) (hb:Mm b=true):Ny a b=0↔En0 a=En0 b:=by
 unfold Ny En0
 by_cases h1:I3 a.name b.name=0
 ·rw [if_neg (by simp [h1])]
  have e1:=H1.1 h1
  by_cases h2:im a.typ b.typ=0
  ·rw [if_neg (by simp [h2])]
   have e2:=(H2 _ _).1 h2
   have ha':=Ns ha
   have hb':=Ns hb
   rw [e2] at ha' ⊢
   rw [Gw8 ha' hb',I2]
   simp [e1]
  ·rw [if_pos h2]
   have e2:a.typ≠b.typ:=fun e=>h2 ((H2 _ _).2 e)
   constructor
   ·intro h;exact absurd h h2
   ·intro h;injection h with _ h;injection h with h _;exact absurd h e2
 ·rw [if_pos h1]
  have e1:a.name≠b.name:=fun e=>h1 (H1.2 e)
  constructor
  ·intro h;exact absurd h h1
  ·intro h;injection h with h _;exact absurd h e1
theorem Tz {x:Rec} (hx:Mm x=true):∀(l:List Rec),(∀r∈l,Mm r=true)→l.Pairwise ltR→(Tb x l).Pairwise ltR
 |[],_,_=>by simp [Tb]
 |y::r,hv,h=>by
  obtain ⟨h1,h2⟩:=As.1 h
  have hy:=hv y (.head _)
  have ih:=Tz hx r (fun w hw=>hv w (.tail _ hw)) h2
  simp only [Tb]
  by_cases c:Ny y x<0
  ·rw [if_pos c]
   refine As.2 ⟨fun w hw=> ?_,ih⟩
   rcases insR_mem x r w hw with rfl|hw
   ·exact (y9 hy hx).1 c
   ·exact h1 w hw
  ·rw [if_neg c]
   by_cases e:Ny y x=0
   ·rw [if_pos e]
    split
    ·have ke:=(ir hy hx).1 e
     refine As.2 ⟨fun w hw=> ?_,h2⟩
     have:=h1 w hw
     show ltK (En0 x) (En0 w)
     rw [←ke];exact this
    ·exact h
   ·rw [if_neg e]
    have hxy:ltR x y:=by
     rcases to_K.tri (En0 x) (En0 y) with q|q|q
     ·exact q
     ·exact absurd ((ir hy hx).2 q.symm) e
     ·exact absurd ((y9 hy hx).2 q) c
    refine As.2 ⟨fun w hw=> ?_,h⟩
    rcases Al.1 hw with rfl|hw
    ·exact hxy
    ·exact to_K.tr _ _ _ hxy (h1 w hw)
theorem Qx (l:List Rec) (hv:∀r∈l,Mm r=true):(sortR l).Pairwise ltR∧∀r∈sortR l,r∈l:=by
 have:∀(l a:List Rec),(∀r∈l,Mm r=true)→(∀r∈a,Mm r=true)→a.Pairwise ltR→(l.foldl (fun acc x=>Tb x acc) a).Pairwise ltR∧∀r∈l.foldl (fun acc x=>Tb x acc) a,r∈a∨r∈l:=by
  intro l
  induction l with
  |nil=>intro a _ _ h;exact ⟨h,fun r hr=> .inl hr⟩
  |cons x r ih=>
   intro a h1 h2 h3
   have hx:=h1 x (.head _)
   obtain ⟨g1,g2⟩:=ih (Tb x a) (fun w hw=>h1 w (.tail _ hw)) (fun w hw=>by
    rcases insR_mem x a w hw with rfl|hw
    ·exact hx
    ·exact h2 w hw) (Tz hx a h2 h3)
   refine ⟨g1,fun w hw=> ?_⟩
   rcases g2 w hw with hw|hw
   ·rcases insR_mem x a w hw with rfl|hw
    ·exact .inr (.head _)
    ·exact .inl hw
   ·exact .inr (.tail _ hw)
 obtain ⟨h1,h2⟩:=this l [] hv (fun r hr=>by cases hr) .nil
 exact ⟨h1,fun r hr=>(h2 r hr).resolve_left (by simp)⟩
structure ZOk (z:Zone):Prop where
 origin:vld z.origin=true
 small:z.recs.length≤2048
 valid:∀r∈z.recs,Mm r=true
 rising:z.recs.Pairwise ltR
 soa:(findR z.recs z.origin 6).length=1
 ns:Ub z.recs z.origin 2=true
 recs:∀r∈z.recs,Kw z r=true
theorem Cm8 {z:Zone} (h:Jd z=0):ZOk z:=by
 unfold Jd at h
 split at h
 ·cases h
 ·rename_i h1
  split at h
  ·cases h
  ·rename_i h2
   split at h
   ·cases h
   ·split at h
    ·cases h
    ·rename_i h4
     split at h
     ·cases h
     ·rename_i h5
      split at h
      ·cases h
      ·rename_i h6
       split at h
       ·cases h
       ·rename_i h7
        simp only [Fp,Bv] at h1 h4 h7
        simp only [not_or,ne_eq,G4,Fp] at h5 h6
        refine ⟨h1,by omega,h4,?_,h6.1,h6.2,h7⟩
        rw [h5]
        exact (Qx z.recs h4).1
theorem ZOk.beside {z:Zone} (h:ZOk z) {r x:Rec} (hr:r∈z.recs) (hx:x∈z.recs):Hj r x=true:=by
 have:=h.recs r hr
 unfold Kw at this
 simp only [Av] at this
 have h2:=this.1.2
 unfold Ln at h2
 exact Bv.1 h2 x hx
theorem ZOk.under {z:Zone} (h:ZOk z) {r:Rec} (hr:r∈z.recs):under r.name z.origin=true:=by
 have:=h.recs r hr
 unfold Kw at this
 simp only [Av] at this
 exact this.1.1.1
theorem ZOk.single {z:Zone} (h:ZOk z) (n:List UInt8) (t:Int) (ht:t=6∨t=5∨t=39):(findR z.recs n t).length≤1:=by
 have hp:(findR z.recs n t).Pairwise ltR:=h.rising.filter _
 have hm:∀x∈findR z.recs n t,x∈z.recs∧x.name=n∧x.typ=t:=fun x hx=>by
  obtain ⟨h1,h2⟩:=Bs.1 hx
  simp only [isK,Av,decide_eq_true_eq] at h2
  exact ⟨h1,h2.1,h2.2⟩
 generalize findR z.recs n t=l at*
 match l,hp,hm with
 |[],_,_=>simp
 |[_],_,_=>simp
 |a::b::r,hp,hm=>
  exfalso
  have hab:ltR a b:=(As.1 hp).1 b (.head _)
  obtain ⟨a1,a2,a3⟩:=hm a (.head _)
  obtain ⟨b1,b2,b3⟩:=hm b (.tail _ (.head _))
  have hb:=h.beside a1 b1
  have e:b=a:=by
   unfold Hj at hb
   rw [a2,a3,b2,b3] at hb
   have ht':(decide (t=6)||decide (t=5)||decide (t=39))=true:=by rcases ht with h|h|h<;>simp [h]
   rw [ht'] at hb
   simp only [decide_true,Kn,Kp,O9,Bool.true_and,Av,A7,decide_eq_false_iff_not,ne_eq,G4] at hb
   exact hb.1.2
  rw [e] at hab
  exact to_K.irr _ hab
end Go.X.G
/- Sorted lists of names, each once. -/
namespace Go.X.G
open Go Go.X
def Q5 {α:Type} (e:α→α→Bool):α→List α→List α
 |_,[]=>[]
 |p,c::r=>if e c p=true then Q5 e c r else c::Q5 e c r
def cpt {α:Type} (e:α→α→Bool):List α→List α
 |[]=>[]
 |x::r=>x::Q5 e x r
theorem il {α:Type} (e:α→α→Bool) (c:α):∀(r:List α) (p:α),Q5 e p (r++[c])=Q5 e p r++(if e c ((p::r).getLast (by simp))=true then [] else [c])
 |[],p=>by
  simp only [Cd,Q5,List.getLast_singleton]
  rfl
 |x::r,p=>by
  have ih:=il e c r x
  simp only [B3,Q5,List.getLast_cons_cons]
  split
  ·exact ih
  ·rw [ih];rfl
theorem Mb {α:Type} (e:α→α→Bool) (c:α) (l:List α) (h:l≠[]):cpt e (l++[c])=cpt e l++(if e c (l.getLast h)=true then [] else [c]):=by
 cases l with
 |nil=>exact absurd rfl h
 |cons x r=>
  show x::Q5 e x (r++[c])=_
  rw [il];rfl
theorem y4 {α:Type} (e:α→α→Bool):∀(r:List α) (p:α),(Q5 e p r).length≤r.length
 |[],_=>by simp [Q5]
 |c::r,p=>by
  have:=y4 e r c
  simp only [Q5]
  split<;>simp<;>omega
theorem T4 {α:Type} (e:α→α→Bool) (l:List α):(cpt e l).length≤l.length:=by
 cases l with
 |nil=>simp [cpt]
 |cons x r=>have:=y4 e r x;simp [cpt];exact this
theorem Y5 {α:Type} (e:α→α→Bool):∀(r:List α) (p:α),∀x∈Q5 e p r,x∈r
 |[],_,x,h=>by simp [Q5] at h
 |c::r,p,x,h=>by
  simp only [Q5] at h
  split at h
  ·exact .tail _ (Y5 e r c x h)
  ·rcases Al.1 h with rfl|h
   ·exact .head _
   ·exact .tail _ (Y5 e r c x h)
theorem Ix0 {α:Type} (e:α→α→Bool) (l:List α):∀x∈cpt e l,x∈l:=by
 cases l with
 |nil=>intro x h;simp [cpt] at h
 |cons y r=>
  intro x h
  rcases Al.1 (show x∈y::Q5 e y r from h) with rfl|h
  ·exact .head _
  ·exact .tail _ (Y5 e r y x h)
abbrev eqs {α:Type} [DecidableEq α]:α→α→Bool:=fun a b=>decide (a=b)
theorem cptG_mem {α:Type} [DecidableEq α]:∀(r:List α) (p x:α),x∈r→x=p∨x∈Q5 eqs p r
 |[],_,x,h=>by simp at h
 |c::r,p,x,h=>by
  simp only [Q5]
  by_cases hc:c=p
  ·subst hc
   rw [if_pos (by simp [eqs])]
   rcases Al.1 h with rfl|h
   ·exact .inl rfl
   ·exact cptG_mem r c x h
  ·rw [if_neg (by simp [eqs,hc])]
   right
   rcases Al.1 h with rfl|h
   ·exact .head _
   ·rcases cptG_mem r c x h with rfl|h
    ·exact .head _
    ·exact .tail _ h
theorem Ix1 {α:Type} [DecidableEq α] (l:List α) (x:α):x∈cpt eqs l↔x∈l:=by
 refine ⟨Ix0 _ l x,fun h=> ?_⟩
 cases l with
 |nil=>simp at h
 |cons y r=>
  rcases Al.1 h with rfl|h
  ·exact .head _
  ·rcases cptG_mem r y x h with rfl|h
   ·exact .head _
   ·exact .tail _ h
theorem T5 {α:Type} [DecidableEq α] {lt:α→α→Prop} (ht:TO lt):∀(r:List α) (p:α),(p::r).Pairwise (fun a b=>¬lt b a)→(p::Q5 eqs p r).Pairwise lt
 |[],p,_=>by simp [Q5]
 |c::r,p,h=>by
  rw [As] at h
  have ih:=T5 ht r c h.2
  simp only [Q5]
  by_cases hc:c=p
  ·subst hc
   rw [if_pos (by simp [eqs])]
   exact ih
  ·rw [if_neg (by simp [eqs,hc])]
   rw [As]
   refine ⟨fun x hx=> ?_,ih⟩
   have hpc:lt p c:=by
    rcases ht.tri p c with h1|h1|h1
    ·exact h1
    ·exact absurd h1.symm hc
    ·exact absurd h1 (h.1 c (.head _))
   rcases Al.1 hx with rfl|hx
   ·exact hpc
   ·exact ht.tr _ _ _ hpc ((As.1 ih).1 x hx)
theorem Bx5 {α:Type} [DecidableEq α] {lt:α→α→Prop} (ht:TO lt) (l:List α) (h:l.Pairwise (fun a b=>¬lt b a)):(cpt eqs l).Pairwise lt:=by
 cases l with
 |nil=>simp [cpt]
 |cons x r=>exact T5 ht r x h
theorem Sd {α:Type} {lt:α→α→Prop} (ht:TO lt):∀(a b:List α),a.Pairwise lt→b.Pairwise lt→(∀x,x∈a↔x∈b)→a=b
 |[],[],_,_,_=>rfl
 |[],y::b,_,_,h=>absurd ((h y).2 (.head _)) (by simp)
 |x::a,[],_,_,h=>absurd ((h x).1 (.head _)) (by simp)
 |x::a,y::b,ha,hb,h=>by
  rw [As] at ha hb
  have hxy:x=y:=by
   rcases Al.1 ((h x).1 (.head _)) with h1|h1
   ·exact h1
   ·rcases Al.1 ((h y).2 (.head _)) with h2|h2
    ·exact h2.symm
    ·exact absurd (hb.1 x h1) (ht.asym (ha.1 y h2))
  subst hxy
  rw [Sd ht a b ha.2 hb.2 fun z=> ?_]
  constructor
  ·intro hz
   rcases Al.1 ((h z).1 (.tail _ hz)) with rfl|h1
   ·exact absurd (ha.1 z hz) (ht.irr z)
   ·exact h1
  ·intro hz
   rcases Al.1 ((h z).2 (.tail _ hz)) with rfl|h1
   ·exact absurd (hb.1 z hz) (ht.irr z)
   ·exact h1
def setN (l:List (List UInt8)):List (List UInt8):=cpt eqs (l.mergeSort fun x y=> !decide (I3 y x<0))
theorem Hs9 (l:List (List UInt8)):(l.mergeSort fun x y=> !decide (I3 y x<0)).Pairwise (fun a b=>¬ltN b a):=by
 have:=List.pairwise_mergeSort (le:=fun x y:List UInt8=> !decide (I3 y x<0)) (fun a b c h1 h2=>by
  simp only [A7,decide_eq_false_iff_not,Et] at h1 h2 ⊢
  exact to_N.ntr h2 h1) (fun a b=>by
  simp only [Am,A7,decide_eq_false_iff_not,Et]
  rcases to_N.tri a b with h|h|h
  ·exact .inl (to_N.asym h)
  ·subst h;exact .inl (to_N.irr a)
  ·exact .inr (to_N.asym h)) l
 refine this.imp fun {a b} h=> ?_
 simpa only [A7,decide_eq_false_iff_not,Et] using h
theorem M9 (l:List (List UInt8)):(setN l).Pairwise ltN:=Bx5 to_N _ (Hs9 l)
theorem Kv (l:List (List UInt8)) (x:List UInt8):x∈setN l↔x∈l:=by
 unfold setN
 rw [Ix1]
 exact (List.mergeSort_perm _ _).mem_iff
theorem Xm (l:List (List UInt8)):(setN l).length≤l.length:=by
 have:=T4 eqs (l.mergeSort fun x y=> !decide (I3 y x<0))
 rw [jt] at this
 exact this
end Go.X.G
/- Names on the way up; delegations above a name. -/
namespace Go.X.G
open Go Go.X
def upN (o n:List UInt8):List (List UInt8):=(List.range ((lbl n).length - (lbl o).length+1)).map fun k=>jn ((lbl n).drop k)
theorem R5 {o n x:List UInt8} (h:under n o=true):x∈upN o n↔under n x=true∧under x o=true:=by
 obtain ⟨hn,ho,hs⟩:=C9.1 h
 have hle:=hs.length_le
 rw [I8] at hs
 unfold upN
 rw [D6]
 constructor
 ·rintro ⟨k,hk,rfl⟩
  rw [E6] at hk
  obtain ⟨v1,v2⟩:=Q9 hn k
  refine ⟨C9.2 ⟨hn,v1,by rw [v2];exact List.drop_suffix _ _⟩,C9.2 ⟨v1,ho,?_⟩⟩
  rw [v2,hs]
  have:(lbl n).length - (lbl o).length=k+((lbl n).length - (lbl o).length - k):=by omega
  rw [this,←C6]
  exact List.drop_suffix _ _
 ·rintro ⟨h1,h2⟩
  obtain ⟨_,hx,h3⟩:=C9.1 h1
  obtain ⟨_,_,h4⟩:=C9.1 h2
  have l1:=h3.length_le
  have l2:=h4.length_le
  rw [I8] at h3
  refine ⟨(lbl n).length - (lbl x).length,?_,?_⟩
  ·rw [E6];omega
  ·rw [←h3];exact (R4 hx).symm
theorem ky (o n:List UInt8):(upN o n).length≤256:=by
 have:=G7 n
 simp [upN];omega
theorem Xb {o n:List UInt8} {k:Nat} (hk:k≤(lbl n).length - (lbl o).length):(upN o n)[k]? =some (jn ((lbl n).drop k)):=by
 unfold upN
 rw [Bd,Cv (by omega)];rfl
theorem Cf1 {n:List UInt8} (h:vld n=true):jn ((lbl n).drop 0)=n:=by rw [Ds];exact (R4 h).symm
theorem s7 {o n:List UInt8} (h:under n o=true) {k:Nat} (hk:k≤(lbl n).length - (lbl o).length):jn ((lbl n).drop k)=o↔k=(lbl n).length - (lbl o).length:=by
 obtain ⟨hn,ho,hs⟩:=C9.1 h
 have hle:=hs.length_le
 rw [I8] at hs
 obtain ⟨v1,v2⟩:=Q9 hn k
 constructor
 ·intro e
  have:=congrArg (fun x=>(lbl x).length) e
  simp only [v2,Bt] at this
  omega
 ·rintro rfl
  rw [←hs];exact (R4 ho).symm
theorem Fr7 {o n:List UInt8} (h:under n o=true) {k:Nat} (hk:k<(lbl n).length - (lbl o).length):X6 (jn ((lbl n).drop k))=jn ((lbl n).drop (k+1))∧yl (jn ((lbl n).drop k))=true:=by
 obtain ⟨hn,ho,hs⟩:=C9.1 h
 obtain ⟨v1,v2⟩:=Q9 hn k
 have hne:jn ((lbl n).drop k)≠[46]:=by
  intro e
  have:=(Ij2 v1).2 e
  rw [v2] at this
  have:=congrArg List.length this
  simp at this
  omega
 unfold X6 yl
 rw [if_pos ⟨v1,hne⟩,v2,C6]
 exact ⟨rfl,by simp [v1,hne]⟩
theorem Yl (l:List (List UInt8)) (i j:Nat) (h:i<j) (hj:j≤l.length):(flat (l.drop j)).length<(flat (l.drop i)).length:=by
 have e:l.drop i=(l.drop i).take (j - i)++l.drop j:=by
  have:=(Bl (j - i) (l.drop i)).symm
  rw [C6,show i+(j - i)=j by omega] at this
  exact this
 rw [e,Ym,Az]
 have:0<(flat ((l.drop i).take (j - i))).length:=by
  cases hc:(l.drop i).take (j - i) with
  |nil=>
   have:=congrArg List.length hc
   simp at this;omega
  |cons x r=>simp [flat];omega
 omega
theorem El1 {n a b:List UInt8} (ha:under n a=true) (hb:under n b=true):a.length<b.length↔(lbl a).length<(lbl b).length:=by
 have key:∀{a b:List UInt8},under n a=true→under n b=true→(lbl a).length<(lbl b).length→a.length<b.length:=by
  intro a b ha hb hl
  obtain ⟨hn,va,sa⟩:=C9.1 ha
  obtain ⟨_,vb,sb⟩:=C9.1 hb
  have la:=sa.length_le
  have lb:=sb.length_le
  rw [I8] at sa sb
  rw [R4 va,R4 vb]
  have hbne:lbl b≠[]:=fun e=>by rw [e] at hl;simp at hl
  have e2:jn (lbl b)=flat (lbl b):=by unfold jn;rw [if_neg hbne]
  rw [e2]
  by_cases ha0:lbl a=[]
  ·have e1:jn (lbl a)=[46]:=by unfold jn;rw [if_pos ha0]
   rw [e1]
   have:=Jz (s5 vb) hbne
   simp;omega
  ·have e1:jn (lbl a)=flat (lbl a):=by unfold jn;rw [if_neg ha0]
   rw [e1,sa,sb]
   exact Yl _ _ _ (by omega) (by omega)
 constructor
 ·intro h
  rcases Nat.lt_or_ge (lbl a).length (lbl b).length with h1|h1
  ·exact h1
  ·rcases Nat.lt_or_eq_of_le h1 with h2|h2
   ·have:=key hb ha h2;omega
   ·obtain ⟨_,va,sa⟩:=C9.1 ha
    obtain ⟨_,vb,sb⟩:=C9.1 hb
    rw [I8] at sa sb
    have:a=b:=Tv va vb (by rw [sa,sb,h2])
    subst this;omega
 ·exact key ha hb
def D4 (z:Zone) (r:Rec):Bool:=decide (r.typ=2) && Dt r.name z.origin
def Ih9 (z:Zone) (n:List UInt8):List UInt8→List Rec→List UInt8
 |b,[]=>b
 |b,r::rs=>Ih9 z n (if D4 z r && under n r.name && (decide (b=[])||decide ((lbl r.name).length<(lbl b).length)) then r.name else b) rs
def Fl8 (z:Zone) (n:List UInt8):List UInt8:=Ih9 z n [] z.recs
def jh (z:Zone) (n:List UInt8):Bool:=z.recs.any fun r=>D4 z r && decide (r.name≠n) && under n r.name
def Il1 (z:Zone):List (List UInt8):=(z.recs.filter fun r=>under r.name z.origin && !jh z r.name).flatMap fun r=>upN z.origin r.name
def namesN (z:Zone):List (List UInt8):=setN (Il1 z)
def Gv8 (z:Zone) (x:List UInt8):Prop:=∃r∈z.recs,under r.name z.origin=true∧jh z r.name=false∧under r.name x=true∧under x z.origin=true
theorem Ah4 (z:Zone) (x:List UInt8):x∈Il1 z↔Gv8 z x:=by
 unfold Il1 Gv8
 simp only [List.mem_flatMap,Bs,Av,A7]
 constructor
 ·rintro ⟨r,⟨hr,h1,h2⟩,h3⟩
  obtain ⟨h4,h5⟩:=(R5 h1).1 h3
  exact ⟨r,hr,h1,h2,h4,h5⟩
 ·rintro ⟨r,hr,h1,h2,h4,h5⟩
  exact ⟨r,⟨hr,h1,h2⟩,(R5 h1).2 ⟨h4,h5⟩⟩
theorem Fc9 (z:Zone) (l:List (List UInt8)) (h:∀x,x∈l↔Gv8 z x):setN l=namesN z:=
 Sd to_N _ _ (M9 _) (M9 _) fun x=>by rw [Kv,h,namesN,Kv,Ah4]
theorem As9 (z:Zone) (x:List UInt8):x∈namesN z↔Gv8 z x:=by
 unfold namesN;rw [Kv,Ah4]
end Go.X.G
/- Zones by the names of their records: groups of a sorted list, in plain words. -/
namespace Go.X.G
open Go Go.X
theorem Cz2 {α:Type} {lt:α→α→Prop}:∀(p q:List α),p<+:q→p≠q→lex lt p q
 |[],[],_,h=>absurd rfl h
 |[],_::_,_,_=>trivial
 |a::p,[],h,_=>by simp at h
 |a::p,b::q,h,hne=>by
  obtain ⟨rfl,hpq⟩:=L1.1 h
  exact .inr ⟨rfl,Cz2 p q hpq fun e=>hne (by rw [e])⟩
theorem Cz3 {α:Type} {lt:α→α→Prop} (ht:TO lt):∀(p q x:List α),p<+:q→¬lex lt x p→¬lex lt q x→p<+:x
 |[],_,_,_,_,_=>List.nil_prefix
 |a::p,[],_,h,_,_=>by simp at h
 |a::p,b::q,[],_,h,_=>absurd trivial h
 |a::p,b::q,c::x,h,h1,h2=>by
  obtain ⟨rfl,hpq⟩:=L1.1 h
  simp only [lex,not_or,not_and] at h1 h2
  have e:a=c:=by
   rcases ht.tri a c with k|k|k
   ·exact absurd k h2.1
   ·exact k
   ·exact absurd k h1.1
  subst e
  exact L1.2 ⟨rfl,Cz3 ht p q x hpq (h1.2 rfl) (h2.2 rfl)⟩
theorem Ht4 {a b:List UInt8} (ha:vld a=true) (hb:vld b=true):ltN a b↔ltL (lbl a).reverse (lbl b).reverse:=by
 unfold ltN;rw [if_pos ha,if_pos hb]
theorem ay {n top:List UInt8} (h:under n top=true):(lbl top).reverse<+:(lbl n).reverse:=List.reverse_prefix.2 (C9.1 h).2.2
theorem Ep8 {n top:List UInt8} (h:under n top=true) (hne:n≠top):ltN top n:=by
 obtain ⟨h1,h2,h3⟩:=C9.1 h
 rw [Ht4 h2 h1]
 refine Cz2 _ _ (ay h) fun e=>hne ?_
 exact (Tv h2 h1 (List.reverse_inj.1 e)).symm
theorem Bf7 {d x n:List UInt8} (hx:vld x=true) (h:under n d=true) (h1:¬ltN x d) (h2:¬ltN n x):under x d=true:=by
 obtain ⟨k1,k2,k3⟩:=C9.1 h
 rw [Ht4 hx k2] at h1
 rw [Ht4 k1 hx] at h2
 exact C9.2 ⟨hx,k2,List.reverse_prefix.1 (Cz3 Em9 _ _ _ (ay h) h1 h2)⟩
theorem Bb7 {a b c:List UInt8} (h1:under a b=true) (h2:under b c=true):under a c=true:=by
 obtain ⟨a1,a2,a3⟩:=C9.1 h1
 obtain ⟨b1,b2,b3⟩:=C9.1 h2
 exact C9.2 ⟨a1,b2,b3.trans a3⟩
def Ur (p:List Rec):List Rec→List (List Rec)
 |[]=>[]
 |x::r=>if (match r with|[]=>true|y::_=> !decide (y.name=x.name))=true then (p++[x])::Ur [] r else Ur (p++[x]) r
def grp (l:List Rec):List (List Rec):=Ur [] l
def nmG (g:List Rec):List UInt8:=match g with|[]=>[]|x::_=>x.name
theorem gw (n:List UInt8):∀(r p:List Rec) (x:Rec),x.name=n→(∀y∈p,y.name=n)→∃g l',x::r=g++l'∧g≠[]∧(∀y∈g,y.name=n)∧(∀y,l'.head? =some y→y.name≠n)∧Ur p (x::r)=(p++g)::grp l'
 |[],p,x,hx,hp=>⟨[x],[],rfl,by simp,by simpa using hx,by simp,rfl⟩
 |y::r,p,x,hx,hp=>by
  by_cases h:y.name=x.name
  ·obtain ⟨g,l',h1,h2,h3,h4,h5⟩:=gw n r (p++[x]) y (by rw [h,hx]) (fun w hw=>by
    rcases Br.1 hw with hw|hw
    ·exact hp w hw
    ·have:w=x:=by simpa using hw
     rw [this,hx])
   refine ⟨x::g,l',by rw [h1];rfl,by simp,fun w hw=> ?_,h4,?_⟩
   ·rcases Al.1 hw with rfl|hw
    ·exact hx
    ·exact h3 w hw
   ·rw [Ur,if_neg (by simp [h]),h5]
    simp
  ·refine ⟨[x],y::r,rfl,by simp,by simpa using hx,fun w hw=> ?_,?_⟩
   ·simp at hw;subst hw;rw [←hx];exact h
   ·rw [Ur,if_pos (by simp [h])]
    rfl
theorem Ry (x:Rec) (r:List Rec):∃g l',x::r=g++l'∧g≠[]∧(∀y∈g,y.name=x.name)∧(∀y,l'.head? =some y→y.name≠x.name)∧grp (x::r)=g::grp l':=by
 obtain ⟨g,l',h1,h2,h3,h4,h5⟩:=gw x.name r [] x rfl (by simp)
 exact ⟨g,l',h1,h2,h3,h4,by rw [grp,h5];rfl⟩
theorem Gj0 {g:List Rec} {n:List UInt8} (h:g≠[]) (h2:∀y∈g,y.name=n):nmG g=n:=by
 cases g with
 |nil=>exact absurd rfl h
 |cons x r=>exact h2 x (.head _)
abbrev Jz3 (l:List Rec):Prop:=l.Pairwise fun a b=>¬ltN b.name a.name
def F8 (g:List Rec) (t:Int):Bool:=g.any fun r=>decide (r.typ=t)
def I7 (g:List Rec) (ts:List Int):Bool:=g.all fun r=>decide (r.typ∈ts)
def U9 (p:Rec):List Rec→Bool
 |[]=>true
 |x::r=>(!decide (x.typ=p.typ)||(!(decide (x.typ=6)||decide (x.typ=5)||decide (x.typ=39)) && (decide (x.typ=46)||decide (x.ttl=p.ttl)))) && U9 x r
def Em8 (g:List Rec):Bool:=match g with|[]=>true|x::r=>U9 x r
def propG (o:List UInt8) (g:List Rec) (cut red:Bool):Bool:=
 under (nmG g) o && (decide (F8 g 6=decide (nmG g=o))) && Em8 g && (!decide (nmG g=o)||F8 g 2) && (!F8 g 5||I7 g [5,46,47]) && !red && (!cut||I7 g [1,28]) &&
  (if (!decide (nmG g=o) && F8 g 2)=true then I7 g [2,43,47,46,1,28] else !F8 g 43) && (!decide ((nmG g)[0]? =some 42)||(!F8 g 2 && !F8 g 39))
def Dn (n c:List UInt8):List UInt8:=if c≠[]∧under n c=false then [] else c
def oh (o:List UInt8):List (List Rec)→List UInt8→List UInt8→Bool→Bool
 |[],_,_,soa=>soa
 |g::gs,cut,red,soa=>
  if propG o g (decide (Dn (nmG g) cut≠[])) (decide (Dn (nmG g) red≠[]))=true then
   oh o gs (if Dn (nmG g) cut=[]∧nmG g≠o∧F8 g 2=true then nmG g else Dn (nmG g) cut) (if F8 g 39=true then nmG g else Dn (nmG g) red) (soa||decide (nmG g=o))
  else false
def Hp6 (z:Zone) (n:List UInt8):Bool:=z.recs.any fun r=>decide (r.typ=39) && Dt n r.name
def cr (z:Zone) (g:List Rec):Bool:=propG z.origin g (jh z (nmG g)) (Hp6 z (nmG g))
theorem j6 {n:List UInt8} (h:vld n=true):n≠[]:=fun e=>by
 subst e
 have:vld []=false:=by decide
 rw [this] at h;cases h
structure GInv (z:Zone) (done l:List Rec) (cut red:List UInt8):Prop where
 cut1:cut≠[]→∃r∈done,D4 z r=true∧r.name=cut
 cut2:∀m∈l,∀r∈done,D4 z r=true→under m.name r.name=true→cut≠[]∧under m.name cut=true
 red1:red≠[]→∃r∈done,r.typ=39∧r.name=red
 red2:∀m∈l,∀r∈done,r.typ=39→under m.name r.name=true→red≠[]∧under m.name red=true
theorem lm {o:List UInt8} {g:List Rec} {c r:Bool} (h:propG o g c r=true):under (nmG g) o=true∧r=false:=by
 unfold propG at h
 simp only [Av,A7] at h
 exact ⟨h.1.1.1.1.1.1.1.1,h.1.1.1.2⟩
theorem zk (z:Zone) (hv:∀r∈z.recs,vld r.name=true) (hs:Jz3 z.recs):∀(n:Nat) (done l:List Rec) (cut red:List UInt8) (soa:Bool),l.length≤n→z.recs=done++l→(∀a∈done,∀b∈l,ltN a.name b.name)→GInv z done l cut red→
  (oh z.origin (grp l) cut red soa=true↔(∀g∈grp l,cr z g=true)∧(soa=true∨∃r∈l,r.name=z.origin))
 |n,done,[],cut,red,soa,_,_,_,_=>by simp [grp,Ur,oh]
 |0,done,x::r,cut,red,soa,hn,_,_,_=>by simp at hn
 |n+1,done,x::r,cut,red,soa,hn,hz,hlt,hI=>by
  obtain ⟨g,l',h1,h2,h3,h4,h5⟩:=Ry x r
  have hnm:nmG g=x.name:=Gj0 h2 h3
  have hmem:∀y∈g,y∈x::r:=fun y hy=>by rw [h1];exact Cf _ hy
  have hmem':∀y∈l',y∈x::r:=fun y hy=>by rw [h1];exact Bh _ hy
  have hzx:∀y∈x::r,y∈z.recs:=fun y hy=>by rw [hz];exact Bh _ hy
  have hvx:vld x.name=true:=hv x (hzx x (.head _))
  have hgl:∀b∈l',ltN x.name b.name:=by
   have hs2:Jz3 (g++l'):=by
    rw [←h1];have:=hs;rw [hz] at this;exact (E5.1 this).2.1
   have hs3:=E5.1 hs2
   cases l' with
   |nil=>intro b hb;cases hb
   |cons y l''=>
    have hy:ltN x.name y.name:=by
     obtain ⟨w,hw⟩:=Fc g h2
     have k:=hs3.2.2 w hw y (.head _)
     rw [h3 w hw] at k
     rcases to_N.tri x.name y.name with q|q|q
     ·exact q
     ·exact absurd q.symm (h4 y rfl)
     ·exact absurd q k
    intro b hb
    rcases Al.1 hb with rfl|hb
    ·exact hy
    ·have k:=(As.1 hs3.2.1).1 b hb
     rcases to_N.tri y.name b.name with q|q|q
     ·exact to_N.tr _ _ _ hy q
     ·rw [←q];exact hy
     ·exact absurd q k
  have habove:∀w∈z.recs,under x.name w.name=true→x.name≠w.name→w∈done:=fun w hw hu hne=>by
   rw [hz] at hw
   rcases Br.1 hw with hw|hw
   ·exact hw
   ·exfalso
    have k:=Ep8 hu hne
    rw [h1] at hw
    rcases Br.1 hw with hw|hw
    ·exact hne (h3 w hw).symm
    ·exact to_N.asym k (hgl w hw)
  have hcut:decide (Dn x.name cut≠[])=jh z x.name:=by
   rw [Ch,decide_eq_true_eq]
   unfold jh Dn
   rw [B8]
   constructor
   ·intro k
    have c0:cut≠[]:=fun e=>by rw [e] at k;simp at k
    have c1:under x.name cut=true:=by
     rcases Ak (under x.name cut) with q|q
     ·exact q
     ·rw [if_pos ⟨c0,q⟩] at k;exact absurd rfl k
    obtain ⟨w,w1,w2,w3⟩:=hI.cut1 c0
    refine ⟨w,by rw [hz];exact Cf _ w1,?_⟩
    have:w.name≠x.name:=fun e=>to_N.irr _ (by have:=hlt w w1 x (.head _);rw [e] at this;exact this)
    rw [w2,w3]
    rw [w3] at this
    simp [this,c1]
   ·rintro ⟨w,w1,w2⟩
    simp only [Av,decide_eq_true_eq] at w2
    have wd:=habove w w1 w2.2 (fun e=>w2.1.2 e.symm)
    obtain ⟨c0,c1⟩:=hI.cut2 x (.head _) w wd w2.1.1 w2.2
    rw [if_neg (by simp [c1])]
    exact c0
  have hred:decide (Dn x.name red≠[])=Hp6 z x.name:=by
   rw [Ch,decide_eq_true_eq]
   unfold Hp6 Dn Dt
   rw [B8]
   constructor
   ·intro k
    have c0:red≠[]:=fun e=>by rw [e] at k;simp at k
    have c1:under x.name red=true:=by
     rcases Ak (under x.name red) with q|q
     ·exact q
     ·rw [if_pos ⟨c0,q⟩] at k;exact absurd rfl k
    obtain ⟨w,w1,w2,w3⟩:=hI.red1 c0
    refine ⟨w,by rw [hz];exact Cf _ w1,?_⟩
    have:x.name≠w.name:=fun e=>to_N.irr _ (by have:=hlt w w1 x (.head _);rw [e] at this;exact this)
    rw [w3] at this ⊢
    simp [this,c1,w2]
   ·rintro ⟨w,w1,w2⟩
    simp only [Av,decide_eq_true_eq] at w2
    have wd:=habove w w1 w2.2.2 w2.2.1
    obtain ⟨c0,c1⟩:=hI.red2 x (.head _) w wd w2.1 w2.2.2
    rw [if_neg (by simp [c1])]
    exact c0
  have hex:(∃w∈x::r,w.name=z.origin)↔(x.name=z.origin∨∃w∈l',w.name=z.origin):=by
   rw [h1]
   constructor
   ·rintro ⟨w,w1,w2⟩
    rcases Br.1 w1 with w1|w1
    ·exact .inl (by rw [←h3 w w1];exact w2)
    ·exact .inr ⟨w,w1,w2⟩
   ·rintro (k|⟨w,w1,w2⟩)
    ·obtain ⟨w,hw⟩:=Fc g h2
     exact ⟨w,Cf _ hw,by rw [h3 w hw];exact k⟩
    ·exact ⟨w,Bh _ w1,w2⟩
  rw [h5,hex]
  simp only [oh,hnm,Al,forall_eq_or_imp]
  have hp0:cr z g=propG z.origin g (jh z x.name) (Hp6 z x.name):=by unfold cr;rw [hnm]
  rw [hp0]
  rw [hcut,hred]
  by_cases hp:propG z.origin g (jh z x.name) (Hp6 z x.name)=true
  ·rw [if_pos hp]
   obtain ⟨pu,pr⟩:=lm hp
   rw [hnm] at pu
   have hlen:=congrArg List.length h1
   have hg0:0<g.length:=By.2 h2
   simp only [Az,A0] at hlen hn
   have hmid:∀m∈l',∀w∈done,under m.name w.name=true→under x.name w.name=true:=fun m hm w hw hu=>
    Bf7 hvx hu (fun k=>to_N.asym (hlt w hw x (.head _)) k) (fun k=>to_N.asym (hgl m hm) k)
   have hredE:Dn x.name red=[]:=by
    have:=hred;rw [pr] at this;simpa using this
   have ih:=zk z hv hs n (done++g) l' (if Dn x.name cut=[]∧x.name≠z.origin∧F8 g 2=true then x.name else Dn x.name cut) (if F8 g 39=true then x.name else Dn x.name red) (soa||decide (x.name=z.origin)) (by omega) (by rw [hz,h1,Ap])
    (fun a ha b hb=>by
     rcases Br.1 ha with ha|ha
     ·exact hlt a ha b (hmem' b hb)
     ·rw [h3 a ha];exact hgl b hb)
    ⟨?_,?_,?_,?_⟩
   ·rw [ih]
    simp only [Am,decide_eq_true_eq,hp,true_and]
    constructor
    ·rintro ⟨k1,(k2|k2)|k2⟩
     ·exact ⟨k1,.inl k2⟩
     ·exact ⟨k1,.inr (.inl k2)⟩
     ·exact ⟨k1,.inr (.inr k2)⟩
    ·rintro ⟨k1,k2|k2|k2⟩
     ·exact ⟨k1,.inl (.inl k2)⟩
     ·exact ⟨k1,.inl (.inr k2)⟩
     ·exact ⟨k1,.inr k2⟩
   ·-- the cut is one
    intro k
    by_cases c:Dn x.name cut=[]∧x.name≠z.origin∧F8 g 2=true
    ·rw [if_pos c]
     obtain ⟨w,w1,w2⟩:=B8.1 c.2.2
     simp only [decide_eq_true_eq] at w2
     refine ⟨w,Bh _ w1,?_,h3 w w1⟩
     unfold D4 Dt
     rw [h3 w w1]
     simp [w2,pu,c.2.1]
    ·rw [if_neg c] at k ⊢
     have c0:cut≠[]:=fun e=>by rw [e] at k;simp [Dn] at k
     have c1:Dn x.name cut=cut:=by
      unfold Dn at k ⊢
      by_cases q:cut≠[]∧under x.name cut=false
      ·rw [if_pos q] at k;exact absurd rfl k
      ·rw [if_neg q]
     rw [c1]
     obtain ⟨w,w1,w2⟩:=hI.cut1 c0
     exact ⟨w,Cf _ w1,w2⟩
   ·intro m hm w hw hc hu
    rcases Br.1 hw with hw|hw
    ·have hxu:=hmid m hm w hw hu
     obtain ⟨c0,c1⟩:=hI.cut2 x (.head _) w hw hc hxu
     obtain ⟨_,c2⟩:=hI.cut2 m (hmem' m hm) w hw hc hu
     have c3:Dn x.name cut=cut:=by unfold Dn;rw [if_neg (by simp [c1])]
     rw [c3,if_neg (by simp [c0])]
     exact ⟨c0,c2⟩
    ·rw [h3 w hw] at hu
     have hc':=hc
     unfold D4 Dt at hc'
     rw [h3 w hw] at hc'
     simp only [Av,decide_eq_true_eq] at hc'
     have hns:F8 g 2=true:=B8.2 ⟨w,hw,by simp [hc'.1]⟩
     by_cases c:Dn x.name cut=[]
     ·rw [if_pos ⟨c,hc'.2.1,hns⟩]
      exact ⟨j6 hvx,hu⟩
     ·rw [if_neg (by simp [c])]
      have q:¬(cut≠[]∧under x.name cut=false):=fun q=>c (by unfold Dn;rw [if_pos q])
      have c1:Dn x.name cut=cut:=by unfold Dn;rw [if_neg q]
      rw [c1] at c ⊢
      have c2:under x.name cut=true:=by
       rcases Ak (under x.name cut) with k|k
       ·exact k
       ·exact absurd ⟨c,k⟩ q
      exact ⟨c,Bb7 hu c2⟩
   ·intro k
    rw [hredE] at k ⊢
    by_cases c:F8 g 39=true
    ·rw [if_pos c]
     obtain ⟨w,w1,w2⟩:=B8.1 c
     simp only [decide_eq_true_eq] at w2
     exact ⟨w,Bh _ w1,w2,h3 w w1⟩
    ·rw [if_neg c] at k;exact absurd rfl k
   ·intro m hm w hw hc hu
    rcases Br.1 hw with hw|hw
    ·exfalso
     have hxu:=hmid m hm w hw hu
     obtain ⟨c0,c1⟩:=hI.red2 x (.head _) w hw hc hxu
     have:Dn x.name red=red:=by unfold Dn;rw [if_neg (by simp [c1])]
     rw [this] at hredE
     exact c0 hredE
    ·rw [h3 w hw] at hu
     have hd:F8 g 39=true:=B8.2 ⟨w,hw,by simp [hc]⟩
     rw [if_pos hd]
     exact ⟨j6 hvx,hu⟩
  ·rw [if_neg hp]
   simp [hp]
end Go.X.G
