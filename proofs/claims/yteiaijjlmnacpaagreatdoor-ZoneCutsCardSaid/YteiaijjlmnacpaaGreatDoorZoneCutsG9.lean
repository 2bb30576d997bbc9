/- Names: what the reference's functions give. -/
import Derived.Test.YteiaijjlmnacpaaGreatDoorZoneCutsG7
import Derived.Test.YteiaijjlmnacpaaGreatDoorZoneCutsG8
open Bool renaming eq_false_or_eq_true→Ak,and_eq_true→Av,false_eq_true→Ab,or_eq_true→An,not_eq_true'→A9,eq_iff_iff→Cn,not_true→Km,false_or→Kn,and_true→Pm,true_and→Jx2
open Classical renaming not_not→N5
open List renaming getElem?_eq_some_iff→Aq,getElem?_eq_getElem→Ax,length_append→Az,mem_cons→Ag,mem_of_getElem?→Am,append_assoc→Ap,pairwise_cons→As,length_cons→A0,length_pos_iff→Bv,all_eq_true→By,length_nil→Bc,getD_eq_getElem?_getD→Bd,getElem?_map→Bh,take_append_drop→Bl,drop_eq_getElem_cons→Bp,length_drop→Bt,mem_filter→B0,cons_append→B3,take_add_one→B6,getElem?_cons_zero→B9,any_eq_true→Cj,nil_append→Cv,getElem?_range→Cy,take_length→C2,drop_drop→C8,getElem?_cons_succ→Dk,drop_zero→Dy,length_map→Dt,mem_map→D4,mem_range→E9,drop_eq_nil_of_le→Fc,flatMap_cons→Fp,mem_cons_self→Gy,suffix_iff_eq_drop→Gc,drop_append_of_le_length→Ir,getLast_eq_getElem→Jk,isSuffixOf_iff_suffix→K9,cons_prefix_cons→Mk,append_cancel_right→Pl,length_mergeSort→lw,count_eq_zero→Kr6
open Nat renaming le_refl→Ac,zero_le→Cg
open Option renaming map_eq_some_iff→Aw,map_some→A5
set_option maxHeartbeats 1000000
set_option linter.unusedVariables false
set_option linter.unusedSimpArgs false
namespace Go.X.G
open Go Go.X
def O2 (c:UInt8):Bool:=decide (97≤(c.toNat:Int)) && decide ((c.toNat:Int)≤122)||decide (48≤(c.toNat:Int)) && decide ((c.toNat:Int)≤57)||decide ((c.toNat:Int)=45)||decide ((c.toNat:Int)=95)
theorem By2 (c:UInt8):(decide (97≤(c.toNat:Int)) && decide ((c.toNat:Int)≤122)||decide (48≤(c.toNat:Int)) && decide ((c.toNat:Int)≤57)||decide ((c.toNat:Int)=45)||decide ((c.toNat:Int)=95))=O2 c:=rfl
def Ib (s:List UInt8):Bool:=decide (s=[42])||(decide (1≤s.length) && decide (s.length≤63) && s.all O2)
theorem By7 (s:List UInt8) (N:Nat) (hN:s.length<N) (hs:s.length≤4294967296):
  Cn0.ev S N [.s s]=some (if s.all O2=true then .yld 0 [] else .ret [.b false]):=by
 refine Dq s (fun i=>[.i .i64 (i:Int)]) (fun i r=>if r.all O2=true then .yld 0 [] else .ret [.b false]) rfl hN (fun i c r hd hi hc=> ?_) ?_
 ·simp (disch:=omega) only [Bm2,xe,↓reduceIte,EV,Nat.reduceAdd,Nat.reduceEqDiff,Int.reduceToNat,reduceCtorEq,hc,By2]
  cases h:O2 c<;>simp [h,Out.goes]
 ·simp (disch:=omega) [Bm2,xe,↓reduceIte,EV,Nat.reduceAdd,Nat.reduceEqDiff,Int.reduceToNat,reduceCtorEq,Out.goes]
theorem By6 (s:List UInt8) (hs:s.length≤4294967296):S f8 1 [.s s]=some [.b (Ib s)]:=by
 refine Jn4 (N:=s.length+1) rfl ?_
 simp (disch:=omega) only [Bm2,By7,xe,↓reduceIte,EV,Nat.reduceAdd,Nat.reduceEqDiff,Int.reduceToNat,reduceCtorEq]
 unfold Ib
 grind
end Go.X.G
/- Names: what the reference's functions give. -/
namespace Go.X.G
open Go Go.X
def spl (first:Bool) (cur:List UInt8):List UInt8→Option (List (List UInt8))
 |[]=>some []
 |c::r=>if c=46 then (if Ib cur=true∧(cur=[42]→first=true) then (spl false [] r).map (cur::·) else none) else spl first (cur++[c]) r
def nm (n:List UInt8):Option (List (List UInt8)):=
 if n=[46] then some [] else if 2≤n.length∧n.length≤254∧n[n.length - 1]? =some 46 then spl true [] n else none
def lbl (n:List UInt8):List (List UInt8):=(nm n).getD []
def vld (n:List UInt8):Bool:=(nm n).isSome
theorem Iy7 {α:Type} (n:List α) (i j:Nat) (c:α) (h:n[i]? =some c) (hj:j≤i):(n.take (i+1)).drop j=(n.take i).drop j++[c]:=by
 have hi:i<n.length:=(Aq.1 h).1
 rw [B6,h,Ir (by simp;omega)];rfl
theorem Iy8 {α:Type} (n:List α) (i:Nat):(n.take i).drop i=[]:=by
 rw [List.drop_eq_nil_iff];simp;omega
def V1 (l:List (List UInt8)):Option (List (List UInt8))→Out
 |some ls=> .yld 0 [.l 1 ((l++ls).map .s)]
 |none=> .ret [.l 1 [],.b false]
theorem Fg4 (n:List UInt8) (N:Nat) (hN:n.length<N) (hs:n.length≤1000):
  Gb0.ev S N [.s n]=some (V1 [] (spl true [] n)):=by
 refine En n (fun i (g:List (List UInt8)×Nat)=>[.l 1 (g.1.map .s),.i .i64 (g.2:Int),.i .i64 (i:Int)]) (fun i g r=>V1 g.1 (spl (decide (g.2=0)) ((n.take i).drop g.2) r)) (fun i g=>g.1.length≤i∧g.2≤i) ([],0) rfl ⟨Ac _,Ac _⟩ hN (fun i g c r hd hi hc hI=> ?_) (fun g hI=> ?_)
 ·obtain ⟨l,st⟩:=g
  obtain ⟨h1,h2⟩:=hI
  simp only at h1 h2 ⊢
  have hl:((n.take i).drop st).length≤4294967296:=by simp;omega
  have hm:(l.map PV.s).length=l.length:=Dt ..
  have hd':=Iy0 c 46 (by omega)
  by_cases hdot:c=46
  ·have hdi:=hd'.2 hdot
   simp (disch:=omega) only [bv,xe,↓reduceIte,EV,Nat.reduceAdd,Nat.reduceEqDiff,Int.reduceToNat,reduceCtorEq,hc,By6]
   simp only [spl,if_pos hdot]
   by_cases h:Ib ((n.take i).drop st)=true∧((n.take i).drop st=[42]→st=0)
   ·obtain ⟨h3,h4⟩:=h
    left
    refine ⟨(l++[(n.take i).drop st],i+1),?_,?_,?_⟩
    ·rw [if_neg (by simp only [h3];intro h;simp at h;have:=h4 h.1;omega)]
     simp
    ·simp;omega
    ·simp only [Iy8]
     rw [if_pos ⟨h3,by simpa using h4⟩]
     cases h9:spl false [] r<;>simp [h9,V1]
   ·right
    have h':¬(Ib ((n.take i).drop st)=true∧((n.take i).drop st=[42]→decide (st=0)=true)):=by simpa using h
    rw [if_neg h']
    refine ⟨?_,rfl⟩
    rw [if_pos]
    ·rfl
    ·cases h5:Ib ((n.take i).drop st)
     ·simp
     ·simp only [h5,true_and] at h
      have ⟨h6,h7⟩:=Classical.not_imp.1 h
      simp [h6];omega
  ·have hdi:¬(c.toNat:Int)=46:=fun h=>hdot (hd'.1 h)
   left
   refine ⟨(l,st),?_,?_,?_⟩
   ·simp (disch:=omega) only [bv,xe,↓reduceIte,EV,Nat.reduceAdd,Nat.reduceEqDiff,Int.reduceToNat,reduceCtorEq,hc]
   ·simp only;omega
   ·simp only [spl];rw [if_neg hdot,Iy7 n i st c hc h2]
 ·simp (disch:=omega) [bv,xe,↓reduceIte,EV,Nat.reduceAdd,Nat.reduceEqDiff,Int.reduceToNat,reduceCtorEq,Out.goes,spl,V1]
theorem split_ok (n:List UInt8) (hs:n.length≤9223372036854775807):S Tq 1 [.s n]=some [Bq (lbl n),.b (vld n)]:=by
 refine Lv8 (N:=n.length+1) rfl ?_
 unfold Bq lbl vld nm
 by_cases h1:n=[46]
 ·simp (disch:=omega) [bv,xe,↓reduceIte,EV,Nat.reduceAdd,Nat.reduceEqDiff,Int.reduceToNat,reduceCtorEq,h1]
 ·rw [if_neg h1]
  by_cases h2:n.length<2
  ·simp (disch:=omega) only [bv,xe,↓reduceIte,EV,Nat.reduceAdd,Nat.reduceEqDiff,Int.reduceToNat,reduceCtorEq,h1]
   have h3:¬(2≤n.length∧n.length≤254∧n[n.length - 1]? =some 46):=by omega
   rw [if_neg h3];rfl
  ·by_cases h3:254<n.length
   ·simp (disch:=omega) only [bv,xe,↓reduceIte,EV,Nat.reduceAdd,Nat.reduceEqDiff,Int.reduceToNat,reduceCtorEq,h1]
    have h3:¬(2≤n.length∧n.length≤254∧n[n.length - 1]? =some 46):=by omega
    rw [if_neg h3];rfl
   ·have h4:=Ax (l:=n) (i:=n.length - 1) (by omega)
    have h5:((n.length:Int) - 1).toNat=n.length - 1:=by omega
    have h6:=Iy0 (n[n.length - 1]'(by omega)) 46 (by omega)
    simp (disch:=omega) only [bv,xe,↓reduceIte,EV,Nat.reduceAdd,Nat.reduceEqDiff,Int.reduceToNat,reduceCtorEq,h1,h4,h5,Fg4]
    by_cases h7:n[n.length - 1]'(by omega)=46
    ·rw [if_pos (show 2≤n.length∧n.length≤254∧some (n[n.length - 1]'(by omega))=some 46 from ⟨by omega,by omega,by rw [h7]⟩),if_neg (fun h=>h (h6.2 h7))]
     cases h8:spl true [] n
     ·simp [V1,Et2]
     ·simp (disch:=omega) [bv,V1,xe,↓reduceIte,EV,Nat.reduceAdd,Nat.reduceEqDiff,Int.reduceToNat,reduceCtorEq]
    ·rw [if_neg (show¬(2≤n.length∧n.length≤254∧some (n[n.length - 1]'(by omega))=some 46) from fun h=>h7 (by simpa using h.2.2)),if_pos (show (((n[n.length - 1]'(by omega)).toNat:Int)≠46) from fun h=>h7 (h6.1 h))]
     rfl
end Go.X.G
/- Names: what the reference's functions give, ctd. -/
namespace Go.X.G
open Go Go.X
theorem mz:∀(r:List UInt8) (f:Bool) (cur:List UInt8) (l:List (List UInt8)),spl f cur r=some l→l.length≤r.length
 |[],f,cur,l,h=>by simp [spl] at h;simp [←h]
 |c::r,f,cur,l,h=>by
  simp only [spl] at h
  split at h
  ·split at h
   ·obtain ⟨m,hm,rfl⟩:=Aw.1 h
    have:=mz r _ _ _ hm
    simp;omega
   ·cases h
  ·have:=mz r _ _ _ h
   simp;omega
theorem Kk1 {n:List UInt8} {l:List (List UInt8)} (h:nm n=some l):l.length≤254:=by
 unfold nm at h
 split at h
 ·injection h with h;subst h;simp
 ·split at h
  ·rename_i h2
   have:=mz _ _ _ _ h;omega
  ·cases h
theorem Gz (n:List UInt8):(lbl n).length≤254:=by
 unfold lbl
 cases h:nm n with
 |none=>simp
 |some l=>exact Kk1 h
theorem Fg (n:List UInt8) (hs:n.length≤9223372036854775807):S ep 1 [.s n]=some [.b (vld n)]:=by
 refine Lz7 (N:=1) rfl ?_
 simp (disch:=omega) only [Kt6,split_ok,xe,EVP,↓reduceIte,EV,Nat.reduceAdd,Nat.reduceEqDiff,Int.reduceToNat,reduceCtorEq]
theorem Hc (n:List UInt8) (hs:n.length≤9223372036854775807):S Vq 1 [.s n]=some [Bq (lbl n)]:=by
 refine Ly4 (N:=1) rfl ?_
 simp (disch:=omega) only [Ks9,split_ok,xe,EVP,↓reduceIte,EV,Nat.reduceAdd,Nat.reduceEqDiff,Int.reduceToNat,reduceCtorEq]
def R6 {α:Type} [DecidableEq α]:List α→List α→Nat
 |x::xs,y::ys=>if x=y then R6 xs ys+1 else 0
 |_,_=>0
def Jm (a b:List (List UInt8)):Nat:=R6 a.reverse b.reverse
theorem Ct7 {α:Type} [DecidableEq α]:∀(a b:List α),R6 a b≤a.length∧R6 a b≤b.length
 |[],b=>by simp [R6]
 |x::xs,[]=>by simp [R6]
 |x::xs,y::ys=>by
  have:=Ct7 xs ys
  simp only [R6]
  split<;>simp<;>omega
theorem Fh2 (a b:List (List UInt8)):Jm a b≤a.length∧Jm a b≤b.length:=by
 have:=Ct7 a.reverse b.reverse
 simpa [Jm] using this
theorem Ib6 (a b:List (List UInt8)) (N:Nat) (hN:a.length<N) (ha:a.length≤1000000) (hb:b.length≤1000000):
  oc.ev S N [Bq a,Bq b]=some (.yld 0 [.i .i64 (Jm a b:Int)]):=by
 have key:=I1 (fn:=S) (N:=N) (η:=[Bq a,Bq b]) (id:=1) (init:=[(.c (.i .i64 (0)))]) (body:=td) (α:=Nat) (fun k=>[.i .i64 (k:Int)]) (fun k=> .yld 0 [.i .i64 ((k+R6 (a.reverse.drop k) (b.reverse.drop k):Nat):Int)]) (fun k=>k≤a.length∧k≤b.length) (fun k=>a.length - k) 0 rfl ⟨Cg _,Cg _⟩ (by omega) ?_
 ·simpa [Jm,oc] using key
 ·rintro k ⟨h1,h2⟩
  by_cases h3:k<a.length
  ·by_cases h4:k<b.length
   ·have e1:((a.length:Int) - 1 - k).toNat=a.length - 1 - k:=by omega
    have e2:((b.length:Int) - 1 - k).toNat=b.length - 1 - k:=by omega
    have g1:a[a.length - 1 - k]? =some (a[a.length - 1 - k]'(by omega)):=Ax (by omega)
    have g2:b[b.length - 1 - k]? =some (b[b.length - 1 - k]'(by omega)):=Ax (by omega)
    have d1:a.reverse.drop k=(a[a.length - 1 - k]'(by omega))::a.reverse.drop (k+1):=by
     rw [Bp (by simpa using h3)];simp
    have d2:b.reverse.drop k=(b[b.length - 1 - k]'(by omega))::b.reverse.drop (k+1):=by
     rw [Bp (by simpa using h4)];simp
    simp (disch:=omega) only [u5,xe,EVP,↓reduceIte,EV,Nat.reduceAdd,Nat.reduceEqDiff,Int.reduceToNat,reduceCtorEq,e1,e2,g1,g2]
    rw [d1,d2]
    simp only [R6]
    by_cases h:a[a.length - 1 - k]'(by omega)=b[b.length - 1 - k]'(by omega)
    ·left
     refine ⟨k+1,by simp [h],⟨by omega,by omega⟩,by omega,?_⟩
     rw [if_pos h]
     congr 3
     push_cast
     omega
    ·right
     simp [h,Out.goes]
   ·right
    have d2:b.reverse.drop k=[]:=Fc (by simp;omega)
    have z:R6 (a.reverse.drop k) []=0:=by cases a.reverse.drop k<;>rfl
    rw [d2,z]
    simp (disch:=omega) [u5,xe,EVP,↓reduceIte,EV,Nat.reduceAdd,Nat.reduceEqDiff,Int.reduceToNat,reduceCtorEq,Out.goes]
  ·right
   have d1:a.reverse.drop k=[]:=Fc (by simp;omega)
   have z:R6 [] (b.reverse.drop k)=0:=rfl
   rw [d1,z]
   simp (disch:=omega) [u5,xe,EVP,↓reduceIte,EV,Nat.reduceAdd,Nat.reduceEqDiff,Int.reduceToNat,reduceCtorEq,Out.goes]
theorem md (a b:List (List UInt8)) (ha:a.length≤1000000) (hb:b.length≤1000000):S Wt 2 [Bq a,Bq b]=some [.i .i64 (Jm a b:Int)]:=by
 refine Js0 (N:=a.length+1) rfl ?_
 simp (disch:=omega) only [u5,Ib6,xe,EVP,↓reduceIte,EV,Nat.reduceAdd,Nat.reduceEqDiff,Int.reduceToNat,reduceCtorEq]
def under (n top:List UInt8):Bool:=vld n && vld top && decide (Jm (lbl n) (lbl top)=(lbl top).length)
theorem Hk (n top:List UInt8) (hn:n.length≤9223372036854775807) (ht:top.length≤9223372036854775807):S Y4 2 [.s n,.s top]=some [.b (under n top)]:=by
 refine Lz3 (N:=1) rfl ?_
 have h1:=Gz n
 have h2:=Gz top
 unfold under
 cases h3:vld n<;>cases h4:vld top<;>simp (disch:=omega) only [Kt3,split_ok,md,h3,h4,xe,EVP,↓reduceIte,EV,Nat.reduceAdd,Nat.reduceEqDiff,Int.reduceToNat,reduceCtorEq]
 all_goals (simp;try omega)
def cmpS (a b:List UInt8):Int:=if Op.bytesLess a b then -1 else if a=b then 0 else 1
theorem Ox (a b:List UInt8):S Wd 2 [.s a,.s b]=some [.i .i64 (cmpS a b)]:=by
 refine Jm5 (N:=1) rfl ?_
 unfold cmpS
 simp (disch:=omega) only [Jy6,xe,EVP,↓reduceIte,EV,Nat.reduceAdd,Nat.reduceEqDiff,Int.reduceToNat,reduceCtorEq]
 cases h:Op.bytesLess a b
 ·by_cases h2:a=b<;>simp [h2]
 ·simp
def Iw (a b:List UInt8):Int:=
 if vld a && vld b then
  let k:=Jm (lbl a) (lbl b)
  if k<(lbl a).length∧k<(lbl b).length then cmpS ((lbl a).getD ((lbl a).length - 1 - k) []) ((lbl b).getD ((lbl b).length - 1 - k) [])
  else if (lbl a).length<(lbl b).length then -1 else if (lbl b).length<(lbl a).length then 1 else 0
 else if vld a then -1 else if vld b then 1 else cmpS a b
theorem U1 (a b:List UInt8) (hn:a.length≤9223372036854775807) (ht:b.length≤9223372036854775807):S Wr 2 [.s a,.s b]=some [.i .i64 (Iw a b)]:=by
 refine Jr4 (N:=1) rfl ?_
 have h1:=Gz a
 have h2:=Gz b
 have h5:=Fh2 (lbl a) (lbl b)
 unfold Iw
 cases h3:vld a<;>cases h4:vld b
 ·simp (disch:=omega) [bl,split_ok,Ox,h3,h4,xe,EVP,↓reduceIte,EV,Nat.reduceAdd,Nat.reduceEqDiff,Int.reduceToNat,reduceCtorEq]
 ·simp (disch:=omega) [bl,split_ok,Ox,h3,h4,xe,EVP,↓reduceIte,EV,Nat.reduceAdd,Nat.reduceEqDiff,Int.reduceToNat,reduceCtorEq]
 ·simp (disch:=omega) [bl,split_ok,Ox,h3,h4,xe,EVP,↓reduceIte,EV,Nat.reduceAdd,Nat.reduceEqDiff,Int.reduceToNat,reduceCtorEq]
 ·by_cases h6:Jm (lbl a) (lbl b)<(lbl a).length∧Jm (lbl a) (lbl b)<(lbl b).length
  ·obtain ⟨h7,h8⟩:=h6
   have e1:(((lbl a).length:Int) - 1 - (Jm (lbl a) (lbl b):Int)).toNat=(lbl a).length - 1 - Jm (lbl a) (lbl b):=by omega
   have e2:(((lbl b).length:Int) - 1 - (Jm (lbl a) (lbl b):Int)).toNat=(lbl b).length - 1 - Jm (lbl a) (lbl b):=by omega
   have g1:=Ax (l:=lbl a) (i:=(lbl a).length - 1 - Jm (lbl a) (lbl b)) (by omega)
   have g2:=Ax (l:=lbl b) (i:=(lbl b).length - 1 - Jm (lbl a) (lbl b)) (by omega)
   simp (disch:=omega) only [bl,split_ok,md,Ox,h3,h4,e1,e2,g1,g2,xe,EVP,↓reduceIte,EV,Nat.reduceAdd,Nat.reduceEqDiff,Int.reduceToNat,reduceCtorEq]
   simp [h7,h8,g1,g2]
  ·simp (disch:=omega) only [bl,split_ok,md,Ox,h3,h4,xe,EVP,↓reduceIte,EV,Nat.reduceAdd,Nat.reduceEqDiff,Int.reduceToNat,reduceCtorEq]
   simp only [h6]
   grind
end Go.X.G
/- The library's functions on strings. -/
namespace Go.X.G
open Go Go.X
theorem Ip4 (x:List UInt8) (c:UInt8):S zy 2 [.s x,.i .u8 (c.toNat:Int)]=some [.i .i64 (x.count c:Int)]:=
 Jh4 (args:=[.s x,.i .u8 (c.toNat:Int)]) (by simp [XK.run,At0,Lib.countByte])
theorem Ih3 (x:List UInt8) (c:UInt8):S zf 2 [.s x,.i .u8 (c.toNat:Int)]=some [.i .i64 (Lib.indexByte x c)]:=
 Jm4 (args:=[.s x,.i .u8 (c.toNat:Int)]) (by simp [XK.run,At0])
theorem Ip6 (x y:List UInt8):S zd 2 [.s x,.s y]=some [.i .i64 (Lib.compareBytes x y)]:=
 Jl4 (args:=[.s x,.s y]) (by simp [XK.run,Fh3])
theorem Pb (x:List UInt8) (c:UInt8):S Wp 2 [.s x,.i .u8 (c.toNat:Int)]=some [.i .i64 (Lib.indexByte x c)]:=by
 refine Jr1 (N:=1) rfl ?_
 simp (disch:=omega) only [Jz9,Ih3,xe,EVP,↓reduceIte,EV,Nat.reduceAdd,Nat.reduceEqDiff,Int.reduceToNat,reduceCtorEq]
theorem kz (x:List UInt8) (c:UInt8):S Cb1 2 [.s x,.i .u8 (c.toNat:Int)]=some [.i .i64 (Lib.indexByte x c)]:=by
 refine Lx4 (N:=1) rfl ?_
 simp (disch:=omega) only [Ks5,Pb,xe,EVP,↓reduceIte,EV,Nat.reduceAdd,Nat.reduceEqDiff,Int.reduceToNat,reduceCtorEq]
theorem M8 (c:UInt8):∀(x:List UInt8),c∉x→Lib.indexByte x c= -1
 |[],_=>rfl
 |b::l,h=>by
  have h1:b≠c:=fun e=>h (by simp [e])
  have h2:=M8 c l (fun e=>h (by simp [e]))
  simp [Lib.indexByte,h1,h2]
theorem Jr (c:UInt8) (post:List UInt8):∀(pre:List UInt8),c∉pre→Lib.indexByte (pre++c::post) c=(pre.length:Int)
 |[],_=>by simp [Lib.indexByte]
 |b::l,h=>by
  have h1:b≠c:=fun e=>h (by simp [e])
  have h2:=Jr c post l (fun e=>h (by simp [e]))
  simp only [B3,Lib.indexByte,h2]
  simp [h1]
  try omega
theorem dot_split (c:UInt8):∀(s:List UInt8),c∉s∨∃pre post,s=pre++c::post∧c∉pre
 |[]=> .inl (by simp)
 |b::l=>by
  by_cases h:b=c
  ·exact .inr ⟨[],l,by simp [h],by simp⟩
  ·rcases dot_split c l with h1|⟨pre,post,rfl,h2⟩
   ·exact .inl (by simp [h1,Ne.symm h])
   ·exact .inr ⟨b::pre,post,by simp,by simp [h2,Ne.symm h]⟩
def pcs (cur:List UInt8):List UInt8→List (List UInt8)
 |[]=>[cur]
 |c::r=>if c=46 then cur::pcs [] r else pcs (cur++[c]) r
def cut (s:List UInt8):List (List UInt8):=pcs [] s
theorem Cy6 (post:List UInt8):∀(pre cur:List UInt8),(46:UInt8)∉pre→pcs cur (pre++46::post)=(cur++pre)::pcs [] post
 |[],cur,_=>by simp [pcs]
 |b::l,cur,h=>by
  have h1:b≠46:=fun e=>h (by simp [e])
  have h2:=Cy6 post l (cur++[b]) (fun e=>h (by simp [e]))
  simp [pcs,h1,h2]
theorem Yh:∀(s cur:List UInt8),(46:UInt8)∉s→pcs cur s=[cur++s]
 |[],cur,_=>by simp [pcs]
 |b::l,cur,h=>by
  have h1:b≠46:=fun e=>h (by simp [e])
  have h2:=Yh l (cur++[b]) (fun e=>h (by simp [e]))
  simp [pcs,h1,h2]
theorem Ct4 (s:List UInt8):(cut s).length=s.count 46+1:=by
 have:∀(s cur:List UInt8),(pcs cur s).length=s.count 46+1:=by
  intro s
  induction s with
  |nil=>intro cur;rfl
  |cons c r ih=>
   intro cur
   by_cases h:c=46<;>simp [pcs,h,ih]
 exact this s []
theorem Bf7 (s:List UInt8) (hs:s.length≤9223372036854775807):S fx 2 [.s s,.s [46]]=some [.i .i64 (Lib.indexByte s 46)]:=by
 refine Jh3 (N:=1) rfl ?_
 have h1:=Pb s 46
 have e:(((46:UInt8).toNat:Nat):Int)=46:=rfl
 rw [e] at h1
 by_cases h:[46]=s
 ·subst h
  simp (disch:=omega) only [Gv8,xe,EVP,↓reduceIte,EV,Nat.reduceAdd,Nat.reduceEqDiff,Int.reduceToNat,reduceCtorEq]
  rfl
 ·simp (disch:=omega) only [Gv8,h,h1,e,xe,EVP,↓reduceIte,EV,Nat.reduceAdd,Nat.reduceEqDiff,Int.reduceToNat,reduceCtorEq]
theorem ky (s:List UInt8) (hs:s.length≤9223372036854775807):S Wx 2 [.s s,.s [46]]=some [.i .i64 (Lib.indexByte s 46)]:=by
 refine Jl8 (N:=1) rfl ?_
 simp (disch:=omega) only [Jy3,Bf7,xe,EVP,↓reduceIte,EV,Nat.reduceAdd,Nat.reduceEqDiff,Int.reduceToNat,reduceCtorEq]
theorem Fj7 (s:List UInt8):S fm 2 [.s s,.s [46]]=some [.i .i64 (s.count 46:Int)]:=by
 refine Jl9 (N:=1) rfl ?_
 have h1:=Ip4 s 46
 have e:(((46:UInt8).toNat:Nat):Int)=46:=rfl
 rw [e] at h1
 simp (disch:=omega) only [Jy4,h1,e,xe,EVP,↓reduceIte,EV,Nat.reduceAdd,Nat.reduceEqDiff,Int.reduceToNat,reduceCtorEq]
def Cr1 (done rest:List (List UInt8)):Out:=
 .yld 0 [.s ((done++rest).getLastD []),Bq ((done++rest).dropLast++[[]]),.i .i64 (((done++rest).length:Int) - 1)]
theorem o3 (s:List UInt8) (N:Nat) (hN:s.length<N) (hs:s.length≤1000000) (p q:PV):
  oz.ev S N [.s s,.s [46],.i .i64 0,p,.i .i64 ((s.count 46:Int)+1)]=some (Cr1 [] (cut s)):=by
 have hc0:s.count 46≤s.length:=List.count_le_length
 have key:=I1 (fn:=S) (N:=N) (η:=[.s s,.s [46],.i .i64 0,p,.i .i64 ((s.count 46:Int)+1)]) (id:=1) (init:=[(.v 0),(.rep 1 (.mn (.v 4) (.bin .add (.slen (.v 0)) (.c (.i .i64 (1))))) (.c (.s []))),(.c (.i .i64 (0)))]) (body:=tx) (α:=List (List UInt8)×List UInt8)
  (fun a=>[.s a.2,Bq (a.1++List.replicate (a.2.count 46+1) []),.i .i64 (a.1.length:Int)]) (fun a=>Cr1 a.1 (cut a.2)) (fun a=>a.1.length+a.2.count 46=s.count 46∧a.2.length≤s.length) (fun a=>a.2.length) ([],s) ?_ ⟨by simp,Ac _⟩ hN ?_
 ·simpa [oz] using key
 ·have e:((s.count 46:Int)+1).toNat=s.count 46+1:=by omega
  simp (disch:=omega) only [e,xe,EVP,↓reduceIte,EV,Nat.reduceAdd,Nat.reduceEqDiff,Int.reduceToNat,reduceCtorEq]
 ·rintro ⟨done,rest⟩ ⟨h1,h2⟩
  simp only at h1 h2 ⊢
  rcases dot_split 46 rest with h|⟨pre,post,rfl,h⟩
  ·right
   have c0:rest.count 46=0:=Kr6.2 h
   have i0:=M8 46 rest h
   have cu:cut rest=[rest]:=by simpa [cut] using Yh rest [] h
   refine ⟨?_,rfl⟩
   rw [c0]
   rw [c0] at h1
   simp (disch:=omega) only [Bm5,ky,i0,xe,EVP,↓reduceIte,EV,Nat.reduceAdd,Nat.reduceEqDiff,Int.reduceToNat,reduceCtorEq]
   simp [Cr1,cu,List.getLastD_eq_getLast?]
  ·left
   have c0:(pre++46::post).count 46=post.count 46+1:=by
    rw [List.count_append,Kr6.2 h];simp
   have i0:=Jr 46 post pre h
   have cu:cut (pre++46::post)=pre::cut post:=by simpa [cut] using Cy6 post pre [] h
   have hl:(pre++46::post).length=pre.length+post.length+1:=by simp;omega
   have sl1:List.drop (0:Int).toNat (List.take ((pre.length:Int)+0).toNat (pre++46::post))=pre:=by
    simp
   have sl2:List.drop ((pre.length:Int)+1).toNat (List.take (pre++46::post).length (pre++46::post))=post:=by
    have:((pre.length:Int)+1).toNat=pre.length+1:=by omega
    rw [this,C2,List.drop_append]
    simp
   have sl3:(done++[]::[]::List.replicate (post.count 46) ([]:List UInt8)).length=done.length+post.count 46+2:=by simp;omega
   refine ⟨(done++[pre],post),?_,⟨by simp;omega,by simp only;omega⟩,by simp;omega,by simp [Cr1,cu]⟩
   rw [c0]
   rw [c0] at h1
   simp (disch:=omega) only [Bm5,ky,i0,sl1,sl2,xe,EVP,↓reduceIte,EV,Nat.reduceAdd,Nat.reduceEqDiff,Int.reduceToNat,reduceCtorEq]
   simp [List.replicate_succ,List.set_append]
theorem o2 (s:List UInt8) (hs:s.length≤1000000):S gq 4 [.s s,.s [46],.i .i64 0,.i .i64 (-1)]=some [Bq (cut s)]:=by
 refine Jp4 (N:=s.length+1) rfl ?_
 have h1:=Ct4 s
 have h2:s.count 46≤s.length:=List.count_le_length
 obtain ⟨l,x,hx⟩:∃l x,cut s=l++[x]:=⟨(cut s).dropLast,(cut s).getLast (by intro e;simp [e] at h1),(List.dropLast_concat_getLast _).symm⟩
 have h3:l.length=s.count 46:=by rw [hx] at h1;simpa using h1
 have h4:((l.length:Int)+1 - 1)=(l.length:Int):=by omega
 have h5:((l++[([]:List UInt8)]).length:Int)=l.length+1:=by simp
 have h6:((l++[x]).length:Int)=l.length+1:=by simp
 have g1:(l++[([]:List UInt8)])[l.length]? =some []:=by simp
 have g2:(l++[x]).getLastD []=x:=by simp [List.getLastD_eq_getLast?]
 have g3:(l++[([]:List UInt8)]).set l.length x=l++[x]:=by simp
 have hk:=o3 s (s.length+1) (by omega) hs (.i .i64 (-1)) .u
 rw [hx] at hk ⊢
 simp only [Cr1,Cv,List.dropLast_concat] at hk
 simp (disch:=omega) only [Bm5,Fj7,hk,h4,h6,g1,g2,g3,xe,EVP,↓reduceIte,EV,Nat.reduceAdd,Nat.reduceEqDiff,Int.reduceToNat,reduceCtorEq]
 have g4:((l.length:Int)+1).toNat=(l++[x]).length:=by simp
 rw [g4,C2]
 rfl
theorem kj (s:List UInt8) (hs:s.length≤1000000):S Bw2 2 [.s s,.s [46]]=some [Bq (cut s)]:=by
 refine Lw6 (N:=1) rfl ?_
 simp (disch:=omega) only [Ks0,o2,xe,EVP,↓reduceIte,EV,Nat.reduceAdd,Nat.reduceEqDiff,Int.reduceToNat,reduceCtorEq]
theorem ay (s t:List UInt8) (hs:s.length≤9223372036854775807):S gv 2 [.s s,.s t]=some [.b (t.isSuffixOf s)]:=by
 refine Jp5 (N:=1) rfl ?_
 by_cases h:t.length≤s.length
 ·have e:((s.length:Int) - (t.length:Int)).toNat=s.length - t.length:=by omega
  simp (disch:=omega) only [Gw2,e,xe,EVP,↓reduceIte,EV,Nat.reduceAdd,Nat.reduceEqDiff,Int.reduceToNat,reduceCtorEq]
  simp only [C2]
  congr 4
  rw [Cn,K9,decide_eq_true_eq]
  refine ⟨fun h=>h▸List.drop_suffix _ _,fun h=> ?_⟩
  obtain ⟨p,rfl⟩:=h
  simp
 ·have h2:t.isSuffixOf s=false:=by
   rw [Bool.eq_false_iff,ne_eq,K9]
   exact fun h'=>h h'.length_le
  simp (disch:=omega) only [Gw2,h2,xe,EVP,↓reduceIte,EV,Nat.reduceAdd,Nat.reduceEqDiff,Int.reduceToNat,reduceCtorEq]
theorem Mj (s t:List UInt8) (hs:s.length≤9223372036854775807):S Bw3 2 [.s s,.s t]=some [.b (t.isSuffixOf s)]:=by
 refine Lw7 (N:=1) rfl ?_
 simp (disch:=omega) only [Ks1,ay,xe,EVP,↓reduceIte,EV,Nat.reduceAdd,Nat.reduceEqDiff,Int.reduceToNat,reduceCtorEq]
theorem t8 (x y:List UInt8):S fp 2 [.s x,.s y]=some [.i .i64 (Lib.compareBytes x y)]:=by
 refine Jm6 (N:=1) rfl ?_
 simp (disch:=omega) only [Jy7,Ip6,xe,EVP,↓reduceIte,EV,Nat.reduceAdd,Nat.reduceEqDiff,Int.reduceToNat,reduceCtorEq]
theorem tt (x y:List UInt8):S Qt 2 [.s x,.s y]=some [.i .i64 (Lib.compareBytes x y)]:=by
 refine Jr6 (N:=1) rfl ?_
 simp (disch:=omega) only [Jb0,t8,xe,EVP,↓reduceIte,EV,Nat.reduceAdd,Nat.reduceEqDiff,Int.reduceToNat,reduceCtorEq]
end Go.X.G
/- Names and their labels. -/
namespace Go.X.G
open Go Go.X
def flat (l:List (List UInt8)):List UInt8:=l.flatMap fun x=>x++[46]
def jn (l:List (List UInt8)):List UInt8:=if l=[] then [46] else flat l
def G0 (first:Bool):List (List UInt8)→Bool
 |[]=>true
 |p::r=>Ib p && (!decide (p=[42])||first) && G0 false r
theorem Ig6:O2 46=false:=by decide
theorem Lm {p:List UInt8} (h:Ib p=true):(46:UInt8)∉p:=by
 unfold Ib at h
 simp at h
 rcases h with rfl|⟨_,h⟩
 ·decide
 ·intro h2
  have:=h 46 h2
  rw [Ig6] at this
  cases this
theorem Aj6 {p:List UInt8} (h:Ib p=true):p≠[]:=by
 rintro rfl
 simp [Ib] at h
theorem G5 {p:List UInt8}:∀{f:Bool} {l:List (List UInt8)},G0 f l=true→p∈l→Ib p=true
 |f,q::r,h,hp=>by
  simp only [G0,Av] at h
  rcases Ag.1 hp with rfl|hp
  ·exact h.1.1
  ·exact G5 h.2 hp
theorem Bz0:∀{l:List (List UInt8)},G0 false l=true→G0 true l=true
 |[],_=>rfl
 |p::r,h=>by
  simp only [G0,Av] at h ⊢
  exact ⟨⟨h.1.1,by simp⟩,h.2⟩
theorem ig:∀{f:Bool} {a b:List (List UInt8)},G0 f (a++b)=(G0 f a && G0 (f && a.isEmpty) b)
 |f,[],b=>by simp [G0]
 |f,p::r,b=>by
  simp only [B3,G0,ig (a:=r)]
  simp [Bool.and_assoc]
theorem Bz1 {f:Bool} {l:List (List UInt8)} (h:G0 f l=true) (k:Nat):G0 f (l.drop k)=true:=by
 rw [←Bl k l,ig,Av] at h
 have h2:=h.2
 cases f with
 |false=>simpa using h2
 |true=>
  cases he:(l.take k).isEmpty with
  |true=>rw [he] at h2;exact h2
  |false=>rw [he] at h2;exact Bz0 h2
theorem Sf:∀(m:List UInt8) (f:Bool) (cur:List UInt8),spl f cur (m++[46])=if G0 f (pcs cur m)=true then some (pcs cur m) else none
 |[],f,cur=>by
  simp only [Cv,spl,if_true,pcs,G0,A5,Pm]
  by_cases h:Ib cur=true<;>by_cases h2:cur=[42]<;>cases f<;>simp [h,h2]
 |c::r,f,cur=>by
  simp only [B3,spl,pcs]
  by_cases hc:c=46
  ·simp only [if_pos hc]
   rw [Sf r false []]
   simp only [G0]
   by_cases h:Ib cur=true<;>by_cases h2:cur=[42]<;>cases f<;>by_cases h3:G0 false (pcs [] r)=true<;>simp [h,h2,h3]
  ·simp only [if_neg hc]
   exact Sf r f (cur++[c])
theorem S4 (b:List UInt8):∀(a cur:List UInt8),pcs cur (a++46::b)=pcs cur a++cut b
 |[],cur=>by simp [pcs,cut]
 |c::r,cur=>by
  simp only [B3,pcs]
  split
  ·rw [S4 b r []];rfl
  ·exact S4 b r _
theorem Rt:∀(m cur:List UInt8),flat (pcs cur m)=cur++m++[46]
 |[],cur=>by simp [pcs,flat]
 |c::r,cur=>by
  simp only [pcs]
  split
  ·rename_i h
   have:=Rt r []
   simp only [flat,Fp] at this ⊢
   rw [this,h];simp
  ·rw [Rt r (cur++[c])];simp
theorem Zv (a b:List (List UInt8)):flat (a++b)=flat a++flat b:=by simp [flat]
theorem Jt7 (cur m:List UInt8):pcs cur m≠[]:=by
 cases m with
 |nil=>simp [pcs]
 |cons c r=>
  simp only [pcs]
  split
  ·simp
  ·intro h
   have:=Rt r (cur++[c])
   rw [h] at this
   simp [flat] at this
theorem R5:∀(l:List (List UInt8)),(∀p∈l,(46:UInt8)∉p)→cut (flat l)=l++[[]]
 |[],_=>rfl
 |p::l,h=>by
  have h1:flat (p::l)=p++46::flat l:=by simp [flat]
  rw [h1]
  show pcs [] _=_
  rw [S4,Yh p [] (h p (by simp)),R5 l (fun q hq=>h q (by simp [hq]))]
  simp
theorem J2:∀(l:List (List UInt8)),l≠[]→∃m,flat l=m++[46]
 |[p],_=>⟨p,by simp [flat]⟩
 |p::q::r,_=>by
  obtain ⟨m,hm⟩:=J2 (q::r) (by simp)
  exact ⟨p++[46]++m,by simp only [flat,Fp] at hm ⊢;rw [hm];simp⟩
theorem Ak5 {l:List (List UInt8)} (hl:l≠[]) (h:∀p∈l,(46:UInt8)∉p) {m:List UInt8} (hm:flat l=m++[46]):cut m=l:=by
 have h1:=R5 l h
 rw [hm] at h1
 have h2:cut (m++[46])=cut m++[[]]:=by
  show pcs [] (m++46::[])=_
  rw [S4];rfl
 rw [h2] at h1
 exact Pl h1
theorem Jd {l:List (List UInt8)} (h:G0 true l=true) (hl:l≠[]):2≤(flat l).length:=by
 cases l with
 |nil=>exact absurd rfl hl
 |cons p r=>
  have h1:=Aj6 (G5 h (Gy ..))
  have:0<p.length:=Bv.2 h1
  simp [flat];omega
theorem Id6 {l:List (List UInt8)} (h:G0 true l=true) (hl:l≠[]) (hlen:(flat l).length≤254):nm (flat l)=some l:=by
 obtain ⟨m,hm⟩:=J2 l hl
 have h1:=Ak5 hl (fun p hp=>Lm (G5 h hp)) hm
 have h2:=Jd h hl
 unfold nm
 rw [if_neg (by intro e;rw [e] at h2;simp at h2),if_pos ⟨h2,hlen,by rw [hm];simp⟩,hm,Sf]
 have:pcs [] m=l:=h1
 rw [this,if_pos h]
theorem Id5 {n:List UInt8} {l:List (List UInt8)} (h:nm n=some l):(n=[46]∧l=[])∨(l≠[]∧G0 true l=true∧n=flat l∧n.length≤254):=by
 unfold nm at h
 split at h
 ·rename_i e;injection h with h;exact .inl ⟨e,h.symm⟩
 ·split at h
  ·rename_i h1
   right
   obtain ⟨h2,h3,h4⟩:=h1
   obtain ⟨m,hm⟩:∃m,n=m++[46]:=by
    refine ⟨n.dropLast,?_⟩
    have:n≠[]:=by intro e;simp [e] at h2
    have h5:=List.dropLast_concat_getLast this
    rw [←h5]
    congr 1
    ·simp
    ·have h6:n[n.length - 1]? =some (n.getLast this):=by rw [Jk];exact Ax _
     rw [h6] at h4
     injection h4 with h4
     simp [h4]
   rw [hm,Sf] at h
   split at h
   ·rename_i h5
    injection h with h
    subst h
    refine ⟨Jt7 _ _,h5,?_,by omega⟩
    rw [Rt,hm];simp
   ·cases h
  ·cases h
theorem Ix7 {n:List UInt8}:vld n=true↔nm n=some (lbl n):=by
 unfold vld lbl
 cases nm n<;>simp
theorem vld_cases {n:List UInt8} (h:vld n=true):(n=[46]∧lbl n=[])∨(lbl n≠[]∧G0 true (lbl n)=true∧n=flat (lbl n)∧n.length≤254):=Id5 (Ix7.1 h)
theorem X6 {n:List UInt8} (h:vld n=true):G0 true (lbl n)=true:=by
 rcases vld_cases h with ⟨_,h⟩|⟨_,h,_⟩
 ·rw [h];rfl
 ·exact h
theorem Sw {n:List UInt8} (h:vld n=true):n=jn (lbl n):=by
 unfold jn
 rcases vld_cases h with ⟨h1,h2⟩|⟨h1,_,h2,_⟩
 ·rw [h2,if_pos rfl];exact h1
 ·rw [if_neg h1];exact h2
theorem Lq {n:List UInt8} (h:vld n=true):n.length≤254:=by
 rcases vld_cases h with ⟨h1,_⟩|⟨_,_,_,h⟩
 ·simp [h1]
 ·exact h
theorem Rr:lbl [46]=[]:=rfl
theorem i5 {l:List (List UInt8)} (h:G0 true l=true) (hl:l≠[]):flat l≠[46]:=by
 intro e
 have:=Jd h hl
 rw [e] at this;simp at this
theorem Tm {n:List UInt8} (h:vld n=true):lbl n=[]↔n=[46]:=by
 rcases vld_cases h with ⟨h1,h2⟩|⟨h1,h2,h3,_⟩
 ·simp [h1,Rr]
 ·constructor
  ·intro e;exact absurd e h1
  ·intro e;rw [h3] at e;exact absurd e (i5 h2 h1)
theorem Jc6 {l:List (List UInt8)} (h:G0 true l=true) (hlen:(flat l).length≤254):vld (jn l)=true∧lbl (jn l)=l:=by
 unfold jn
 by_cases hl:l=[]
 ·subst hl;exact ⟨rfl,rfl⟩
 ·rw [if_neg hl]
  have:=Id6 h hl hlen
  exact ⟨by simp [vld,this],by simp [lbl,this]⟩
theorem Nl {a b:List UInt8} (ha:vld a=true) (hb:vld b=true) (h:lbl a=lbl b):a=b:=by
 rw [Sw ha,Sw hb,h]
theorem Zk (l:List (List UInt8)) (k:Nat):(flat (l.drop k)).length≤(flat l).length:=by
 have:flat l=flat (l.take k)++flat (l.drop k):=by rw [←Zv,Bl]
 rw [this,Az];omega
theorem J7 {n:List UInt8} (h:vld n=true) (k:Nat):vld (jn ((lbl n).drop k))=true∧lbl (jn ((lbl n).drop k))=(lbl n).drop k:=by
 refine Jc6 (Bz1 (X6 h) k) ?_
 rcases vld_cases h with ⟨_,h1⟩|⟨_,_,h1,h2⟩
 ·rw [h1];simp [flat]
 ·have:=Zk (lbl n) k
  rw [←h1] at this;omega
theorem By8 {s:List UInt8} (h:Ib s=true):s.length≤63:=by
 unfold Ib at h
 simp at h
 rcases h with h|h
 ·simp [h]
 ·omega
theorem z8 {n:List UInt8} (h:vld n=false):lbl n=[]:=by
 unfold lbl;unfold vld at h
 cases h1:nm n with
 |none=>rfl
 |some l=>rw [h1] at h;cases h
theorem Ch0 (n:List UInt8):∀x∈lbl n,Ib x=true:=fun x hx=>by
 rcases Ak (vld n) with h|h
 ·exact G5 (X6 h) hx
 ·rw [z8 h] at hx;cases hx
end Go.X.G
/- Names: what the program's functions give. -/
namespace Go.X.G
open Go Go.X
def ord (s:List UInt8):Bool:=decide (1≤s.length) && decide (s.length≤63) && s.all O2
theorem Cp4 (s:List UInt8):Ib s=(decide (s=[42])||ord s):=rfl
theorem Fm8:ord [42]=false:=by decide
theorem m4 (s:List UInt8) (N:Nat) (hN:s.length<N) (hs:s.length≤9223372036854775807):
  Gb3.ev S N [.s s]=some (if s.all O2=true then .yld 0 [] else .ret [.b false]):=by
 refine Dq s (fun i=>[.i .i64 (i:Int)]) (fun i r=>if r.all O2=true then .yld 0 [] else .ret [.b false]) rfl hN (fun i c r hd hi hc=> ?_) ?_
 ·have key:Ep6.ev S N ([.s s]++[.i .i64 (i:Int)])=some (if O2 c=true then .yld 1 [.i .i64 ((i:Int)+1)] else .ret [.b false]):=by
   simp (disch:=omega) only [Bh8,hc,xe,EVP,↓reduceIte,EV,Nat.reduceAdd,Nat.reduceEqDiff,Int.reduceToNat,reduceCtorEq]
   unfold O2
   grind
  rw [key]
  rcases Ak (O2 c) with h|h<;>simp [h,Out.goes]
 ·simp (disch:=omega) [Bh8,xe,EVP,↓reduceIte,EV,Nat.reduceAdd,Nat.reduceEqDiff,Int.reduceToNat,reduceCtorEq,Out.goes]
theorem Kv (s:List UInt8) (hs:s.length≤9223372036854775807):S Cz8 1 [.s s]=some [.b (ord s)]:=by
 refine Lw5 (N:=s.length+1) rfl ?_
 unfold ord
 by_cases h1:s=[]
 ·subst h1
  simp (disch:=omega) [Bh8,xe,EVP,↓reduceIte,EV,Nat.reduceAdd,Nat.reduceEqDiff,Int.reduceToNat,reduceCtorEq]
 ·have h2:1≤s.length:=Bv.2 h1
  by_cases h3:s.length≤63
  ·simp (disch:=omega) only [Bh8,m4,h1,xe,EVP,↓reduceIte,EV,Nat.reduceAdd,Nat.reduceEqDiff,Int.reduceToNat,reduceCtorEq]
   cases s.all O2<;>simp [h2,h3]
  ·simp (disch:=omega) only [Bh8,h1,xe,EVP,↓reduceIte,EV,Nat.reduceAdd,Nat.reduceEqDiff,Int.reduceToNat,reduceCtorEq]
   simp [h3]
def okP (i:Nat) (p:List UInt8):Bool:=ord p||(decide (i=0) && decide (p=[42]))
def Fn7:Nat→List (List UInt8)→Bool
 |_,[]=>true
 |i,p::r=>okP i p && Fn7 (i+1) r
theorem ew:∀(l:List (List UInt8)) (i:Nat),Fn7 i l=G0 (decide (i=0)) l
 |[],_=>rfl
 |p::r,i=>by
  have h1:=ew r (i+1)
  simp only [Fn7,G0,h1,okP,Cp4]
  by_cases h2:p=[42]
  ·subst h2
   by_cases h3:i=0<;>simp [Fm8,h3]
  ·simp [h2]
theorem Et5 (p q:PV) (l:List (List UInt8)) (hl:l.length≤1000000) (hw:∀x∈l,x.length≤9223372036854775807) (N:Nat) (hN:l.length<N):
  Gc5.ev S N [p,q,Bq l]=some (if Fn7 0 l=true then .yld 0 [] else .ret [.b false]):=by
 refine Dq l (fun i=>[.i .i64 (i:Int)]) (fun i r=>if Fn7 i r=true then .yld 0 [] else .ret [.b false]) rfl hN (fun i c r hd hi hc=> ?_) ?_
 ·have hcw:=hw c (Am hc)
  have key:Er2.ev S N ([p,q,Bq l]++[.i .i64 (i:Int)])=some (if okP i c=true then .yld 1 [.i .i64 ((i:Int)+1)] else .ret [.b false]):=by
   rcases Ak (ord c) with h1|h1
   ·simp (disch:=omega) only [X2,Kv,hc,h1,xe,EVP,↓reduceIte,EV,Nat.reduceAdd,Nat.reduceEqDiff,Int.reduceToNat,reduceCtorEq]
    simp [okP,h1]
   ·by_cases h2:i=0
    ·subst h2
     by_cases h3:c=[42]
     ·subst h3
      simp (disch:=omega) only [X2,Kv,hc,h1,xe,EVP,↓reduceIte,EV,Nat.reduceAdd,Nat.reduceEqDiff,Int.reduceToNat,reduceCtorEq]
      simp [okP]
     ·simp (disch:=omega) only [X2,Kv,hc,h1,h3,xe,EVP,↓reduceIte,EV,Nat.reduceAdd,Nat.reduceEqDiff,Int.reduceToNat,reduceCtorEq]
      simp [okP,h1,h3]
    ·simp (disch:=omega) only [X2,Kv,hc,h1,xe,EVP,↓reduceIte,EV,Nat.reduceAdd,Nat.reduceEqDiff,Int.reduceToNat,reduceCtorEq]
     simp [okP,h1,h2]
  rw [key]
  rcases Ak (okP i c) with h|h<;>simp [h,Fn7,Out.goes]
 ·simp (disch:=omega) only [X2,xe,EVP,↓reduceIte,EV,Nat.reduceAdd,Nat.reduceEqDiff,Int.reduceToNat,reduceCtorEq]
  simp [Out.goes,Fn7]
theorem Yl:∀(m cur:List UInt8) (x:List UInt8),x∈pcs cur m→x.length≤cur.length+m.length
 |[],cur,x,h=>by simp [pcs] at h;subst h;simp
 |c::r,cur,x,h=>by
  simp only [pcs] at h
  split at h
  ·rcases Ag.1 h with rfl|h
   ·omega
   ·have:=Yl r [] x h;simp at this ⊢;omega
  ·have:=Yl r _ x h;simp at this ⊢;omega
theorem Gj9 (m x:List UInt8) (h:x∈cut m):x.length≤m.length:=by simpa using Yl m [] x h
theorem Kl1 (m:List UInt8):(cut m).length≤m.length+1:=by
 have:=Ct4 m
 have:m.count 46≤m.length:=List.count_le_length
 omega
theorem Bp1 (n:List UInt8):([46]:List UInt8).isSuffixOf n=true↔∃m,n=m++[46]:=by
 rw [K9]
 exact ⟨fun ⟨m,h⟩=>⟨m,h.symm⟩,fun ⟨m,h⟩=>⟨m,h.symm⟩⟩
theorem Fv0 (m:List UInt8) (hm:m≠[]) (hl:m.length≤253):vld (m++[46])=Fn7 0 (cut m):=by
 have h1:m++[46]≠[46]:=fun e=>hm (Pl (bs:=[46]) (by simpa using e))
 have h2:0<m.length:=Bv.2 hm
 unfold vld nm
 rw [if_neg h1,if_pos ⟨by simp;omega,by simp;omega,by simp⟩,Sf,ew]
 have e:pcs [] m=cut m:=rfl
 have e2:G0 (decide ((0:Nat)=0)) (cut m)=G0 true (cut m):=rfl
 rw [e,e2]
 cases G0 true (cut m)<;>rfl
theorem Fr3 (m:List UInt8) (h:vld (m++[46])=true) (hm:m≠[]):lbl (m++[46])=cut m:=by
 rcases vld_cases h with ⟨h1,_⟩|⟨h1,h2,h3,_⟩
 ·exact absurd (Pl (bs:=[46]) (by simpa using h1)) hm
 ·exact (Ak5 h1 (fun p hp=>Lm (G5 h2 hp)) h3.symm).symm
theorem B4 (n:List UInt8) (hn:n.length≤9223372036854775807):S Om 1 [.s n]=some [.b (vld n)]:=by
 refine Lb6 (N:=300) rfl ?_
 by_cases h0:n=[46]
 ·subst h0
  simp (disch:=omega) only [X2,xe,EVP,↓reduceIte,EV,Nat.reduceAdd,Nat.reduceEqDiff,Int.reduceToNat,reduceCtorEq]
  rfl
 ·by_cases h1:255≤n.length
  ·have hv:vld n=false:=by
    rw [Bool.eq_false_iff];intro h;have:=Lq h;omega
   simp (disch:=omega) only [X2,h0,hv,xe,EVP,↓reduceIte,EV,Nat.reduceAdd,Nat.reduceEqDiff,Int.reduceToNat,reduceCtorEq]
  ·rcases Ak (([46]:List UInt8).isSuffixOf n) with h2|h2
   ·obtain ⟨m,rfl⟩:=(Bp1 n).1 h2
    have hm:m≠[]:=fun e=>h0 (by simp [e])
    have hl:(m++[46]).length=m.length+1:=by simp
    have hml:m.length≤1000000:=by omega
    have e:List.drop 0 (List.take (((m++[46]).length:Int) - 1).toNat (m++[46]))=m:=by
     have:(((m++[46]).length:Int) - 1).toNat=m.length:=by omega
     rw [this];simp
    have hc:=Kl1 m
    have hv:=Fv0 m hm (by omega)
    have hk:=Et5 (.s (m++[46])) (.b true) (cut m) (by omega) (fun x hx=>by have:=Gj9 m x hx;omega) 300 (by omega)
    simp (disch:=omega) only [X2,Mj,kj,e,hk,h0,h2,xe,EVP,↓reduceIte,EV,Nat.reduceAdd,Nat.reduceEqDiff,Int.reduceToNat,reduceCtorEq]
    rw [hv]
    cases Fn7 0 (cut m)<;>simp
   ·have hv:vld n=false:=by
     rw [Bool.eq_false_iff];intro h
     rcases vld_cases h with ⟨h3,_⟩|⟨h3,_,h5,_⟩
     ·exact h0 h3
     ·obtain ⟨m,hm⟩:=J2 _ h3
      have:=(Bp1 n).2 ⟨m,h5.trans hm⟩
      rw [h2] at this;cases this
    simp (disch:=omega) only [X2,Mj,h0,h2,hv,xe,EVP,↓reduceIte,EV,Nat.reduceAdd,Nat.reduceEqDiff,Int.reduceToNat,reduceCtorEq]
theorem Qg (n:List UInt8) (hn:n.length≤9223372036854775807):S Tz 1 [.s n]=some [Bq (lbl n)]:=by
 refine Jr5 (N:=1) rfl ?_
 by_cases h0:n=[46]
 ·subst h0
  simp (disch:=omega) only [Bm7,Rr,xe,EVP,↓reduceIte,EV,Nat.reduceAdd,Nat.reduceEqDiff,Int.reduceToNat,reduceCtorEq]
 ·rcases Ak (vld n) with h1|h1
  ·obtain ⟨m,hm,rfl⟩:∃m,m≠[]∧n=m++[46]:=by
    rcases vld_cases h1 with ⟨h3,_⟩|⟨h3,_,h5,_⟩
    ·exact absurd h3 h0
    ·obtain ⟨m,hm⟩:=J2 _ h3
     exact ⟨m,fun e=>h0 (by rw [h5,hm,e];rfl),h5.trans hm⟩
   have hl:(m++[46]).length=m.length+1:=by simp
   have e:List.drop 0 (List.take (((m++[46]).length:Int) - 1).toNat (m++[46]))=m:=by
    have:(((m++[46]).length:Int) - 1).toNat=m.length:=by omega
    rw [this];simp
   have hl2:=Lq h1
   have e2:=Fr3 m h1 hm
   simp (disch:=omega) only [Bm7,B4,kj,e,e2,h0,h1,xe,EVP,↓reduceIte,EV,Nat.reduceAdd,Nat.reduceEqDiff,Int.reduceToNat,reduceCtorEq]
  ·have e:lbl n=[]:=by
    unfold lbl;unfold vld at h1
    cases h:nm n with
    |none=>rfl
    |some l=>rw [h] at h1;cases h1
   simp (disch:=omega) only [Bm7,B4,h0,h1,e,xe,EVP,↓reduceIte,EV,Nat.reduceAdd,Nat.reduceEqDiff,Int.reduceToNat,reduceCtorEq]
theorem Pj (p:List UInt8) (l:List (List UInt8)):flat (p::l)=p++46::flat l:=by simp [flat]
def parentN (n:List UInt8):List UInt8:=if vld n=true∧n≠[46] then jn ((lbl n).drop 1) else []
def T4 (n:List UInt8):Bool:=vld n && !decide (n=[46])
theorem Xb (n:List UInt8) (hn:n.length≤9223372036854775807):S Bx5 1 [.s n]=some [.s (parentN n),.b (T4 n)]:=by
 refine Lc0 (N:=1) rfl ?_
 unfold parentN T4
 by_cases h0:n=[46]
 ·subst h0
  simp (disch:=omega) only [Fq6,xe,EVP,↓reduceIte,EV,Nat.reduceAdd,Nat.reduceEqDiff,Int.reduceToNat,reduceCtorEq]
  simp
 ·rcases Ak (vld n) with h1|h1
  ·rcases vld_cases h1 with ⟨h3,_⟩|⟨h3,h4,h5,h6⟩
   ·exact absurd h3 h0
   ·cases hl:lbl n with
    |nil=>exact absurd hl h3
    |cons p r=>
     rw [hl] at h4 h5
     have hp:=Lm (G5 h4 (Gy ..))
     have hi:=kz n 46
     have hc:(((46:UInt8).toNat:Nat):Int)=46:=rfl
     have hx:Lib.indexByte n 46=(p.length:Int):=by rw [h5,Pj];exact Jr 46 _ p hp
     rw [hc,hx] at hi
     have hlen:n.length=p.length+1+(flat r).length:=by rw [h5,Pj];simp;omega
     have e:List.drop ((p.length:Int)+1).toNat (List.take n.length n)=flat r:=by
      have:((p.length:Int)+1).toNat=p.length+1:=by omega
      rw [this,C2,h5,Pj]
      simp
     by_cases h7:r=[]
     ·subst h7
      have e2:flat []=[]:=rfl
      simp (disch:=omega) only [Fq6,B4,hi,e,e2,h0,h1,xe,EVP,↓reduceIte,EV,Nat.reduceAdd,Nat.reduceEqDiff,Int.reduceToNat,reduceCtorEq]
      simp [jn]
     ·have e2:¬flat r=[]:=by
       obtain ⟨m,hm⟩:=J2 r h7
       rw [hm];simp
      simp (disch:=omega) only [Fq6,B4,hi,e,e2,h0,h1,xe,EVP,↓reduceIte,EV,Nat.reduceAdd,Nat.reduceEqDiff,Int.reduceToNat,reduceCtorEq]
      simp [jn,h7]
  ·simp (disch:=omega) only [Fq6,B4,h0,h1,xe,EVP,↓reduceIte,EV,Nat.reduceAdd,Nat.reduceEqDiff,Int.reduceToNat,reduceCtorEq]
   simp
def Cs3 (n top:List UInt8):Bool:=(decide (top=[46])||decide (n=top))||(46::top).isSuffixOf n
theorem In3 (n top:List UInt8) (hn:n.length≤9223372036854775807) (ht:top.length≤1000000):S Cb2 2 [.s n,.s top]=some [.b (Cs3 n top)]:=by
 refine Lx5 (N:=1) rfl ?_
 unfold Cs3
 have h0:([46]:List UInt8).length=1:=rfl
 by_cases h1:top=[46]<;>by_cases h2:n=top<;>simp (disch:=omega) only [Ks6,Mj,h1,h2,xe,EVP,↓reduceIte,EV,Nat.reduceAdd,Nat.reduceEqDiff,Int.reduceToNat,reduceCtorEq]
 all_goals simp
theorem o6 {a b:List (List UInt8)} (ha:G0 true a=true) (hb:G0 true b=true) (h:(46::flat b)<:+flat a):b<:+a:=by
 obtain ⟨p,hp⟩:=h
 have h1:=R5 a (fun x hx=>Lm (G5 ha hx))
 have h2:=R5 b (fun x hx=>Lm (G5 hb hx))
 rw [←hp] at h1
 have h3:cut (p++46::flat b)=cut p++cut (flat b):=S4 (flat b) p []
 rw [h3,h2,←Ap] at h1
 exact ⟨cut p,Pl h1⟩
theorem Ft8 {n top:List UInt8} (hn:vld n=true) (ht:vld top=true):Cs3 n top=true↔lbl top<:+lbl n:=by
 unfold Cs3
 simp only [An,decide_eq_true_eq,K9]
 constructor
 ·rintro ((rfl|rfl)|h)
  ·rw [Rr];exact List.nil_suffix
  ·exact List.suffix_refl _
  ·rcases vld_cases ht with ⟨h1,h2⟩|⟨h1,h2,h3,_⟩
   ·rw [h2];exact List.nil_suffix
   ·rcases vld_cases hn with ⟨h5,_⟩|⟨h5,h6,h7,_⟩
    ·rw [h5] at h
     have h9:=h.length_le
     have h8:=Jd h2 h1
     rw [←h3] at h8
     simp only [A0,Bc] at h9;omega
    ·rw [h3,h7] at h
     exact o6 h6 h2 h
 ·intro h
  obtain ⟨p,hp⟩:=h
  rcases vld_cases ht with ⟨h1,h2⟩|⟨h1,h2,h3,_⟩
  ·exact .inl (.inl h1)
  ·by_cases hp0:p=[]
   ·left;right
    subst hp0
    exact Nl hn ht hp.symm
   ·right
    rcases vld_cases hn with ⟨_,h5⟩|⟨h5,h6,h7,_⟩
    ·rw [h5] at hp
     exact absurd (List.append_eq_nil_iff.1 hp).1 hp0
    ·obtain ⟨m,hm⟩:=J2 p hp0
     rw [h7,←hp,Zv,hm]
     exact ⟨m,by rw [Ap,←h3];simp⟩
theorem Uf {α:Type} [DecidableEq α]:∀(a b:List α),R6 a b=b.length↔b<+:a
 |[],[]=>by simp [R6]
 |[],y::ys=>by simp [R6]
 |x::xs,[]=>by simp [R6]
 |x::xs,y::ys=>by
  have:=Uf xs ys
  simp only [R6]
  split
  ·rename_i h;subst h
   simp [this,Mk]
  ·rename_i h
   simp [Mk,Ne.symm h]
theorem dc (a b:List (List UInt8)):Jm a b=b.length↔b<:+a:=by
 unfold Jm
 have:=Uf a.reverse b.reverse
 rw [List.length_reverse] at this
 rw [this,List.reverse_prefix]
theorem B7 {n top:List UInt8}:under n top=true↔vld n=true∧vld top=true∧lbl top<:+lbl n:=by
 unfold under
 simp [dc,and_assoc]
theorem As1 {n top:List UInt8} (hn:vld n=true) (ht:vld top=true):Cs3 n top=under n top:=by
 rw [Cn,Ft8 hn ht,B7]
 simp [hn,ht]
theorem Hj (n top:List UInt8) (hn:n.length≤9223372036854775807) (ht:top.length≤9223372036854775807):S Qk 2 [.s n,.s top]=some [.b (under n top)]:=by
 refine Lc1 (N:=1) rfl ?_
 rcases Ak (vld n) with h1|h1
 ·rcases Ak (vld top) with h2|h2
  ·have h3:=Lq h2
   simp (disch:=omega) only [Ix4,B4,In3,h1,h2,xe,EVP,↓reduceIte,EV,Nat.reduceAdd,Nat.reduceEqDiff,Int.reduceToNat,reduceCtorEq]
   rw [As1 h1 h2]
  ·have h3:under n top=false:=by simp [under,h2]
   simp (disch:=omega) only [Ix4,B4,h1,h2,h3,xe,EVP,↓reduceIte,EV,Nat.reduceAdd,Nat.reduceEqDiff,Int.reduceToNat,reduceCtorEq]
 ·have h3:under n top=false:=by simp [under,h1]
  simp (disch:=omega) only [Ix4,B4,h1,h3,xe,EVP,↓reduceIte,EV,Nat.reduceAdd,Nat.reduceEqDiff,Int.reduceToNat,reduceCtorEq]
end Go.X.G
/- Names: order, common ancestors, wildcards. -/
namespace Go.X.G
open Go Go.X
theorem Q6:∀(a:List UInt8),Op.bytesLess a a=false
 |[]=>rfl
 |a::x=>by simp [Op.bytesLess,Q6 x]
theorem L1:∀(a b:List UInt8),Lib.compareBytes a b=cmpS a b
 |[],[]=>rfl
 |[],_::_=>rfl
 |_::_,[]=>rfl
 |a::x,b::y=>by
  have ih:=L1 x y
  unfold cmpS at ih ⊢
  simp only [Lib.compareBytes,Op.bytesLess,ih]
  by_cases h1:a<b
  ·simp [h1]
  ·by_cases h2:b<a
   ·have h3:a≠b:=fun e=>by subst e;exact h1 h2
    simp [h1,h2,h3]
   ·have h3:a=b:=UInt8.le_antisymm (UInt8.not_lt.1 h2) (UInt8.not_lt.1 h1)
    subst h3
    simp [h1]
theorem I5 {a b:List UInt8}:cmpS a b=0↔a=b:=by
 unfold cmpS
 by_cases h:a=b
 ·subst h;simp [Q6]
 ·cases h2:Op.bytesLess a b<;>simp [h]
theorem Kl (x y:List UInt8):S Qt 2 [.s x,.s y]=some [.i .i64 (cmpS x y)]:=by
 rw [tt,L1]
def U5:List (List UInt8)→List (List UInt8)→Option Int
 |x::xs,y::ys=>if x=y then U5 xs ys else some (cmpS x y)
 |_,_=>none
theorem Dj0:∀(a b:List (List UInt8)),U5 a b=if R6 a b<a.length∧R6 a b<b.length then some (cmpS (a.getD (R6 a b) []) (b.getD (R6 a b) [])) else none
 |[],b=>by simp [U5,R6]
 |x::xs,[]=>by simp [U5,R6]
 |x::xs,y::ys=>by
  have ih:=Dj0 xs ys
  simp only [U5,R6]
  by_cases h:x=y
  ·simp only [if_pos h,ih]
   simp
  ·simp [h]
def Bd1 (a b:List (List UInt8)):Int:=match U5 a.reverse b.reverse with
 |some c=>c
 |none=>if a.length<b.length then -1 else if b.length<a.length then 1 else 0
theorem Ak0 (a:List (List UInt8)) (k:Nat) (h:k<a.length):a.reverse.getD k []=a.getD (a.length - 1 - k) []:=by
 simp [Bd,List.getElem?_reverse h]
theorem Zm {a b:List UInt8} (ha:vld a=true) (hb:vld b=true):Iw a b=Bd1 (lbl a) (lbl b):=by
 unfold Iw Bd1
 rw [Dj0]
 have e:R6 (lbl a).reverse (lbl b).reverse=Jm (lbl a) (lbl b):=rfl
 rw [e,ha,hb]
 simp only [List.length_reverse,Bool.and_self,if_true]
 by_cases h:Jm (lbl a) (lbl b)<(lbl a).length∧Jm (lbl a) (lbl b)<(lbl b).length
 ·rw [if_pos h,if_pos h,Ak0 _ _ h.1,Ak0 _ _ h.2]
 ·rw [if_neg h,if_neg h]
theorem t7 (a b:List (List UInt8)) (p1 p2 p3 p4:PV) (ha:a.length≤1000) (hb:b.length≤1000) (N:Nat) (hN:1001<N):
  Cl7.ev S N [p1,p2,p3,p4,Bq a,Bq b]=some (match U5 a.reverse b.reverse with|some c=> .ret [.i .i64 c]|none=> .yld 0 []):=by
 have key:=I1 (fn:=S) (N:=N) (η:=[p1,p2,p3,p4,Bq a,Bq b]) (id:=1) (init:=[(.c (.i .i64 (1)))]) (body:=Ep9) (α:=Nat) (fun k=>[.i .i64 ((k:Int)+1)])
  (fun k=>match U5 (a.reverse.drop k) (b.reverse.drop k) with|some c=> .ret [.i .i64 c]|none=> .yld 0 []) (fun k=>k≤a.length∧k≤b.length) (fun k=>a.length - k) 0 rfl ⟨Cg _,Cg _⟩ (by omega) ?_
 ·simpa [Cl7] using key
 ·rintro k ⟨h1,h2⟩
  by_cases h3:k<a.length
  ·by_cases h4:k<b.length
   ·have e1:((a.length:Int) - ((k:Int)+1)).toNat=a.length - 1 - k:=by omega
    have e2:((b.length:Int) - ((k:Int)+1)).toNat=b.length - 1 - k:=by omega
    have g1:a[a.length - 1 - k]? =some (a[a.length - 1 - k]'(by omega)):=Ax (by omega)
    have g2:b[b.length - 1 - k]? =some (b[b.length - 1 - k]'(by omega)):=Ax (by omega)
    have d1:a.reverse.drop k=(a[a.length - 1 - k]'(by omega))::a.reverse.drop (k+1):=by
     rw [Bp (by simpa using h3)];simp
    have d2:b.reverse.drop k=(b[b.length - 1 - k]'(by omega))::b.reverse.drop (k+1):=by
     rw [Bp (by simpa using h4)];simp
    rw [d1,d2]
    generalize (a[a.length - 1 - k]'(by omega))=x at g1
    generalize (b[b.length - 1 - k]'(by omega))=y at g2
    simp only [U5]
    by_cases h:x=y
    ·left
     have h5:cmpS x y=0:=I5.2 h
     refine ⟨k+1,?_,⟨by omega,by omega⟩,by omega,by rw [if_pos h]⟩
     simp (disch:=omega) only [lm,Kl,e1,e2,g1,g2,h5,xe,EVP,↓reduceIte,EV,Nat.reduceAdd,Nat.reduceEqDiff,Int.reduceToNat,reduceCtorEq]
    ·right
     have h5:¬cmpS x y=0:=fun e=>h (I5.1 e)
     rw [if_neg h]
     simp (disch:=omega) only [lm,Kl,e1,e2,g1,g2,h5,xe,EVP,↓reduceIte,EV,Nat.reduceAdd,Nat.reduceEqDiff,Int.reduceToNat,reduceCtorEq]
     simp [Out.goes]
   ·right
    have d2:b.reverse.drop k=[]:=Fc (by simp;omega)
    have z:U5 (a.reverse.drop k) []=none:=by cases a.reverse.drop k<;>rfl
    rw [d2,z]
    simp (disch:=omega) [lm,xe,EVP,↓reduceIte,EV,Nat.reduceAdd,Nat.reduceEqDiff,Int.reduceToNat,reduceCtorEq,Out.goes]
  ·right
   have d1:a.reverse.drop k=[]:=Fc (by simp;omega)
   have z:U5 [] (b.reverse.drop k)=none:=rfl
   rw [d1,z]
   simp (disch:=omega) [lm,xe,EVP,↓reduceIte,EV,Nat.reduceAdd,Nat.reduceEqDiff,Int.reduceToNat,reduceCtorEq,Out.goes]
theorem U0 (a b:List UInt8) (hn:a.length≤9223372036854775807) (ht:b.length≤9223372036854775807):S Qj 2 [.s a,.s b]=some [.i .i64 (Iw a b)]:=by
 refine Ly2 (N:=1002) rfl ?_
 have h1:=Gz a
 have h2:=Gz b
 rcases Ak (vld a) with h3|h3<;>rcases Ak (vld b) with h4|h4
 ·rw [Zm h3 h4]
  unfold Bd1
  have hk:=t7 (lbl a) (lbl b) (.s a) (.s b) (.b true) (.b true) (by omega) (by omega) 1002 (by omega)
  cases h5:U5 (lbl a).reverse (lbl b).reverse with
  |some c=>
   rw [h5] at hk
   simp (disch:=omega) only [lm,B4,Qg,hk,h3,h4,xe,EVP,↓reduceIte,EV,Nat.reduceAdd,Nat.reduceEqDiff,Int.reduceToNat,reduceCtorEq]
  |none=>
   rw [h5] at hk
   simp (disch:=omega) only [lm,B4,Qg,hk,h3,h4,xe,EVP,↓reduceIte,EV,Nat.reduceAdd,Nat.reduceEqDiff,Int.reduceToNat,reduceCtorEq]
   grind
 all_goals unfold Iw
 all_goals simp (disch:=omega) only [lm,B4,Kl,h3,h4,xe,EVP,↓reduceIte,EV,Nat.reduceAdd,Nat.reduceEqDiff,Int.reduceToNat,reduceCtorEq]
 all_goals simp
theorem Id9 (l:List (List UInt8)) (hl:l.length≤1000) (hw:∀x∈l,x.length≤1000) (N:Nat) (hN:l.length<N):
  ob.ev S N [Bq l]=some (.yld 0 [.s (flat l)]):=by
 have key:ob.ev S N [Bq l]=some (.yld 0 [.s ([]++flat l)]):=by
  refine En l (fun i (g:List UInt8)=>[.s g,.i .i64 (i:Int)]) (fun i g r=> .yld 0 [.s (g++flat r)]) (fun i g=>g.length≤1001*i) [] rfl (Ac _) hN (fun i g c r hd hi hc hI=> ?_) (fun g hI=> ?_)
  ·left
   have h1:=hw c (Am hc)
   have h0:([46]:List UInt8).length=1:=rfl
   refine ⟨g++c++[46],?_,by simp;omega,by simp [flat]⟩
   simp (disch:=first|omega|(simp only [Az];omega)) only [u4,hc,xe,EVP,↓reduceIte,EV,Nat.reduceAdd,Nat.reduceEqDiff,Int.reduceToNat,reduceCtorEq]
  ·simp (disch:=omega) only [u4,xe,EVP,↓reduceIte,EV,Nat.reduceAdd,Nat.reduceEqDiff,Int.reduceToNat,reduceCtorEq]
   simp [flat,Out.goes]
 simpa using key
theorem Id8 (l:List (List UInt8)) (hl:l.length≤1000) (hw:∀x∈l,x.length≤1000):S gf 1 [Bq l]=some [.s (jn l)]:=by
 refine Jr2 (N:=l.length+1) rfl ?_
 unfold jn
 by_cases h:l=[]
 ·subst h
  simp (disch:=first|omega|(simp;omega)) only [u4,xe,EVP,↓reduceIte,EV,Nat.reduceAdd,Nat.reduceEqDiff,Int.reduceToNat,reduceCtorEq]
 ·have h1:0<l.length:=Bv.2 h
  have hk:=Id9 l hl hw (l.length+1) (by omega)
  simp (disch:=omega) only [u4,hk,h,xe,EVP,↓reduceIte,EV,Nat.reduceAdd,Nat.reduceEqDiff,Int.reduceToNat,reduceCtorEq]
theorem Cg9 (n:List UInt8):∀x∈lbl n,x.length≤1000:=fun x hx=>by
 have:=By8 (Ch0 n x hx);omega
theorem Aj3 {n:List UInt8} (h:vld n=true) (k:Nat):(jn ((lbl n).drop k)).length≤254:=Lq (J7 h k).1
theorem As4 {n:List UInt8} (h:vld n=true):(n[0]? =some 42↔(lbl n)[0]? =some [42]):=by
 rcases vld_cases h with ⟨h1,h2⟩|⟨h1,h2,h3,_⟩
 ·subst h1;simp [Rr]
 ·cases hl:lbl n with
  |nil=>exact absurd hl h1
  |cons p r=>
   rw [hl] at h2 h3
   have hp:=G5 h2 (Gy ..)
   have hne:=Aj6 hp
   cases p with
   |nil=>exact absurd rfl hne
   |cons c q=>
    rw [h3,Pj]
    simp only [B3,B9,Option.some.injEq]
    constructor
    ·rintro rfl
     unfold Ib at hp
     simp at hp
     rcases hp with h|h
     ·rw [h]
     ·exfalso
      have:O2 42=false:=by decide
      rw [this] at h;simp at h
    ·intro h;injection h
end Go.X.G
/- The canonical order of names is a total order. -/
namespace Go.X.G
open Go Go.X
structure TO {α:Type} (lt:α→α→Prop):Prop where
 irr:∀a,¬lt a a
 tr:∀a b c,lt a b→lt b c→lt a c
 tri:∀a b,lt a b∨a=b∨lt b a
theorem TO.asym {α:Type} {lt:α→α→Prop} (h:TO lt) {a b:α} (h1:lt a b):¬lt b a:=fun h2=>h.irr a (h.tr _ _ _ h1 h2)
theorem TO.ntr {α:Type} {lt:α→α→Prop} (h:TO lt) {a b c:α} (h1:¬lt a b) (h2:¬lt b c):¬lt a c:=by
 intro h3
 rcases h.tri b a with h4|h4|h4
 ·exact h2 (h.tr _ _ _ h4 h3)
 ·subst h4;exact h2 h3
 ·exact h1 h4
def lex {α:Type} (lt:α→α→Prop):List α→List α→Prop
 |[],[]=>False
 |[],_::_=>True
 |_::_,[]=>False
 |a::x,b::y=>lt a b∨(a=b∧lex lt x y)
theorem Cg8 {α:Type} {lt:α→α→Prop} (h:TO lt):∀x:List α,¬lex lt x x
 |[]=>by simp [lex]
 |a::x=>by
  simp only [lex,true_and,not_or]
  exact ⟨h.irr a,Cg8 h x⟩
theorem Gz4 {α:Type} {lt:α→α→Prop} (h:TO lt):∀x y z:List α,lex lt x y→lex lt y z→lex lt x z
 |[],[],_,h1,_=>by simp [lex] at h1
 |[],_::_,[],_,h2=>by simp [lex] at h2
 |[],_::_,_::_,_,_=>by simp [lex]
 |_::_,[],_,h1,_=>by simp [lex] at h1
 |_::_,_::_,[],_,h2=>by simp [lex] at h2
 |a::x,b::y,c::z,h1,h2=>by
  simp only [lex] at h1 h2 ⊢
  rcases h1 with h1|⟨rfl,h1⟩
  ·rcases h2 with h2|⟨rfl,h2⟩
   ·exact .inl (h.tr _ _ _ h1 h2)
   ·exact .inl h1
  ·rcases h2 with h2|⟨rfl,h2⟩
   ·exact .inl h2
   ·exact .inr ⟨rfl,Gz4 h x y z h1 h2⟩
theorem lex_tri {α:Type} {lt:α→α→Prop} (h:TO lt):∀x y:List α,lex lt x y∨x=y∨lex lt y x
 |[],[]=> .inr (.inl rfl)
 |[],_::_=> .inl (by simp [lex])
 |_::_,[]=> .inr (.inr (by simp [lex]))
 |a::x,b::y=>by
  simp only [lex]
  rcases h.tri a b with h1|rfl|h1
  ·exact .inl (.inl h1)
  ·rcases lex_tri h x y with h2|rfl|h2
   ·exact .inl (.inr ⟨rfl,h2⟩)
   ·exact .inr (.inl rfl)
   ·exact .inr (.inr (.inr ⟨rfl,h2⟩))
  ·exact .inr (.inr (.inl h1))
theorem TO.lex {α:Type} {lt:α→α→Prop} (h:TO lt):TO (G.lex lt):=⟨Cg8 h,Gz4 h,lex_tri h⟩
theorem Lq1:TO (fun a b:UInt8=>a<b):=⟨fun a=>UInt8.lt_irrefl a,fun a b c h1 h2=>UInt8.lt_trans h1 h2,fun a b=>by
 rcases UInt8.lt_or_le a b with h|h
 ·exact .inl h
 ·rcases UInt8.lt_or_le b a with h2|h2
  ·exact .inr (.inr h2)
  ·exact .inr (.inl (UInt8.le_antisymm h2 h))⟩
abbrev ltB:List UInt8→List UInt8→Prop:=lex fun a b:UInt8=>a<b
theorem Fk3:TO ltB:=Lq1.lex
theorem Ul:∀a b:List UInt8,Op.bytesLess a b=true↔ltB a b
 |[],[]=>by simp [Op.bytesLess,lex]
 |[],_::_=>by simp [Op.bytesLess,lex]
 |_::_,[]=>by simp [Op.bytesLess,lex]
 |a::x,b::y=>by
  have ih:=Ul x y
  simp only [Op.bytesLess,An,decide_eq_true_eq,Av,beq_iff_eq,lex]
  rw [ih]
theorem R7 (a b:List UInt8):cmpS a b<0↔ltB a b:=by
 rw [←Ul]
 unfold cmpS
 cases h:Op.bytesLess a b
 ·simp only [Ab,if_false,iff_false]
  split<;>omega
 ·simp
abbrev ltL:List (List UInt8)→List (List UInt8)→Prop:=lex ltB
theorem to_L:TO ltL:=Fk3.lex
def Bd2 (a b:List (List UInt8)):Int:=match U5 a b with
 |some c=>c
 |none=>if a.length<b.length then -1 else if b.length<a.length then 1 else 0
theorem Aq2:∀a b:List (List UInt8),Bd2 a b<0↔ltL a b
 |[],[]=>by simp [Bd2,U5,lex]
 |[],_::_=>by simp [Bd2,U5,lex]
 |_::_,[]=>by simp [Bd2,U5,lex]
 |x::xs,y::ys=>by
  have ih:=Aq2 xs ys
  simp only [Bd2,U5,lex] at ih ⊢
  by_cases h:x=y
  ·subst h
   rw [if_pos rfl]
   simp only [A0,Nat.add_lt_add_iff_right,true_and]
   rw [ih]
   constructor
   ·exact fun h=> .inr h
   ·rintro (h|h)
    ·exact absurd h (Fk3.irr x)
    ·exact h
  ·rw [if_neg h]
   simp only
   rw [R7]
   simp [h]
theorem qg (a b:List (List UInt8)):Bd1 a b=Bd2 a.reverse b.reverse:=by
 unfold Bd1 Bd2
 cases U5 a.reverse b.reverse<;>simp
theorem Ct9 (a b:List (List UInt8)):Bd1 a b<0↔ltL a.reverse b.reverse:=by
 rw [←Aq2,qg]
def ltN (a b:List UInt8):Prop:=if vld a=true then (if vld b=true then ltL (lbl a).reverse (lbl b).reverse else True) else (if vld b=true then False else ltB a b)
theorem E4 (a b:List UInt8):Iw a b<0↔ltN a b:=by
 unfold ltN
 rcases Ak (vld a) with ha|ha
 ·rcases Ak (vld b) with hb|hb
  ·rw [Zm ha hb,Ct9,if_pos ha,if_pos hb]
  ·unfold Iw;simp [ha,hb]
 ·rcases Ak (vld b) with hb|hb
  ·unfold Iw;simp [ha,hb]
  ·have e:Iw a b=cmpS a b:=by unfold Iw;simp [ha,hb]
   rw [e,R7];simp [ha,hb]
theorem to_N:TO ltN:=by
 refine ⟨fun a h=> ?_,fun a b c h1 h2=> ?_,fun a b=> ?_⟩
 ·unfold ltN at h
  split at h
  ·exact to_L.irr _ h
  ·exact Fk3.irr _ h
 ·unfold ltN at*
  rcases Ak (vld a) with ha|ha<;>rcases Ak (vld b) with hb|hb<;>rcases Ak (vld c) with hc|hc<;>
   simp only [ha,hb,hc,if_true,Ab,if_false] at h1 h2 ⊢
  ·exact to_L.tr _ _ _ h1 h2
  ·exact Fk3.tr _ _ _ h1 h2
 ·unfold ltN
  rcases Ak (vld a) with ha|ha<;>rcases Ak (vld b) with hb|hb<;>simp only [ha,hb,if_true,Ab,if_false]
  ·rcases to_L.tri (lbl a).reverse (lbl b).reverse with h|h|h
   ·exact .inl h
   ·exact .inr (.inl (Nl ha hb (List.reverse_inj.1 h)))
   ·exact .inr (.inr h)
  ·simp
  ·simp
  ·exact Fk3.tri a b
theorem H0 {a b:List UInt8}:Iw a b=0↔a=b:=by
 constructor
 ·intro h
  rcases Ak (vld a) with ha|ha
  ·rcases Ak (vld b) with hb|hb
   ·rw [Zm ha hb] at h
    have key:∀x y:List (List UInt8),Bd2 x y=0→x=y:=by
     intro x
     induction x with
     |nil=>intro y hy;cases y with
      |nil=>rfl
      |cons=>simp [Bd2,U5] at hy
     |cons x xs ih=>intro y hy;cases y with
      |nil=>simp [Bd2,U5] at hy
      |cons y ys=>
       simp only [Bd2,U5] at hy ih
       by_cases e:x=y
       ·subst e
        rw [if_pos rfl] at hy
        simp only [A0,Nat.add_lt_add_iff_right] at hy
        rw [ih ys hy]
       ·rw [if_neg e] at hy
        exact absurd (I5.1 hy) e
    rw [qg] at h
    exact Nl ha hb (List.reverse_inj.1 (key _ _ h))
   ·unfold Iw at h;simp [ha,hb] at h
  ·rcases Ak (vld b) with hb|hb
   ·unfold Iw at h;simp [ha,hb] at h
   ·have e:Iw a b=cmpS a b:=by unfold Iw;simp [ha,hb]
    rw [e] at h;exact I5.1 h
 ·rintro rfl
  have h1:=E4 a a
  have h2:¬Iw a a<0:=fun h=>to_N.irr a (h1.1 h)
  have key:∀x:List (List UInt8),Bd2 x x=0:=by
   intro x
   induction x with
   |nil=>rfl
   |cons x xs ih=>
    simp only [Bd2,U5] at ih ⊢
    simp only [if_true,A0,Nat.add_lt_add_iff_right]
    exact ih
  rcases Ak (vld a) with ha|ha
  ·rw [Zm ha ha]
   rw [qg];exact key _
  ·have e:Iw a a=cmpS a a:=by unfold Iw;simp [ha]
   rw [e];exact I5.2 rfl
end Go.X.G
/- Data of records: what the reference's functions give. -/
namespace Go.X.G
open Go Go.X
def Kp2 (t:Int):List UInt8:=
 if t=1 then [65] else if t=2 then [78,83] else if t=5 then [67,78,65,77,69] else if t=6 then [83,79,65] else if t=12 then [80,84,82]
 else if t=15 then [77,88] else if t=16 then [84,88,84] else if t=28 then [65,65,65,65] else if t=33 then [83,82,86] else if t=39 then [68,78,65,77,69]
 else if t=43 then [68,83] else if t=46 then [82,82,83,73,71] else if t=47 then [78,83,69,67] else if t=48 then [68,78,83,75,69,89] else []
theorem t15 (t:Int):t=1∨t=2∨t=5∨t=6∨t=12∨t=15∨t=16∨t=28∨t=33∨t=39∨t=43∨t=46∨t=47∨t=48∨(t≠1∧t≠2∧t≠5∧t≠6∧t≠12∧t≠15∧t≠16∧t≠28∧t≠33∧t≠39∧t≠43∧t≠46∧t≠47∧t≠48):=by omega
theorem tp (t:Int):S f7 1 [.i .i64 t]=some [.s (Kp2 t)]:=by
 refine Jn3 (N:=1) rfl ?_
 rcases t15 t with rfl|rfl|rfl|rfl|rfl|rfl|rfl|rfl|rfl|rfl|rfl|rfl|rfl|rfl|⟨h0,h1,h2,h3,h4,h5,h6,h7,h8,h9,h10,h11,h12,h13⟩
 all_goals simp (disch:=omega) only [Jz2,xe,EVP,↓reduceIte,EV,Nat.reduceAdd,Nat.reduceEqDiff,Int.reduceToNat,reduceCtorEq]
 all_goals first|rfl|(unfold Kp2;simp only [if_neg, *];rfl)
def knw (t:Int):Bool:=decide (t=1)||decide (t=2)||decide (t=5)||decide (t=6)||decide (t=12)||decide (t=15)||decide (t=16)||decide (t=28)||decide (t=33)||decide (t=39)||decide (t=43)||decide (t=46)||decide (t=47)||decide (t=48)
theorem Fr4 (t:Int):decide (Kp2 t≠[])=knw t:=by
 unfold Kp2 knw
 rcases t15 t with rfl|rfl|rfl|rfl|rfl|rfl|rfl|rfl|rfl|rfl|rfl|rfl|rfl|rfl|⟨h0,h1,h2,h3,h4,h5,h6,h7,h8,h9,h10,h11,h12,h13⟩
 all_goals simp [*]
theorem Cz (t:Int):S Y2 1 [.i .i64 t]=some [.b (knw t)]:=by
 refine Lv7 (N:=1) rfl ?_
 simp (disch:=omega) only [Kr7,tp,Fr4,xe,EVP,↓reduceIte,EV,Nat.reduceAdd,Nat.reduceEqDiff,Int.reduceToNat,reduceCtorEq]
theorem kq (t:Int):S gt 1 [.i .i64 t]=some [.b (decide (t=6)||decide (t=5)||decide (t=39))]:=by
 refine Jr9 (N:=1) rfl ?_
 simp (disch:=omega) only [Jb1,xe,EVP,↓reduceIte,EV,Nat.reduceAdd,Nat.reduceEqDiff,Int.reduceToNat,reduceCtorEq]
def Dp (d:Dat):Bool:=d.v6||(decide (d.hi=0) && decide (d.lo<4294967296))
theorem j9 (d:Dat):S Wg 1 [I7 d]=some [.b (Dp d)]:=by
 refine Jn1 (N:=1) rfl ?_
 unfold Dp
 cases h:d.v6<;>by_cases h2:d.hi=0<;>simp (disch:=omega) [Jz0,h,h2,xe,EVP,↓reduceIte,EV,Nat.reduceAdd,Nat.reduceEqDiff,Int.reduceToNat,reduceCtorEq]
def inB (n most:Int):Bool:=decide (0≤n) && decide (n≤most)
theorem By9 (n m:Int):S Gl 2 [.i .i64 n,.i .i64 m]=some [.b (inB n m)]:=by
 refine Jm9 (N:=1) rfl ?_
 simp (disch:=omega) only [Jy9,inB,xe,EVP,↓reduceIte,EV,Nat.reduceAdd,Nat.reduceEqDiff,Int.reduceToNat,reduceCtorEq]
theorem Et6 (n:Int):S Cb7 1 [.i .i64 n]=some [.b (inB n 4294967295)]:=by
 refine Ly7 (N:=1) rfl ?_
 simp (disch:=omega) only [Kt0,inB,xe,EVP,↓reduceIte,EV,Nat.reduceAdd,Nat.reduceEqDiff,Int.reduceToNat,reduceCtorEq]
 congr 5
 simp;omega
def F9 (s:List UInt8):Bool:=decide (1≤s.length) && decide (s.length≤255)
theorem Yj (s:List UInt8):S Tx 1 [.s s]=some [.b (F9 s)]:=by
 refine Jm8 (N:=1) rfl ?_
 simp (disch:=omega) only [Jy8,F9,xe,EVP,↓reduceIte,EV,Nat.reduceAdd,Nat.reduceEqDiff,Int.reduceToNat,reduceCtorEq]
 congr 5<;>simp<;>omega
theorem Bn0 {n:List UInt8} (h:vld n=true):0<n.length:=by
 unfold vld nm at h
 split at h
 ·rename_i e;simp [e]
 ·split at h
  ·omega
  ·cases h
def Ft (n:List UInt8):Bool:=vld n && decide (n[0]? ≠some 42)
theorem Hf (n:List UInt8) (hn:n.length≤9223372036854775807):S M6 1 [.s n]=some [.b (Ft n)]:=by
 refine Jn0 (N:=1) rfl ?_
 unfold Ft
 cases h:vld n
 ·simp (disch:=omega) only [Gv9,Fg,h,xe,EVP,↓reduceIte,EV,Nat.reduceAdd,Nat.reduceEqDiff,Int.reduceToNat,reduceCtorEq]
  rfl
 ·have h0:=Ax (Bn0 h)
  have h1:=Iy0 (n[0]'(Bn0 h)) 42 (by omega)
  simp (disch:=omega) only [Gv9,Fg,h,h0,xe,EVP,↓reduceIte,EV,Nat.reduceAdd,Nat.reduceEqDiff,Int.reduceToNat,reduceCtorEq]
  simp
  exact h1
def bit (set:Int) (t:Nat):Int:=set / 2 ^ t % 2
theorem Kn2 (x:Int):IntKind.u64.wrap ((BitVec.ofInt IntKind.u64.bits x &&& BitVec.ofInt IntKind.u64.bits 1).toNat:Int)=x % 2:=by
 have h2:(BitVec.ofInt 64 x &&& BitVec.ofInt 64 1).toNat=(BitVec.ofInt 64 x).toNat % 2:=by
  rw [BitVec.toNat_and]
  show (BitVec.ofInt 64 x).toNat &&& 1=_
  exact Nat.and_one_is_mod _
 show IntKind.u64.wrap (((BitVec.ofInt 64 x &&& BitVec.ofInt 64 1).toNat:Nat):Int)=_
 rw [h2,BitVec.toNat_ofInt]
 rw [Lj7]<;>omega
end Go.X.G
/- Data of records: bytes. -/
namespace Go.X.G
open Go Go.X
def Ap9 (set:Int) (i:Nat):Nat→Bool
 |0=>true
 |k+1=>(!decide (bit set i=1)||knw (i:Int)) && Ap9 set (i+1) k
theorem Kn4 (set:Int) (N:Nat) (hN:64<N):
  Cm9.ev S N [.i .u64 set]=some (if Ap9 set 0 64=true then .yld 0 [] else .ret [.b false]):=by
 refine Ev 64 (fun i=>[.i .i64 (i:Int)]) (fun i=>if Ap9 set i (64 - i)=true then .yld 0 [] else .ret [.b false]) rfl hN (fun i hi=> ?_) ?_
 ·obtain ⟨k,hk⟩:∃k,64 - i=k+1:=⟨63 - i,by omega⟩
  have hk':64 - (i+1)=k:=by omega
  have hb:IntKind.u64.bits=64:=rfl
  have hi':i<IntKind.u64.bits:=by rw [hb];exact hi
  have h0:X.bin .shr (.i .u64 set) (.i .u64 (i:Int))=some (.i .u64 (set / 2 ^ i)):=As8 _ _ _ _ hi'
  have h1:set / 2 ^ i % 2=bit set i:=rfl
  rw [hk,hk']
  simp only [Ap9]
  by_cases h2:bit set i=1<;>rcases Ak (knw (i:Int)) with h3|h3<;>simp (disch:=omega) only [Bm1,Cz,Un,Kn2,h0,h1,h2,h3,xe,EVP,↓reduceIte,EV,Nat.reduceAdd,Nat.reduceEqDiff,Int.reduceToNat,reduceCtorEq]
  all_goals simp [Out.goes]
 ·simp (disch:=omega) [Bm1,xe,EVP,↓reduceIte,EV,Nat.reduceAdd,Nat.reduceEqDiff,Int.reduceToNat,reduceCtorEq,Out.goes,Ap9]
theorem Kn3 (set:Int):S f3 1 [.i .u64 set]=some [.b (Ap9 set 0 64)]:=by
 refine Jm7 (N:=65) rfl ?_
 simp (disch:=omega) only [Bm1,Kn4,xe,EVP,↓reduceIte,EV,Nat.reduceAdd,Nat.reduceEqDiff,Int.reduceToNat,reduceCtorEq]
 cases Ap9 set 0 64<;>rfl
def be (v:Int):Nat→List UInt8
 |0=>[]
 |n+1=>UInt8.ofNat (v / 256 ^ n % 256).toNat::be v n
theorem Dh (v:Int):∀n,(be v n).length=n
 |0=>rfl
 |n+1=>by simp [be,Dh v n]
theorem S7 (z:Int) (h1:0≤z) (h2:z<256):((UInt8.ofNat z.toNat).toNat:Int)=z:=by
 simp;omega
theorem qb (v:Int) (j:Nat):v / 256 ^ j / 256=v / 256 ^ (j+1):=by
 rw [Int.pow_succ,Int.ediv_ediv_of_nonneg (Int.le_of_lt (Int.pow_pos (by decide)))]
theorem jg (v:Int) (j:Nat) (h:0≤v):0≤v / 256 ^ j:=Int.ediv_nonneg h (Int.le_of_lt (Int.pow_pos (by decide)))
theorem jh (v:Int) (j:Nat) (h:0≤v):v / 256 ^ j≤v:=Int.ediv_le_self _ h
theorem Cz3 (v:Int) (n i:Nat) (p q:PV) (N:Nat) (hN:i<N) (hi:i≤1000) (h0:0≤v) (h1:v≤18446744073709551615):
  Cl1.ev S N [.i .u64 v,p,q,.i .i64 (i:Int)]=some (.yld 2 [.i .u64 (v / 256 ^ i)]):=by
 refine Ev i (fun j=>[.i .u64 (v / 256 ^ j),.i .i64 (j:Int)]) (fun j=> .yld 2 [.i .u64 (v / 256 ^ i)]) (by simp [Zx,o7,Mj5,Mj9]) hN (fun j hj=> ?_) ?_
 ·left
  have h2:=jg v j h0
  have h3:=jh v j h0
  have h4:=qb v j
  simp (disch:=omega) only [bc,h4,xe,EVP,↓reduceIte,EV,Nat.reduceAdd,Nat.reduceEqDiff,Int.reduceToNat,reduceCtorEq]
  simp
 ·simp (disch:=omega) only [bc,xe,EVP,↓reduceIte,EV,Nat.reduceAdd,Nat.reduceEqDiff,Int.reduceToNat,reduceCtorEq]
  simp [Out.goes]
theorem Cz4 (v:Int) (n:Nat) (N:Nat) (hN:n+1<N) (hn:n≤1000) (h0:0≤v) (h1:v≤18446744073709551615):
  ov.ev S N [.i .u64 v,.i .i64 (n:Int)]=some (.yld 0 [.l 1 (Bs (be v n))]):=by
 have key:=I1 (fn:=S) (N:=N) (η:=[.i .u64 v,.i .i64 (n:Int)]) (id:=1) (init:=[(.c (.l 1 [])),(.bin .sub (.v 1) (.c (.i .i64 (1))))]) (body:=s9) (α:=Nat×List UInt8) (fun a=>[.l 1 (Bs a.2),.i .i64 ((a.1:Int) - 1)]) (fun a=> .yld 0 [.l 1 (Bs (a.2++be v a.1))]) (fun a=>a.1+a.2.length=n) (fun a=>a.1) (n,[]) (by simp (disch:=omega) only [xe,EVP,↓reduceIte,EV,Nat.reduceAdd,Nat.reduceEqDiff,Int.reduceToNat,reduceCtorEq];rfl) rfl (by simp only;omega) ?_
 ·simpa [ov] using key
 ·rintro ⟨m,acc⟩ hm
  simp only at hm ⊢
  cases m with
  |zero=>
   right
   simp (disch:=omega) only [bc,xe,EVP,↓reduceIte,EV,Nat.reduceAdd,Nat.reduceEqDiff,Int.reduceToNat,reduceCtorEq]
   simp [be,Out.goes]
  |succ m=>
   left
   have h2:=jg v m h0
   have h3:=jh v m h0
   have e:((m+1:Nat):Int) - 1=(m:Int):=by omega
   have e2:=S7 (v / 256 ^ m % 256) (by omega) (by omega)
   have e3:=L3 acc
   refine ⟨(m,acc++[UInt8.ofNat (v / 256 ^ m % 256).toNat]),?_,by simp;omega,by simp,by simp [be]⟩
   rw [e]
   have hin:=Cz3 v n m (.i .i64 (n:Int)) (.l 1 (Bs acc)) N (by omega) (by omega) h0 h1
   simp (disch:=omega) only [bc,hin,xe,EVP,↓reduceIte,EV,Nat.reduceAdd,Nat.reduceEqDiff,Int.reduceToNat,reduceCtorEq]
   rw [←Qd,e2]
theorem S8 (v:Int) (n:Nat) (hn:n≤1000) (h0:0≤v) (h1:v≤18446744073709551615):S Tv 2 [.i .u64 v,.i .i64 (n:Int)]=some [.s (be v n)]:=by
 refine Jg8 (N:=n+2) rfl ?_
 simp (disch:=omega) only [bc,Cz4,xe,EVP,↓reduceIte,EV,Nat.reduceAdd,Nat.reduceEqDiff,Int.reduceToNat,reduceCtorEq]
theorem Et7 (v:Int) (n i:Nat) (p q:PV) (N:Nat) (hN:i<N) (hi:i≤1000) (h0:0≤v) (h1:v≤9223372036854775807):
  Cl3.ev S N [.i .i64 v,p,q,.i .i64 (i:Int)]=some (.yld 2 [.i .i64 (v / 256 ^ i)]):=by
 refine Ev i (fun j=>[.i .i64 (v / 256 ^ j),.i .i64 (j:Int)]) (fun j=> .yld 2 [.i .i64 (v / 256 ^ i)]) (by simp [Zx,o7,Mj5,Mj9]) hN (fun j hj=> ?_) ?_
 ·left
  have h2:=jg v j h0
  have h3:=jh v j h0
  have h4:=qb v j
  simp (disch:=omega) only [bd,h4,xe,EVP,↓reduceIte,EV,Nat.reduceAdd,Nat.reduceEqDiff,Int.reduceToNat,reduceCtorEq]
  simp
 ·simp (disch:=omega) only [bd,xe,EVP,↓reduceIte,EV,Nat.reduceAdd,Nat.reduceEqDiff,Int.reduceToNat,reduceCtorEq]
  simp [Out.goes]
theorem Et8 (v:Int) (n:Nat) (N:Nat) (hN:n+1<N) (hn:n≤1000) (h0:0≤v) (h1:v≤9223372036854775807):
  ow.ev S N [.i .i64 v,.i .i64 (n:Int)]=some (.yld 0 [.l 1 (Bs (be v n))]):=by
 have key:=I1 (fn:=S) (N:=N) (η:=[.i .i64 v,.i .i64 (n:Int)]) (id:=1) (init:=[(.c (.l 1 [])),(.bin .sub (.v 1) (.c (.i .i64 (1))))]) (body:=tj) (α:=Nat×List UInt8) (fun a=>[.l 1 (Bs a.2),.i .i64 ((a.1:Int) - 1)]) (fun a=> .yld 0 [.l 1 (Bs (a.2++be v a.1))]) (fun a=>a.1+a.2.length=n) (fun a=>a.1) (n,[]) (by simp (disch:=omega) only [xe,EVP,↓reduceIte,EV,Nat.reduceAdd,Nat.reduceEqDiff,Int.reduceToNat,reduceCtorEq];rfl) rfl (by simp only;omega) ?_
 ·simpa [ow] using key
 ·rintro ⟨m,acc⟩ hm
  simp only at hm ⊢
  cases m with
  |zero=>
   right
   simp (disch:=omega) only [bd,xe,EVP,↓reduceIte,EV,Nat.reduceAdd,Nat.reduceEqDiff,Int.reduceToNat,reduceCtorEq]
   simp [be,Out.goes]
  |succ m=>
   left
   have h2:=jg v m h0
   have h3:=jh v m h0
   have e:((m+1:Nat):Int) - 1=(m:Int):=by omega
   have e2:=S7 (v / 256 ^ m % 256) (by omega) (by omega)
   have e3:=L3 acc
   refine ⟨(m,acc++[UInt8.ofNat (v / 256 ^ m % 256).toNat]),?_,by simp;omega,by simp,by simp [be]⟩
   rw [e]
   have hin:=Et7 v n m (.i .i64 (n:Int)) (.l 1 (Bs acc)) N (by omega) (by omega) h0 h1
   simp (disch:=omega) only [bd,hin,xe,EVP,↓reduceIte,EV,Nat.reduceAdd,Nat.reduceEqDiff,Int.reduceToNat,reduceCtorEq]
   rw [←Qd,e2]
theorem L9 (v:Int) (n:Nat) (hn:n≤1000) (h0:0≤v) (h1:v≤9223372036854775807):S Em 2 [.i .i64 v,.i .i64 (n:Int)]=some [.s (be v n)]:=by
 refine Jh6 (N:=n+2) rfl ?_
 simp (disch:=omega) only [bd,Et8,xe,EVP,↓reduceIte,EV,Nat.reduceAdd,Nat.reduceEqDiff,Int.reduceToNat,reduceCtorEq]
end Go.X.G
/- Data of records: the wire form. -/
namespace Go.X.G
open Go Go.X
theorem Tr {s:List UInt8} (h:Ib s=true):s.length≤63:=by
 unfold Ib at h
 simp at h
 rcases h with h|h
 ·simp [h]
 ·omega
theorem Yk:∀(r:List UInt8) (f:Bool) (cur:List UInt8) (l:List (List UInt8)),spl f cur r=some l→∀x∈l,Ib x=true
 |[],f,cur,l,h=>by simp [spl] at h;subst h;simp
 |c::r,f,cur,l,h=>by
  simp only [spl] at h
  split at h
  ·split at h
   ·rename_i h2
    obtain ⟨m,hm,rfl⟩:=Aw.1 h
    intro x hx
    simp at hx
    rcases hx with rfl|hx
    ·exact h2.1
    ·exact Yk r _ _ _ hm x hx
   ·cases h
  ·exact Yk r _ _ _ h
theorem O3 (n:List UInt8):∀x∈lbl n,Ib x=true:=by
 unfold lbl nm
 split
 ·simp
 ·split
  ·cases h:spl true [] n with
   |none=>simp
   |some l=>simpa using Yk _ _ _ _ h
  ·simp
def wireL (l:List (List UInt8)):List UInt8:=l.flatMap fun x=>be (x.length:Int) 1++x
def Ix (n:List UInt8):List UInt8:=wireL (lbl n)++be 0 1
theorem Oq:∀(l:List (List UInt8)),(∀x∈l,Ib x=true)→(wireL l).length≤64*l.length
 |[],_=>by simp [wireL]
 |x::l,h=>by
  have h1:=Tr (h x (by simp))
  have h2:=Oq l (fun y hy=>h y (by simp [hy]))
  simp only [wireL,Fp,Az,Dh,A0] at h2 ⊢
  omega
theorem Oj (n:List UInt8):(Ix n).length≤20000:=by
 have h1:=Oq (lbl n) (O3 n)
 have h2:=Gz n
 simp only [Ix,Az,Dh]
 omega
theorem tn (n:List UInt8) (N:Nat) (hN:254<N):
  ox.ev S N [.s n,Bq (lbl n)]=some (.yld 0 [.s (wireL (lbl n))]):=by
 have hl:=Gz n
 have key:=En (fn:=S) (N:=N) (η:=[.s n,Bq (lbl n)]) (id:=1) (init:=[(.c (.s [])),(.c (.i .i64 (0)))]) (body:=tq) (lbl n) (fun i (g:List UInt8)=>[.s g,.i .i64 (i:Int)]) (fun i g r=> .yld 0 [.s (g++wireL r)]) (fun i g=>g.length≤64*i) [] rfl (Ac _) (by omega) (fun i g c r hd hi hc hI=> ?_) (fun g hI=> ?_)
 ·simpa [ox] using key
 ·left
  have h1:=Tr (O3 n c (Am hc))
  have h2:=L9 (c.length:Int) 1 (by omega) (by omega) (by omega)
  have h3:=Dh (c.length:Int) 1
  have h4:(be (c.length:Int) 1++c).length=1+c.length:=by rw [Az,h3]
  refine ⟨g++(be (c.length:Int) 1++c),?_,?_,?_⟩
  ·simp only [Int.natCast_one] at h2
   simp (disch:=omega) only [Bl7,hc,h2,xe,EVP,↓reduceIte,EV,Nat.reduceAdd,Nat.reduceEqDiff,Int.reduceToNat,reduceCtorEq]
  ·rw [Az,h4];omega
  ·simp [wireL]
 ·simp (disch:=omega) only [Bl7,xe,EVP,↓reduceIte,EV,Nat.reduceAdd,Nat.reduceEqDiff,Int.reduceToNat,reduceCtorEq]
  simp [Out.goes,wireL]
theorem Ex (n:List UInt8) (hn:n.length≤9223372036854775807):S Ld 1 [.s n]=some [.s (Ix n)]:=by
 refine Jh7 (N:=255) rfl ?_
 have h1:=Oq (lbl n) (O3 n)
 have h2:=Gz n
 have h3:=Dh 0 1
 have h4:=L9 0 1 (by omega) (by omega) (by omega)
 simp only [Int.natCast_one] at h4
 simp (disch:=omega) only [Bl7,Hc,tn,h4,xe,EVP,↓reduceIte,EV,Nat.reduceAdd,Nat.reduceEqDiff,Int.reduceToNat,reduceCtorEq]
 rfl
def bmV (set:Int) (i:Nat):Nat→Int
 |0=>0
 |j+1=>bmV set i j*2+bit set (i*8+j)
theorem En2 (set:Int) (t:Nat):0≤bit set t∧bit set t≤1:=by unfold bit;omega
theorem Xv (set:Int) (i:Nat):∀j,0≤bmV set i j∧bmV set i j<2 ^ j
 |0=>by simp [bmV]
 |j+1=>by
  have h1:=Xv set i j
  have h2:=En2 set (i*8+j)
  simp only [bmV,Int.pow_succ]
  omega
def bmB (set:Int) (i:Nat):UInt8:=UInt8.ofNat (bmV set i 8).toNat
def bmL (set:Int):Nat→Nat
 |0=>0
 |i+1=>if bmV set i 8≠0 then i+1 else bmL set i
theorem Em5 (set:Int):∀i,bmL set i≤i
 |0=>Ac _
 |i+1=>by have:=Em5 set i;simp only [bmL];split<;>omega
def bmap (set:Int):List UInt8:=((List.range 8).map (bmB set)).take (bmL set 8)
theorem Em9 (set:Int) (p q:PV) (i:Nat) (hi:i<8) (N:Nat) (hN:8<N):
  Cl2.ev S N [.i .u64 set,p,q,.i .i64 (i:Int)]=some (.yld 2 [.i .i64 (bmV set i 8)]):=by
 refine Ev 8 (fun j=>[.i .i64 (bmV set i j),.i .i64 (j:Int)]) (fun j=> .yld 2 [.i .i64 (bmV set i 8)]) rfl hN (fun j hj=> ?_) ?_
 ·left
  have hb:IntKind.u64.bits=64:=rfl
  have hi':i*8+j<IntKind.u64.bits:=by rw [hb];omega
  have e:((i:Int)*8+(j:Int))=((i*8+j:Nat):Int):=by simp
  have h0:X.bin .shr (.i .u64 set) (.i .u64 ((i*8+j:Nat):Int))=some (.i .u64 (set / 2 ^ (i*8+j))):=As8 _ _ _ _ hi'
  have h1:set / 2 ^ (i*8+j) % 2=bit set (i*8+j):=rfl
  have h2:=Xv set i j
  have h3:(2:Int) ^ j≤128:=(by decide:∀j,j<8→(2:Int) ^ j≤128) j hj
  have h4:=En2 set (i*8+j)
  simp (disch:=omega) only [Vm,Un,Kn2,h0,h1,←e,xe,EVP,↓reduceIte,EV,Nat.reduceAdd,Nat.reduceEqDiff,Int.reduceToNat,reduceCtorEq]
  refine ⟨?_,trivial⟩
  rw [e,h0]
  simp (disch:=omega) only [Un,Kn2,h0,h1,xe,EVP,↓reduceIte,EV,Nat.reduceAdd,Nat.reduceEqDiff,Int.reduceToNat,reduceCtorEq]
  rfl
 ·simp (disch:=omega) only [Vm,xe,EVP,↓reduceIte,EV,Nat.reduceAdd,Nat.reduceEqDiff,Int.reduceToNat,reduceCtorEq]
  simp [Out.goes]
theorem En0 (set:Int) (N:Nat) (hN:8<N):
  Cm1.ev S N [.i .u64 set]=some (.yld 0 [.l 1 (Bs ((List.range 8).map (bmB set))),.i .i64 (bmL set 8:Int)]):=by
 refine Ev 8 (fun i=>[.l 1 (Bs ((List.range i).map (bmB set))),.i .i64 (bmL set i:Int),.i .i64 (i:Int)]) (fun _=> .yld 0 [.l 1 (Bs ((List.range 8).map (bmB set))),.i .i64 (bmL set 8:Int)]) rfl hN (fun i hi=> ?_) ?_
 ·left
  have h1:=Em9 set (.l 1 (Bs ((List.range i).map (bmB set)))) (.i .i64 (bmL set i:Int)) i hi N hN
  have h2:=Xv set i 8
  have h3:(2:Int) ^ 8=256:=rfl
  have h4:=S7 (bmV set i 8) (by omega) (by omega)
  have h5:(Bs ((List.range i).map (bmB set))).length=i:=by simp [L3]
  have h6:Bs ((List.range (i+1)).map (bmB set))=Bs ((List.range i).map (bmB set))++[.i .u8 (bmV set i 8)]:=by
   rw [List.range_succ,List.map_append,←h4]
   exact (Qd _ _).symm
  rw [h6]
  by_cases h7:bmV set i 8=0
  ·simp (disch:=omega) only [Vm,h1,bmL,h7,xe,EVP,↓reduceIte,EV,Nat.reduceAdd,Nat.reduceEqDiff,Int.reduceToNat,reduceCtorEq]
   simp
  ·simp (disch:=omega) only [Vm,h1,bmL,xe,EVP,↓reduceIte,EV,Nat.reduceAdd,Nat.reduceEqDiff,Int.reduceToNat,reduceCtorEq]
   simp [h7]
 ·simp (disch:=omega) only [Vm,xe,EVP,↓reduceIte,EV,Nat.reduceAdd,Nat.reduceEqDiff,Int.reduceToNat,reduceCtorEq]
  simp [Out.goes]
theorem Em8 (set:Int):S fy 1 [.i .u64 set]=some [.s (bmap set)]:=by
 refine Jh5 (N:=9) rfl ?_
 have h1:=Em5 set 8
 have h2:(Bs ((List.range 8).map (bmB set))).length=8:=by simp [L3]
 have h3:List.drop 0 (List.take (bmL set 8) (Bs ((List.range 8).map (bmB set))))=Bs (bmap set):=by
  simp only [Dy,bmap,Bs,List.map_take]
 simp (disch:=omega) only [Vm,En0,h3,xe,EVP,↓reduceIte,EV,Nat.reduceAdd,Nat.reduceEqDiff,Int.reduceToNat,reduceCtorEq]
theorem Z3 (set:Int):(bmap set).length≤8:=by simp [bmap];omega
def Ov (d:Dat):List UInt8:=if d.v6 then be d.hi 8++be d.lo 8 else be d.lo 4
theorem Ar2 (d:Dat) (h:d.wf):S fz 1 [I7 d]=some (if Dp d=true then [.s (Ov d),.i .i64 0] else [.s [],.i .i64 3]):=by
 refine Jh8 (N:=1) rfl ?_
 have h1:=h.hi
 have h2:=h.lo
 have a1:=S8 d.hi 8 (by omega) h1.1 h1.2
 have a2:=S8 d.lo 8 (by omega) h2.1 h2.2
 have a3:=S8 d.lo 4 (by omega) h2.1 h2.2
 have b1:=Dh d.hi 8
 have b2:=Dh d.lo 8
 simp only [Int.cast_ofNat_Int] at a1 a2 a3
 unfold Ov
 rcases Ak (Dp d) with h3|h3<;>rcases Ak d.v6 with h4|h4<;>simp (disch:=omega) only [Jy1,j9,h3,h4,a1,a2,a3,xe,EVP,↓reduceIte,EV,Nat.reduceAdd,Nat.reduceEqDiff,Int.reduceToNat,reduceCtorEq]
def usd (t:Int) (d:Dat):Dat:=
 if t=1∨t=28 then ⟨d.v6,d.hi,d.lo,[],[],[],0,0,0,0,0,0,0⟩
 else if t=2∨t=5∨t=12∨t=39 then ⟨false,0,0,d.host,[],[],0,0,0,0,0,0,0⟩
 else if t=6 then ⟨false,0,0,d.host,d.mail,[],d.a,d.b,d.c,d.d,d.e,0,0⟩
 else if t=15 then ⟨false,0,0,d.host,[],[],d.a,0,0,0,0,0,0⟩
 else if t=16 then ⟨false,0,0,[],[],d.text,0,0,0,0,0,0,0⟩
 else if t=33 then ⟨false,0,0,d.host,[],[],d.a,d.b,d.c,0,0,0,0⟩
 else if t=43∨t=48 then ⟨false,0,0,[],[],d.text,d.a,d.b,d.c,0,0,0,0⟩
 else if t=46 then ⟨false,0,0,d.host,[],d.text,d.a,d.b,d.c,d.d,d.e,d.f,0⟩
 else ⟨false,0,0,d.host,[],[],0,0,0,0,0,0,d.bits⟩
theorem Gt (t:Int) (d:Dat):S f4 2 [.i .i64 t,d.pv]=some [(usd t d).pv]:=by
 refine Jn2 (N:=1) rfl ?_
 rcases t15 t with rfl|rfl|rfl|rfl|rfl|rfl|rfl|rfl|rfl|rfl|rfl|rfl|rfl|rfl|⟨h0,h1,h2,h3,h4,h5,h6,h7,h8,h9,h10,h11,h12,h13⟩
 all_goals simp (disch:=omega) only [Jz1,xe,EVP,↓reduceIte,EV,Nat.reduceAdd,Nat.reduceEqDiff,Int.reduceToNat,reduceCtorEq]
 all_goals first|rfl|(unfold usd;simp [*])
end Go.X.G
/- Data of records: which are valid. -/
namespace Go.X.G
open Go Go.X
def Cd (t:Int) (d:Dat):Bool:=
 if t=1 then Dp d && !d.v6
 else if t=28 then d.v6
 else if t=6 then Ft d.host && Ft d.mail && inB d.a 4294967295 && inB d.b 2147483647 && inB d.c 2147483647 && inB d.d 2147483647 && inB d.e 2147483647
 else if t=15 then Ft d.host && inB d.a 65535
 else if t=16 then decide (d.text.length≤255)
 else if t=33 then Ft d.host && inB d.a 65535 && inB d.b 65535 && inB d.c 65535
 else if t=43 then inB d.a 65535 && inB d.b 255 && inB d.c 255 && F9 d.text
 else if t=46 then knw d.a && decide (d.a≠46) && inB d.b 127 && inB d.c 2147483647 && inB d.d 4294967295 && inB d.e 4294967295 && inB d.f 65535 && Ft d.host && F9 d.text
 else if t=47 then vld d.host && decide (d.bits≠0) && Ap9 d.bits 0 64
 else if t=48 then (decide (d.a=256)||decide (d.a=257)) && decide (d.b=3) && inB d.c 255 && F9 d.text
 else Ft d.host
def Dc (t:Int) (d:Dat):Bool:=knw t && decide (usd t d=d) && Cd t d
theorem Ez (t:Int) (d:Dat) (h:d.wf):S Bv9 2 [.i .i64 t,d.pv]=some [.b (Dc t d)]:=by
 refine Lv6 (N:=1) rfl ?_
 have g1:=h.host
 have g2:=h.mail
 have g3:=h.text
 unfold K3 at g1 g2 g3
 rcases Ak (knw t) with hk|hk
 ·by_cases hu:usd t d=d
  ·rcases t15 t with rfl|rfl|rfl|rfl|rfl|rfl|rfl|rfl|rfl|rfl|rfl|rfl|rfl|rfl|⟨h0,h1,h2,h3,h4,h5,h6,h7,h8,h9,h10,h11,h12,h13⟩
   ·rcases ch2 (Dp d) (d.v6) with e0|⟨e0,e1⟩|⟨e0,e1⟩
    all_goals simp (disch:=omega) only [M0,Cz,Gt,j9,xe,EVP,↓reduceIte,EV,Nat.reduceAdd,Nat.reduceEqDiff,Int.reduceToNat,reduceCtorEq,hk,hu, *]
    all_goals (unfold Dc Cd;simp [*])
   ·simp (disch:=omega) only [M0,Cz,Gt,Hf,xe,EVP,↓reduceIte,EV,Nat.reduceAdd,Nat.reduceEqDiff,Int.reduceToNat,reduceCtorEq,hk,hu]
    unfold Dc Cd;simp [*]
   ·simp (disch:=omega) only [M0,Cz,Gt,Hf,xe,EVP,↓reduceIte,EV,Nat.reduceAdd,Nat.reduceEqDiff,Int.reduceToNat,reduceCtorEq,hk,hu]
    unfold Dc Cd;simp [*]
   ·rcases ch7 (Ft d.host) (Ft d.mail) (inB d.a 4294967295) (inB d.b 2147483647) (inB d.c 2147483647) (inB d.d 2147483647) (inB d.e 2147483647) with e0|⟨e0,e1⟩|⟨e0,e1,e2⟩|⟨e0,e1,e2,e3⟩|⟨e0,e1,e2,e3,e4⟩|⟨e0,e1,e2,e3,e4,e5⟩|⟨e0,e1,e2,e3,e4,e5,e6⟩|⟨e0,e1,e2,e3,e4,e5,e6⟩
    all_goals simp (disch:=omega) only [M0,Cz,Gt,Hf,Et6,By9,xe,EVP,↓reduceIte,EV,Nat.reduceAdd,Nat.reduceEqDiff,Int.reduceToNat,reduceCtorEq,hk,hu, *]
    all_goals (unfold Dc Cd;simp [*])
   ·simp (disch:=omega) only [M0,Cz,Gt,Hf,xe,EVP,↓reduceIte,EV,Nat.reduceAdd,Nat.reduceEqDiff,Int.reduceToNat,reduceCtorEq,hk,hu]
    unfold Dc Cd;simp [*]
   ·rcases ch2 (Ft d.host) (inB d.a 65535) with e0|⟨e0,e1⟩|⟨e0,e1⟩
    all_goals simp (disch:=omega) only [M0,Cz,Gt,Hf,By9,xe,EVP,↓reduceIte,EV,Nat.reduceAdd,Nat.reduceEqDiff,Int.reduceToNat,reduceCtorEq,hk,hu, *]
    all_goals (unfold Dc Cd;simp [*])
   ·simp (disch:=omega) only [M0,Cz,Gt,Hf,xe,EVP,↓reduceIte,EV,Nat.reduceAdd,Nat.reduceEqDiff,Int.reduceToNat,reduceCtorEq,hk,hu]
    unfold Dc Cd;simp [*];omega
   ·simp (disch:=omega) only [M0,Cz,Gt,Hf,xe,EVP,↓reduceIte,EV,Nat.reduceAdd,Nat.reduceEqDiff,Int.reduceToNat,reduceCtorEq,hk,hu]
    unfold Dc Cd;simp [*]
   ·rcases ch4 (Ft d.host) (inB d.a 65535) (inB d.b 65535) (inB d.c 65535) with e0|⟨e0,e1⟩|⟨e0,e1,e2⟩|⟨e0,e1,e2,e3⟩|⟨e0,e1,e2,e3⟩
    all_goals simp (disch:=omega) only [M0,Cz,Gt,Hf,By9,xe,EVP,↓reduceIte,EV,Nat.reduceAdd,Nat.reduceEqDiff,Int.reduceToNat,reduceCtorEq,hk,hu, *]
    all_goals (unfold Dc Cd;simp [*])
   ·simp (disch:=omega) only [M0,Cz,Gt,Hf,xe,EVP,↓reduceIte,EV,Nat.reduceAdd,Nat.reduceEqDiff,Int.reduceToNat,reduceCtorEq,hk,hu]
    unfold Dc Cd;simp [*]
   ·rcases ch4 (inB d.a 65535) (inB d.b 255) (inB d.c 255) (F9 d.text) with e0|⟨e0,e1⟩|⟨e0,e1,e2⟩|⟨e0,e1,e2,e3⟩|⟨e0,e1,e2,e3⟩
    all_goals simp (disch:=omega) only [M0,Cz,Gt,By9,Yj,xe,EVP,↓reduceIte,EV,Nat.reduceAdd,Nat.reduceEqDiff,Int.reduceToNat,reduceCtorEq,hk,hu, *]
    all_goals (unfold Dc Cd;simp [*])
   ·rcases ch9 (knw d.a) (decide (d.a≠46)) (inB d.b 127) (inB d.c 2147483647) (inB d.d 4294967295) (inB d.e 4294967295) (inB d.f 65535) (Ft d.host) (F9 d.text) with e0|⟨e0,e1⟩|⟨e0,e1,e2⟩|⟨e0,e1,e2,e3⟩|⟨e0,e1,e2,e3,e4⟩|⟨e0,e1,e2,e3,e4,e5⟩|⟨e0,e1,e2,e3,e4,e5,e6⟩|⟨e0,e1,e2,e3,e4,e5,e6,e7⟩|⟨e0,e1,e2,e3,e4,e5,e6,e7,e8⟩|⟨e0,e1,e2,e3,e4,e5,e6,e7,e8⟩
    all_goals simp (disch:=omega) only [M0,Cz,Gt,Hf,By9,Yj,xe,EVP,↓reduceIte,EV,Nat.reduceAdd,Nat.reduceEqDiff,Int.reduceToNat,reduceCtorEq,hk,hu, *]
    all_goals (unfold Dc Cd;simp [*])
   ·rcases ch3 (vld d.host) (decide (d.bits≠0)) (Ap9 d.bits 0 64) with e0|⟨e0,e1⟩|⟨e0,e1,e2⟩|⟨e0,e1,e2⟩
    all_goals simp (disch:=omega) only [M0,Cz,Gt,Fg,Kn3,xe,EVP,↓reduceIte,EV,Nat.reduceAdd,Nat.reduceEqDiff,Int.reduceToNat,reduceCtorEq,hk,hu, *]
    all_goals (unfold Dc Cd;simp [*])
   ·rcases ch4 (decide (d.a=256)||decide (d.a=257)) (decide (d.b=3)) (inB d.c 255) (F9 d.text) with e0|⟨e0,e1⟩|⟨e0,e1,e2⟩|⟨e0,e1,e2,e3⟩|⟨e0,e1,e2,e3⟩
    all_goals simp (disch:=omega) only [M0,Cz,Gt,By9,Yj,xe,EVP,↓reduceIte,EV,Nat.reduceAdd,Nat.reduceEqDiff,Int.reduceToNat,reduceCtorEq,hk,hu, *]
    all_goals (unfold Dc Cd;simp [*])
   ·simp [knw, *] at hk
  ·simp (disch:=omega) only [M0,Cz,Gt,xe,EVP,↓reduceIte,EV,Nat.reduceAdd,Nat.reduceEqDiff,Int.reduceToNat,reduceCtorEq,hk,hu]
   unfold Dc
   simp [hu]
 ·simp (disch:=omega) only [M0,Cz,xe,EVP,↓reduceIte,EV,Nat.reduceAdd,Nat.reduceEqDiff,Int.reduceToNat,reduceCtorEq,hk]
  unfold Dc
  simp [hk]
def Iy (t:Int) (d:Dat):List UInt8:=
 if t=1∨t=28 then Ov d
 else if t=6 then Ix d.host++Ix d.mail++be d.a 4++be d.b 4++be d.c 4++be d.d 4++be d.e 4
 else if t=15 then be d.a 2++Ix d.host
 else if t=16 then be (d.text.length:Int) 1++d.text
 else if t=33 then be d.a 2++be d.b 2++be d.c 2++Ix d.host
 else if t=43∨t=48 then be d.a 2++be d.b 1++be d.c 1++d.text
 else if t=46 then be d.a 2++be 253 1++be d.b 1++be d.c 4++be d.d 4++be d.e 4++be d.f 2++Ix d.host++d.text
 else if t=47 then Ix d.host++be 0 1++be ((bmap d.bits).length:Int) 1++bmap d.bits
 else Ix d.host
theorem knw_cases {t:Int} (h:knw t=true):t=1∨t=2∨t=5∨t=6∨t=12∨t=15∨t=16∨t=28∨t=33∨t=39∨t=43∨t=46∨t=47∨t=48:=by
 simp [knw] at h;omega
theorem Us (v:Int) (h0:0≤v) (h1:v≤9223372036854775807):S Em 2 [.i .i64 v,.i .i64 1]=some [.s (be v 1)]:=L9 v 1 (by omega) h0 h1
theorem Ur (v:Int) (h0:0≤v) (h1:v≤9223372036854775807):S Em 2 [.i .i64 v,.i .i64 2]=some [.s (be v 2)]:=L9 v 2 (by omega) h0 h1
theorem Et9 (v:Int) (h0:0≤v) (h1:v≤9223372036854775807):S Em 2 [.i .i64 v,.i .i64 4]=some [.s (be v 4)]:=L9 v 4 (by omega) h0 h1
theorem R8 (t:Int) (d:Dat) (h:d.wf):S Wy 2 [.i .i64 t,d.pv]=some (if Dc t d=true then [.s (Iy t d),.i .i64 0] else if knw t=true then [.s [],.i .i64 5] else [.s [],.i .i64 4]):=by
 refine Jm0 (N:=1) rfl ?_
 have g1:=h.host
 have g2:=h.mail
 have g3:=h.text
 unfold K3 at g1 g2 g3
 have g4:=Oj d.host
 have g5:=Oj d.mail
 have g6:=Z3 d.bits
 rcases Ak (knw t) with hk|hk
 ·rcases Ak (Dc t d) with hv|hv
  ·rw [if_pos hv]
   have hv':=hv
   rcases knw_cases hk with rfl|rfl|rfl|rfl|rfl|rfl|rfl|rfl|rfl|rfl|rfl|rfl|rfl|rfl
   ·simp [Dc,Cd] at hv'
    simp (disch:=omega) only [Ik,Cz,Ez _ _ h,Ar2 d h,hk,hv,hv'.2.1,xe,EVP,↓reduceIte,EV,Nat.reduceAdd,Nat.reduceEqDiff,Int.reduceToNat,reduceCtorEq]
    rfl
   ·simp (disch:=omega) only [Ik,Cz,Ez _ _ h,Ex,hk,hv,xe,EVP,↓reduceIte,EV,Nat.reduceAdd,Nat.reduceEqDiff,Int.reduceToNat,reduceCtorEq]
    rfl
   ·simp (disch:=omega) only [Ik,Cz,Ez _ _ h,Ex,hk,hv,xe,EVP,↓reduceIte,EV,Nat.reduceAdd,Nat.reduceEqDiff,Int.reduceToNat,reduceCtorEq]
    rfl
   ·simp [Dc,Cd,inB,F9] at hv'
    simp (disch:=first|omega|(simp only [Az,Dh];omega)) only [Ik,Cz,Ez _ _ h,Ex,Et9,hk,hv,xe,EVP,↓reduceIte,EV,Nat.reduceAdd,Nat.reduceEqDiff,Int.reduceToNat,reduceCtorEq]
    rfl
   ·simp (disch:=omega) only [Ik,Cz,Ez _ _ h,Ex,hk,hv,xe,EVP,↓reduceIte,EV,Nat.reduceAdd,Nat.reduceEqDiff,Int.reduceToNat,reduceCtorEq]
    rfl
   ·simp [Dc,Cd,inB,F9] at hv'
    simp (disch:=first|omega|(simp only [Az,Dh];omega)) only [Ik,Cz,Ez _ _ h,Ex,Ur,hk,hv,xe,EVP,↓reduceIte,EV,Nat.reduceAdd,Nat.reduceEqDiff,Int.reduceToNat,reduceCtorEq]
    rfl
   ·simp [Dc,Cd,inB,F9] at hv'
    simp (disch:=first|omega|(simp only [Az,Dh];omega)) only [Ik,Cz,Ez _ _ h,Ex,Us,hk,hv,xe,EVP,↓reduceIte,EV,Nat.reduceAdd,Nat.reduceEqDiff,Int.reduceToNat,reduceCtorEq]
    rfl
   ·simp [Dc,Cd] at hv'
    have ha:Dp d=true:=by simp [Dp,hv'.2]
    simp (disch:=omega) only [Ik,Cz,Ez _ _ h,Ar2 d h,hk,hv,ha,xe,EVP,↓reduceIte,EV,Nat.reduceAdd,Nat.reduceEqDiff,Int.reduceToNat,reduceCtorEq]
    rfl
   ·simp [Dc,Cd,inB,F9] at hv'
    simp (disch:=first|omega|(simp only [Az,Dh];omega)) only [Ik,Cz,Ez _ _ h,Ex,Ur,hk,hv,xe,EVP,↓reduceIte,EV,Nat.reduceAdd,Nat.reduceEqDiff,Int.reduceToNat,reduceCtorEq]
    rfl
   ·simp (disch:=omega) only [Ik,Cz,Ez _ _ h,Ex,hk,hv,xe,EVP,↓reduceIte,EV,Nat.reduceAdd,Nat.reduceEqDiff,Int.reduceToNat,reduceCtorEq]
    rfl
   ·simp [Dc,Cd,inB,F9] at hv'
    simp (disch:=first|omega|(simp only [Az,Dh];omega)) only [Ik,Cz,Ez _ _ h,Ex,Us,Ur,hk,hv,xe,EVP,↓reduceIte,EV,Nat.reduceAdd,Nat.reduceEqDiff,Int.reduceToNat,reduceCtorEq]
    rfl
   ·simp [Dc,Cd,inB,F9] at hv'
    have k1:0≤d.a:=by have:=knw_cases hv'.2.1.1.1.1.1.1.1.1;omega
    have k2:=h.a.2
    simp (disch:=first|omega|(simp only [Az,Dh];omega)) only [Ik,Cz,Ez _ _ h,Ex,Us,Ur,Et9,hk,hv,xe,EVP,↓reduceIte,EV,Nat.reduceAdd,Nat.reduceEqDiff,Int.reduceToNat,reduceCtorEq]
    rfl
   ·simp (disch:=first|omega|(simp only [Az,Dh];omega)) only [Ik,Cz,Ez _ _ h,Ex,Em8,Us,hk,hv,xe,EVP,↓reduceIte,EV,Nat.reduceAdd,Nat.reduceEqDiff,Int.reduceToNat,reduceCtorEq]
    rfl
   ·simp [Dc,Cd,inB,F9] at hv'
    simp (disch:=first|omega|(simp only [Az,Dh];omega)) only [Ik,Cz,Ez _ _ h,Ex,Us,Ur,hk,hv,xe,EVP,↓reduceIte,EV,Nat.reduceAdd,Nat.reduceEqDiff,Int.reduceToNat,reduceCtorEq]
    rfl
  ·simp (disch:=omega) only [Ik,Cz,Ez _ _ h,hk,hv,xe,EVP,↓reduceIte,EV,Nat.reduceAdd,Nat.reduceEqDiff,Int.reduceToNat,reduceCtorEq]
 ·have hv:Dc t d=false:=by simp [Dc,hk]
  simp (disch:=omega) only [Ik,Cz,hk,hv,xe,EVP,↓reduceIte,EV,Nat.reduceAdd,Nat.reduceEqDiff,Int.reduceToNat,reduceCtorEq]
def Dj2 (t:Int) (a b:Dat):Int:=
 if Dc t a && Dc t b then cmpS (Iy t a) (Iy t b) else if Dc t a then -1 else if Dc t b then 1 else 0
theorem uk (t:Int) (a b:Dat) (ha:a.wf) (hb:b.wf):S gw 3 [.i .i64 t,a.pv,b.pv]=some [.i .i64 (Dj2 t a b)]:=by
 refine Jp6 (N:=1) rfl ?_
 unfold Dj2 cmpS
 rcases Ak (Dc t a) with h1|h1<;>rcases Ak (Dc t b) with h2|h2
 ·simp (disch:=omega) only [Gw3,R8 _ _ ha,R8 _ _ hb,h1,h2,xe,EVP,↓reduceIte,EV,Nat.reduceAdd,Nat.reduceEqDiff,Int.reduceToNat,reduceCtorEq]
  cases Op.bytesLess (Iy t a) (Iy t b)
  ·by_cases h3:Iy t a=Iy t b<;>simp [h3]
  ·simp
 all_goals rcases Ak (knw t) with h3|h3<;>simp (disch:=omega) [Gw3,R8 _ _ ha,R8 _ _ hb,h1,h2,h3,xe,EVP,↓reduceIte,EV,Nat.reduceAdd,Nat.reduceEqDiff,Int.reduceToNat,reduceCtorEq]
end Go.X.G
/- Lists of records: what the reference's functions give. -/
namespace Go.X.G
open Go Go.X
def M1 (r:Rec):Bool:=vld r.name && knw r.typ && decide (0≤r.ttl) && decide (r.ttl≤2147483647) && Dc r.typ r.data
theorem j8 (r:Rec) (h:r.wf):S Cc1 1 [r.pv]=some [.b (M1 r)]:=by
 refine Lz5 (N:=1) rfl ?_
 have g:=h.name
 unfold K3 at g
 unfold M1
 by_cases h0:0≤r.ttl<;>by_cases h1:r.ttl≤2147483647
 all_goals rcases ch3 (vld r.name) (knw r.typ) (Dc r.typ r.data) with e0|⟨e0,e1⟩|⟨e0,e1,e2⟩|⟨e0,e1,e2⟩
 all_goals simp (disch:=omega) [Kt5,Fg,Cz,Ez _ _ h.data,xe,EVP,↓reduceIte,EV,Nat.reduceAdd,Nat.reduceEqDiff,Int.reduceToNat,reduceCtorEq, *]
def jp (a b:Int):Int:=if a<b then -1 else if b<a then 1 else 0
theorem Bv7 (a b:Int):S gx 2 [.i .i64 a,.i .i64 b]=some [.i .i64 (jp a b)]:=by
 refine Jp7 (N:=1) rfl ?_
 unfold jp
 simp (disch:=omega) only [Jz8,xe,EVP,↓reduceIte,EV,Nat.reduceAdd,Nat.reduceEqDiff,Int.reduceToNat,reduceCtorEq]
 grind
def Nt (a b:Rec):Int:=
 if Iw a.name b.name≠0 then Iw a.name b.name else if jp a.typ b.typ≠0 then jp a.typ b.typ else Dj2 a.typ a.data b.data
theorem i6 (a b:Rec) (ha:a.wf) (hb:b.wf):S Bw4 2 [a.pv,b.pv]=some [.i .i64 (Nt a b)]:=by
 refine Lw8 (N:=1) rfl ?_
 have g1:=ha.name
 have g2:=hb.name
 unfold K3 at g1 g2
 unfold Nt
 simp (disch:=omega) only [Ks2,U1,Bv7,uk _ _ _ ha.data hb.data,xe,EVP,↓reduceIte,EV,Nat.reduceAdd,Nat.reduceEqDiff,Int.reduceToNat,reduceCtorEq]
 by_cases h1:Iw a.name b.name=0<;>by_cases h2:jp a.typ b.typ=0<;>simp [h1,h2]
def isK (n:List UInt8) (t:Int) (r:Rec):Bool:=decide (r.name=n) && decide (r.typ=t)
def findR (l:List Rec) (n:List UInt8) (t:Int):List Rec:=l.filter (isK n t)
theorem Ms (l:List Rec) (n:List UInt8) (t:Int) (hl:l.length≤1000000):S nv 3 [Ad l,.s n,.i .i64 t]=some [Ad (findR l n t)]:=by
 refine Lz6 (N:=l.length+1) rfl ?_
 have key:Gc1.ev S (l.length+1) [Ad l,.s n,.i .i64 t]=some (.yld 0 [Ad ([]++findR l n t)]):=by
  refine En l (fun i (g:List Rec)=>[Ad g,.i .i64 (i:Int)]) (fun i g r=> .yld 0 [Ad (g++findR r n t)]) (fun i g=>g.length≤i) [] rfl (Cg _) (by omega) (fun i g c r hd hi hc hI=> ?_) (fun g hI=> ?_)
  ·left
   by_cases h:isK n t c=true
   ·refine ⟨g++[c],?_,by simp;omega,by simp [findR,h]⟩
    simp [isK] at h
    simp (disch:=omega) only [Bl1,hc,h.1,h.2,xe,EVP,↓reduceIte,EV,Nat.reduceAdd,Nat.reduceEqDiff,Int.reduceToNat,reduceCtorEq]
   ·refine ⟨g,?_,by omega,by simp [findR,h]⟩
    simp [isK] at h
    by_cases h1:c.name=n
    ·simp (disch:=omega) only [Bl1,hc,h1,h h1,xe,EVP,↓reduceIte,EV,Nat.reduceAdd,Nat.reduceEqDiff,Int.reduceToNat,reduceCtorEq]
    ·simp (disch:=omega) only [Bl1,hc,h1,xe,EVP,↓reduceIte,EV,Nat.reduceAdd,Nat.reduceEqDiff,Int.reduceToNat,reduceCtorEq]
  ·simp (disch:=omega) only [Bl1,xe,EVP,↓reduceIte,EV,Nat.reduceAdd,Nat.reduceEqDiff,Int.reduceToNat,reduceCtorEq]
   simp [findR,Out.goes]
 simp (disch:=omega) only [Bl1,key,xe,EVP,↓reduceIte,EV,Nat.reduceAdd,Nat.reduceEqDiff,Int.reduceToNat,reduceCtorEq]
theorem Gv0 (l:List Rec) (n:List UInt8) (t:Int) (hl:l.length≤1000000):S Cb6 3 [Ad l,.s n,.i .i64 t]=some [Ad (findR l n t)]:=by
 refine Ly6 (N:=l.length+1) rfl ?_
 have key:Gb8.ev S (l.length+1) [Ad l,.s n,.i .i64 t]=some (.yld 0 [Ad ([]++findR l n t)]):=by
  refine En l (fun i (g:List Rec)=>[Ad g,.i .i64 (i:Int)]) (fun i g r=> .yld 0 [Ad (g++findR r n t)]) (fun i g=>g.length≤i) [] rfl (Cg _) (by omega) (fun i g c r hd hi hc hI=> ?_) (fun g hI=> ?_)
  ·left
   by_cases h:isK n t c=true
   ·refine ⟨g++[c],?_,by simp;omega,by simp [findR,h]⟩
    simp [isK] at h
    simp (disch:=omega) only [Bh9,hc,h.1,h.2,xe,EVP,↓reduceIte,EV,Nat.reduceAdd,Nat.reduceEqDiff,Int.reduceToNat,reduceCtorEq]
   ·refine ⟨g,?_,by omega,by simp [findR,h]⟩
    simp [isK] at h
    by_cases h1:c.name=n
    ·simp (disch:=omega) only [Bh9,hc,h1,h h1,xe,EVP,↓reduceIte,EV,Nat.reduceAdd,Nat.reduceEqDiff,Int.reduceToNat,reduceCtorEq]
    ·by_cases h2:c.typ=t<;>simp (disch:=omega) only [Bh9,hc,h1,h2,xe,EVP,↓reduceIte,EV,Nat.reduceAdd,Nat.reduceEqDiff,Int.reduceToNat,reduceCtorEq]
  ·simp (disch:=omega) only [Bh9,xe,EVP,↓reduceIte,EV,Nat.reduceAdd,Nat.reduceEqDiff,Int.reduceToNat,reduceCtorEq]
   simp [findR,Out.goes]
 simp (disch:=omega) only [Bh9,key,xe,EVP,↓reduceIte,EV,Nat.reduceAdd,Nat.reduceEqDiff,Int.reduceToNat,reduceCtorEq]
theorem Pd (a b:List Rec) (ha:a.length≤1000000):S Cd4 2 [Ad a,Ad b]=some [.b (decide (a=b))]:=by
 refine Ld5 (N:=a.length+1) rfl ?_
 by_cases hl:a.length=b.length
 ·have key:Gd8.ev S (a.length+1) [Ad a,Ad b]=some (if a.drop 0=b.drop 0 then .yld 0 [] else .ret [.b false]):=by
   refine Dq a (fun i=>[.i .i64 (i:Int)]) (fun i r=>if r=b.drop i then .yld 0 [] else .ret [.b false]) rfl (by omega) (fun i c r hd hi hc=> ?_) ?_
   ·obtain ⟨y,r',hb,hd2,hd3⟩:∃y r',b[i]? =some y∧b.drop i=y::r'∧b.drop (i+1)=r':=⟨b[i]'(by omega),_,Ax (by omega),Bp (by omega),rfl⟩
    rw [hd2,hd3]
    by_cases h:c=y
    ·subst h
     left
     simp (disch:=omega) only [Ar9,hc,hb,xe,EVP,↓reduceIte,EV,Nat.reduceAdd,Nat.reduceEqDiff,Int.reduceToNat,reduceCtorEq]
     simp
    ·right
     simp (disch:=omega) only [Ar9,hc,hb,h,xe,EVP,↓reduceIte,EV,Nat.reduceAdd,Nat.reduceEqDiff,Int.reduceToNat,reduceCtorEq]
     simp [h,Out.goes]
   ·have hd2:b.drop a.length=[]:=Fc (by omega)
    rw [hd2]
    simp (disch:=omega) only [Ar9,xe,EVP,↓reduceIte,EV,Nat.reduceAdd,Nat.reduceEqDiff,Int.reduceToNat,reduceCtorEq]
    simp [Out.goes]
  simp only [Dy] at key
  by_cases h:a=b
  ·rw [if_pos h] at key
   simp (disch:=omega) only [Ar9,key,xe,EVP,↓reduceIte,EV,Nat.reduceAdd,Nat.reduceEqDiff,Int.reduceToNat,reduceCtorEq]
   try simp [h]
  ·rw [if_neg h] at key
   simp (disch:=omega) only [Ar9,key,xe,EVP,↓reduceIte,EV,Nat.reduceAdd,Nat.reduceEqDiff,Int.reduceToNat,reduceCtorEq]
   try simp [h]
 ·have h:a≠b:=fun h=>hl (by rw [h])
  simp (disch:=omega) [Ar9,h,xe,EVP,↓reduceIte,EV,Nat.reduceAdd,Nat.reduceEqDiff,Int.reduceToNat,reduceCtorEq]
def Tt (x:Rec):List Rec→List Rec
 |[]=>[x]
 |y::r=>if Nt y x<0 then y::Tt x r else if Nt y x=0 then (if x.ttl<y.ttl then x::r else y::r) else x::y::r
def sortR (l:List Rec):List Rec:=l.foldl (fun acc x=>Tt x acc) []
def Kb (x:Rec):List Rec→Nat
 |[]=>0
 |y::r=>if Nt y x<0 then Kb x r+1 else 0
theorem z6 (x:Rec):∀l,Kb x l≤l.length
 |[]=>Ac _
 |y::r=>by have:=z6 x r;simp only [Kb];split<;>simp;omega
theorem Cp8 (x:Rec):∀(l:List Rec),Tt x l=match l[Kb x l]? with
  |some y=>if Nt y x=0 then (if x.ttl<y.ttl then l.set (Kb x l) x else l) else l.take (Kb x l)++[x]++l.drop (Kb x l)
  |none=>l.take (Kb x l)++[x]++l.drop (Kb x l)
 |[]=>rfl
 |y::r=>by
  simp only [Tt,Kb]
  by_cases h:Nt y x<0
  ·simp only [if_pos h,Dk]
   rw [Cp8 x r]
   cases h2:r[Kb x r]? with
   |none=>simp
   |some z=>by_cases h3:Nt z x=0<;>by_cases h4:x.ttl<z.ttl<;>simp [h3,h4]
  ·simp only [if_neg h,B9]
   by_cases h3:Nt y x=0<;>by_cases h4:x.ttl<y.ttl<;>simp [h3,h4]
theorem Aj7 (x:Rec):∀l,(Tt x l).length≤l.length+1
 |[]=>by simp [Tt]
 |y::r=>by
  have:=Aj7 x r
  simp only [Tt]
  split
  ·simp;omega
  ·split
   ·split<;>simp
   ·simp
theorem insR_mem (x:Rec):∀(l:List Rec) (y:Rec),y∈Tt x l→y=x∨y∈l
 |[],y,h=>by simp [Tt] at h;exact .inl h
 |z::r,y,h=>by
  simp only [Tt] at h
  split at h
  ·simp at h
   rcases h with h|h
   ·exact .inr (by simp [h])
   ·rcases insR_mem x r y h with h|h
    ·exact .inl h
    ·exact .inr (by simp [h])
  ·split at h
   ·split at h
    ·simp at h;rcases h with h|h
     ·exact .inl h
     ·exact .inr (by simp [h])
    ·exact .inr h
   ·simp at h;rcases h with h|h
    ·exact .inl h
    ·exact .inr (by simpa using h)
theorem Jw0 (l g:List Rec) (i:Nat) (x:Rec) (hx:l[i]? =some x) (hw:∀r∈l,r.wf) (hg:∀r∈g,r.wf) (N:Nat) (hN:g.length<N) (hl:g.length≤1000000):
  Ch8.ev S N [Ad l,Ad g,.i .i64 (i:Int)]=some (.yld 2 [.i .i64 (Kb x g:Int)]):=by
 have key:Ch8.ev S N [Ad l,Ad g,.i .i64 (i:Int)]=some (.yld 2 [.i .i64 ((0+Kb x g:Nat):Int)]):=by
  refine Dq g (fun k=>[.i .i64 (k:Int)]) (fun k r=> .yld 2 [.i .i64 ((k+Kb x r:Nat):Int)]) rfl hN (fun k c r hd hk hc=> ?_) ?_
  ·have h1:=i6 c x (hg c (Am hc)) (hw x (Am hx))
   by_cases h:Nt c x<0
   ·left
    simp (disch:=omega) only [X3,hc,hx,h1,h,xe,EVP,↓reduceIte,EV,Nat.reduceAdd,Nat.reduceEqDiff,Int.reduceToNat,reduceCtorEq]
    refine ⟨trivial,?_⟩
    simp only [Kb,if_pos h]
    congr 3;push_cast;omega
   ·right
    simp (disch:=omega) only [X3,hc,hx,h1,xe,EVP,↓reduceIte,EV,Nat.reduceAdd,Nat.reduceEqDiff,Int.reduceToNat,reduceCtorEq]
    simp [Kb,h,Out.goes]
  ·simp (disch:=omega) only [X3,xe,EVP,↓reduceIte,EV,Nat.reduceAdd,Nat.reduceEqDiff,Int.reduceToNat,reduceCtorEq]
   simp [Kb,Out.goes]
 simpa using key
theorem Jw1 (l:List Rec) (hw:∀r∈l,r.wf) (N:Nat) (hN:l.length<N) (hl:l.length≤1000000):
  Gc6.ev S N [Ad l]=some (.yld 0 [Ad (sortR l)]):=by
 refine En l (fun i (g:List Rec)=>[Ad g,.i .i64 (i:Int)]) (fun i g r=> .yld 0 [Ad (r.foldl (fun acc x=>Tt x acc) g)]) (fun i g=>g.length≤i∧∀r∈g,r.wf) [] rfl ⟨Ac _,fun r h=>by cases h⟩ hN (fun i g c r hd hi hc hI=> ?_) (fun g hI=> ?_)
 ·left
  obtain ⟨h1,h2⟩:=hI
  have hcw:=hw c (Am hc)
  have h3:=Jw0 l g i c hc hw h2 N (by omega) (by omega)
  have h4:=z6 c g
  have h5:=Aj7 c g
  refine ⟨Tt c g,?_,⟨by omega,fun r hr=> ?_⟩,rfl⟩
  ·rw [Cp8]
   cases h6:g[Kb c g]? with
   |none=>
    have h7:=List.getElem?_eq_none_iff.1 h6
    have h8:Kb c g=g.length:=by omega
    simp (disch:=first|omega|(simp;omega)) only [X3,hc,h3,h8,xe,EVP,↓reduceIte,EV,Nat.reduceAdd,Nat.reduceEqDiff,Int.reduceToNat,reduceCtorEq]
    simp
   |some y=>
    have h7:=(Aq.1 h6).1
    have h8:=i6 y c (h2 y (Am h6)) hcw
    by_cases h9:Nt y c=0
    ·by_cases h10:c.ttl<y.ttl
     ·simp (disch:=omega) only [X3,hc,h3,h6,h8,h9,h10,xe,EVP,↓reduceIte,EV,Nat.reduceAdd,Nat.reduceEqDiff,Int.reduceToNat,reduceCtorEq]
     ·simp (disch:=omega) only [X3,hc,h3,h6,h8,h9,h10,xe,EVP,↓reduceIte,EV,Nat.reduceAdd,Nat.reduceEqDiff,Int.reduceToNat,reduceCtorEq]
    ·simp (disch:=first|omega|(simp;omega)) only [X3,hc,h3,h6,h8,h9,xe,EVP,↓reduceIte,EV,Nat.reduceAdd,Nat.reduceEqDiff,Int.reduceToNat,reduceCtorEq]
     simp
  ·rcases insR_mem c g r hr with h|h
   ·subst h;exact hcw
   ·exact h2 r h
 ·simp (disch:=omega) only [X3,xe,EVP,↓reduceIte,EV,Nat.reduceAdd,Nat.reduceEqDiff,Int.reduceToNat,reduceCtorEq]
  simp [Out.goes]
theorem R9 (l:List Rec) (hw:∀r∈l,r.wf) (hl:l.length≤1000000):S Cc8 1 [Ad l]=some [Ad (sortR l)]:=by
 refine Lb7 (N:=l.length+1) rfl ?_
 simp (disch:=omega) only [X3,Jw1 l hw,xe,EVP,↓reduceIte,EV,Nat.reduceAdd,Nat.reduceEqDiff,Int.reduceToNat,reduceCtorEq]
end Go.X.G
/- Zones: what the reference's check gives. -/
namespace Go.X.G
open Go Go.X
def Dn (n top:List UInt8):Bool:=decide (n≠top) && under n top
theorem Im (n top:List UInt8) (hn:n.length≤9223372036854775807) (ht:top.length≤9223372036854775807):S Vv 2 [.s n,.s top]=some [.b (Dn n top)]:=by
 refine Ly5 (N:=1) rfl ?_
 unfold Dn
 by_cases h:n=top
 ·simp (disch:=omega) only [Jx8,Hk,h,xe,EVP,↓reduceIte,EV,Nat.reduceAdd,Nat.reduceEqDiff,Int.reduceToNat,reduceCtorEq]
  simp
 ·simp (disch:=omega) only [Jx8,Hk,h,xe,EVP,↓reduceIte,EV,Nat.reduceAdd,Nat.reduceEqDiff,Int.reduceToNat,reduceCtorEq]
  simp
def U3 (l:List Rec) (n:List UInt8) (t:Int):Bool:=decide (0<(findR l n t).length)
theorem O7 (l:List Rec) (n:List UInt8) (t:Int) (hl:l.length≤1000000):S Bx3 3 [Ad l,.s n,.i .i64 t]=some [.b (U3 l n t)]:=by
 refine Lz4 (N:=1) rfl ?_
 unfold U3
 simp (disch:=omega) only [Kt4,Ms,xe,EVP,↓reduceIte,EV,Nat.reduceAdd,Nat.reduceEqDiff,Int.reduceToNat,reduceCtorEq]
 simp
def G8 (r x:Rec):Bool:=
 !decide (x.name=r.name)||(!(decide (x.typ=r.typ) && decide (r.typ≠46) && decide (x.ttl≠r.ttl)) && !(decide (x.typ=r.typ) && (decide (r.typ=6)||decide (r.typ=5)||decide (r.typ=39)) && decide (x≠r)) &&
  !(decide (r.typ=5) && decide (x.typ≠5) && decide (x.typ≠46) && decide (x.typ≠47)))
def L4 (z:Zone) (r:Rec):Bool:=z.recs.all (G8 r)
theorem En6 (z:Zone) (r:Rec) (N:Nat) (hN:z.recs.length<N) (hz:z.recs.length≤1000000):
  Gc0.ev S N [z.pv,r.pv]=some (if L4 z r=true then .yld 0 [] else .ret [.b false]):=by
 refine Dq z.recs (fun i=>[.i .i64 (i:Int)]) (fun i l=>if l.all (G8 r)=true then .yld 0 [] else .ret [.b false]) rfl hN (fun i c l hd hi hc=> ?_) ?_
 ·have key:Er1.ev S N ([z.pv,r.pv]++[.i .i64 (i:Int)])=some (if G8 r c=true then .yld 1 [.i .i64 ((i:Int)+1)] else .ret [.b false]):=by
   by_cases h1:c.name=r.name
   ·by_cases h2:c.typ=r.typ
    ·simp (disch:=omega) only [Bl0,kq,hc,h1,h2,xe,EVP,↓reduceIte,EV,Nat.reduceAdd,Nat.reduceEqDiff,Int.reduceToNat,reduceCtorEq]
     simp only [G8,h1,h2]
     grind
    ·simp (disch:=omega) only [Bl0,kq,hc,h1,h2,xe,EVP,↓reduceIte,EV,Nat.reduceAdd,Nat.reduceEqDiff,Int.reduceToNat,reduceCtorEq]
     simp only [G8,h1,h2]
     grind
   ·simp (disch:=omega) only [Bl0,hc,h1,xe,EVP,↓reduceIte,EV,Nat.reduceAdd,Nat.reduceEqDiff,Int.reduceToNat,reduceCtorEq]
    simp [G8,h1]
  rw [key]
  rcases Ak (G8 r c) with h|h<;>simp [h,Out.goes]
 ·simp (disch:=omega) [Bl0,xe,EVP,↓reduceIte,EV,Nat.reduceAdd,Nat.reduceEqDiff,Int.reduceToNat,reduceCtorEq,Out.goes]
theorem En5 (z:Zone) (r:Rec) (hz:z.recs.length≤1000000):S Cc0 2 [z.pv,r.pv]=some [.b (L4 z r)]:=by
 refine Lz2 (N:=z.recs.length+1) rfl ?_
 simp (disch:=omega) only [Bl0,En6,xe,EVP,↓reduceIte,EV,Nat.reduceAdd,Nat.reduceEqDiff,Int.reduceToNat,reduceCtorEq]
 cases L4 z r<;>simp
def Fs (z:Zone) (r x:Rec):Bool:=
 !(decide (x.typ=39) && Dn r.name x.name) && !(decide (x.typ=2) && Dn x.name z.origin && Dn r.name x.name && decide (r.typ≠1) && decide (r.typ≠28))
def P7 (t:Int):Bool:=decide (t=2)||decide (t=43)||decide (t=47)||decide (t=46)||decide (t=1)||decide (t=28)
def Nf (z:Zone) (r:Rec):Bool:=
 if (lbl r.name)[0]? =some [42]∧(r.typ=2∨r.typ=39) then false
 else z.recs.all (Fs z r) && (if Dn r.name z.origin && U3 z.recs r.name 2 then P7 r.typ else decide (r.typ≠43))
theorem S2 (z:Zone) (r:Rec) (hz:z.wf) (hr:r.wf) (p:PV) (N:Nat) (hN:z.recs.length<N) (hl:z.recs.length≤1000000):
  Gb9.ev S N [z.pv,r.pv,p]=some (if z.recs.all (Fs z r)=true then .yld 0 [] else .ret [.b false]):=by
 have g1:=hz.origin
 have g2:=hr.name
 unfold K3 at g1 g2
 refine Dq z.recs (fun i=>[.i .i64 (i:Int)]) (fun i l=>if l.all (Fs z r)=true then .yld 0 [] else .ret [.b false]) rfl hN (fun i c l hd hi hc=> ?_) ?_
 ·have g3:=(hz.recs.2 c (Am hc)).name
  unfold K3 at g3
  have key:Er0.ev S N ([z.pv,r.pv,p]++[.i .i64 (i:Int)])=some (if Fs z r c=true then .yld 1 [.i .i64 ((i:Int)+1)] else .ret [.b false]):=by
   by_cases h1:c.typ=39
   ·have h2:c.typ≠2:=by omega
    rcases Ak (Dn r.name c.name) with h3|h3<;>simp (disch:=omega) only [X0,Im,hc,h1,h3,xe,EVP,↓reduceIte,EV,Nat.reduceAdd,Nat.reduceEqDiff,Int.reduceToNat,reduceCtorEq]<;>simp [Fs,h1,h3]
   ·by_cases h2:c.typ=2
    ·rcases Ak (Dn r.name c.name) with h3|h3<;>rcases Ak (Dn c.name z.origin) with h4|h4<;>simp (disch:=omega) only [X0,Im,hc,h2,h3,h4,xe,EVP,↓reduceIte,EV,Nat.reduceAdd,Nat.reduceEqDiff,Int.reduceToNat,reduceCtorEq]<;>simp [Fs,h2,h3,h4]
     by_cases h5:r.typ=1<;>by_cases h6:r.typ=28<;>simp [h5,h6]
    ·simp (disch:=omega) only [X0,hc,h1,h2,xe,EVP,↓reduceIte,EV,Nat.reduceAdd,Nat.reduceEqDiff,Int.reduceToNat,reduceCtorEq]
     simp [Fs,h1,h2]
  rw [key]
  rcases Ak (Fs z r c) with h|h<;>simp [h,Out.goes]
 ·simp (disch:=omega) [X0,xe,EVP,↓reduceIte,EV,Nat.reduceAdd,Nat.reduceEqDiff,Int.reduceToNat,reduceCtorEq,Out.goes]
theorem Cx7 (z:Zone) (r:Rec) (hz:z.wf) (hr:r.wf) (hl:z.recs.length≤1000000):S Cb9 2 [z.pv,r.pv]=some [.b (Nf z r)]:=by
 refine Lz1 (N:=z.recs.length+1) rfl ?_
 have g1:=hz.origin
 have g2:=hr.name
 unfold K3 at g1 g2
 have g3:=Gz r.name
 have tail:T.ev S (z.recs.length+1) rv [z.pv,r.pv,Bq (lbl r.name)]=some (.ret [.b (z.recs.all (Fs z r) && (if Dn r.name z.origin && U3 z.recs r.name 2 then P7 r.typ else decide (r.typ≠43)))]):=by
  rcases Ak (z.recs.all (Fs z r)) with h0|h0
  ·rcases Ak (Dn r.name z.origin) with h1|h1<;>rcases Ak (U3 z.recs r.name 2) with h2|h2
   ·simp (disch:=omega) only [X0,S2 z r hz hr,Im,O7,h0,h1,h2,xe,EVP,↓reduceIte,EV,Nat.reduceAdd,Nat.reduceEqDiff,Int.reduceToNat,reduceCtorEq]
    simp only [P7]
    grind
   all_goals simp (disch:=omega) only [X0,S2 z r hz hr,Im,O7,h0,h1,h2,xe,EVP,↓reduceIte,EV,Nat.reduceAdd,Nat.reduceEqDiff,Int.reduceToNat,reduceCtorEq]
   all_goals simp
  ·simp (disch:=omega) only [X0,S2 z r hz hr,h0,xe,EVP,↓reduceIte,EV,Nat.reduceAdd,Nat.reduceEqDiff,Int.reduceToNat,reduceCtorEq]
   simp
 unfold Nf
 cases h:lbl r.name with
 |nil=>
  rw [h] at tail
  simp (disch:=first|omega|(simp;omega)) only [↓tail,X0,Hc,h,xe,EVP,↓reduceIte,EV,Nat.reduceAdd,Nat.reduceEqDiff,Int.reduceToNat,reduceCtorEq]
  simp
 |cons a l=>
  rw [h] at tail
  have g4:0<((a::l).length:Int):=by simp only [A0];omega
  by_cases h1:a=[42]<;>by_cases h2:r.typ=2<;>by_cases h3:r.typ=39
  all_goals first|omega|skip
  all_goals try subst h1
  all_goals simp (disch:=first|omega|(simp;omega)) only [↓tail,X0,Hc,h,h2,h3,xe,EVP,↓reduceIte,EV,Nat.reduceAdd,Nat.reduceEqDiff,Int.reduceToNat,reduceCtorEq]
  all_goals simp [h2,h3, *]
def K4 (z:Zone) (r:Rec):Bool:=under r.name z.origin && !(decide (r.typ=6) && decide (r.name≠z.origin)) && L4 z r && Nf z r
def K0 (z:Zone):Int:=
 if vld z.origin=false then 2
 else if 2048<z.recs.length then 9
 else if z.recs.all (fun r=>decide ((findR z.recs r.name r.typ).length≤64))=false then 9
 else if z.recs.all M1=false then 5
 else if z.recs≠sortR z.recs then 7
 else if (findR z.recs z.origin 6).length≠1∨U3 z.recs z.origin 2=false then 13
 else if z.recs.all (K4 z)=false then 13
 else 0
theorem Mt (z:Zone) (N:Nat) (hN:z.recs.length<N) (hl:z.recs.length≤1000000) (p:PV):
  Gd9.ev S N [z.pv,p]=some (if z.recs.all (fun r=>decide ((findR z.recs r.name r.typ).length≤64))=true then .yld 0 [] else .ret [.i .i64 9]):=by
 refine Dq z.recs (fun i=>[.i .i64 (i:Int)]) (fun i l=>if l.all (fun r=>decide ((findR z.recs r.name r.typ).length≤64))=true then .yld 0 [] else .ret [.i .i64 9]) rfl hN (fun i c l hd hi hc=> ?_) ?_
 ·by_cases h:(findR z.recs c.name c.typ).length≤64
  ·left
   simp (disch:=omega) only [Lk,Ms,hc,xe,EVP,↓reduceIte,EV,Nat.reduceAdd,Nat.reduceEqDiff,Int.reduceToNat,reduceCtorEq]
   simp [h]
  ·right
   simp (disch:=omega) only [Lk,Ms,hc,xe,EVP,↓reduceIte,EV,Nat.reduceAdd,Nat.reduceEqDiff,Int.reduceToNat,reduceCtorEq]
   simp [h,Out.goes]
 ·simp (disch:=omega) [Lk,xe,EVP,↓reduceIte,EV,Nat.reduceAdd,Nat.reduceEqDiff,Int.reduceToNat,reduceCtorEq,Out.goes]
theorem Pf (z:Zone) (hz:z.wf) (N:Nat) (hN:z.recs.length<N) (hl:z.recs.length≤1000000) (p:PV):
  Gz9.ev S N [z.pv,p]=some (if z.recs.all M1=true then .yld 0 [] else .ret [.i .i64 5]):=by
 refine Dq z.recs (fun i=>[.i .i64 (i:Int)]) (fun i l=>if l.all M1=true then .yld 0 [] else .ret [.i .i64 5]) rfl hN (fun i c l hd hi hc=> ?_) ?_
 ·have hw:=hz.recs.2 c (Am hc)
  rcases Ak (M1 c) with h|h
  ·left
   simp (disch:=omega) only [Lk,j8 c hw,hc,h,xe,EVP,↓reduceIte,EV,Nat.reduceAdd,Nat.reduceEqDiff,Int.reduceToNat,reduceCtorEq]
   simp [h]
  ·right
   simp (disch:=omega) only [Lk,j8 c hw,hc,h,xe,EVP,↓reduceIte,EV,Nat.reduceAdd,Nat.reduceEqDiff,Int.reduceToNat,reduceCtorEq]
   simp [h,Out.goes]
 ·simp (disch:=omega) [Lk,xe,EVP,↓reduceIte,EV,Nat.reduceAdd,Nat.reduceEqDiff,Int.reduceToNat,reduceCtorEq,Out.goes]
theorem Gv1 (z:Zone) (hz:z.wf) (N:Nat) (hN:z.recs.length<N) (hl:z.recs.length≤1000000) (p1 p2 p3 p4 p5:PV):
  Gz5.ev S N [z.pv,p1,p2,p3,p4,p5]=some (if z.recs.all (K4 z)=true then .yld 0 [] else .ret [.i .i64 13]):=by
 have g1:=hz.origin
 unfold K3 at g1
 refine Dq z.recs (fun i=>[.i .i64 (i:Int)]) (fun i l=>if l.all (K4 z)=true then .yld 0 [] else .ret [.i .i64 13]) rfl hN (fun i c l hd hi hc=> ?_) ?_
 ·have hw:=hz.recs.2 c (Am hc)
  have g2:=hw.name
  unfold K3 at g2
  have key:En7.ev S N ([z.pv,p1,p2,p3,p4,p5]++[.i .i64 (i:Int)])=some (if K4 z c=true then .yld 1 [.i .i64 ((i:Int)+1)] else .ret [.i .i64 13]):=by
   rcases Ak (under c.name z.origin) with h1|h1
   ·by_cases h2:c.typ=6<;>by_cases h3:c.name=z.origin
    all_goals try rw [h3] at h1 g2
    all_goals rcases ch2 (L4 z c) (Nf z c) with e0|⟨e0,e1⟩|⟨e0,e1⟩
    all_goals simp (disch:=omega) only [Lk,Hk,En5,Cx7 z c hz hw,hc,h1,h2,h3,xe,EVP,↓reduceIte,EV,Nat.reduceAdd,Nat.reduceEqDiff,Int.reduceToNat,reduceCtorEq, *]
    all_goals simp [K4,h1,h2,h3, *]
   ·simp (disch:=omega) only [Lk,Hk,hc,h1,xe,EVP,↓reduceIte,EV,Nat.reduceAdd,Nat.reduceEqDiff,Int.reduceToNat,reduceCtorEq]
    simp [K4,h1]
  rw [key]
  rcases Ak (K4 z c) with h|h<;>simp [h,Out.goes]
 ·simp (disch:=omega) [Lk,xe,EVP,↓reduceIte,EV,Nat.reduceAdd,Nat.reduceEqDiff,Int.reduceToNat,reduceCtorEq,Out.goes]
theorem Bf9 (z:Zone) (hz:z.wf):S Cf6 1 [z.pv]=some [.i .i64 (K0 z)]:=by
 refine Ld9 (N:=z.recs.length+1) rfl ?_
 have g1:=hz.origin
 unfold K3 at g1
 unfold K0
 rcases Ak (vld z.origin) with h1|h1
 ·by_cases h2:2048<z.recs.length
  ·simp (disch:=omega) only [Lk,Fg,h1,h2,xe,EVP,↓reduceIte,EV,Nat.reduceAdd,Nat.reduceEqDiff,Int.reduceToNat,reduceCtorEq]
  ·rcases Ak (z.recs.all (fun r=>decide ((findR z.recs r.name r.typ).length≤64))) with h3|h3
   ·rcases Ak (z.recs.all M1) with h4|h4
    ·by_cases h5:z.recs=sortR z.recs
     ·by_cases h6:(findR z.recs z.origin 6).length=1
      ·rcases Ak (U3 z.recs z.origin 2) with h7|h7
       ·rcases Ak (z.recs.all (K4 z)) with h8|h8<;>simp (disch:=omega) only [Lk,Fg,Mt,Pf z hz,Gv1 z hz,R9 _ hz.recs.2,Pd,Ms,O7,h1,h2,h3,h4,←h5,h6,h7,h8,xe,EVP,↓reduceIte,EV,Nat.reduceAdd,Nat.reduceEqDiff,Int.reduceToNat,reduceCtorEq]<;>simp
       ·simp (disch:=omega) only [Lk,Fg,Mt,Pf z hz,R9 _ hz.recs.2,Pd,Ms,O7,h1,h2,h3,h4,←h5,h6,h7,xe,EVP,↓reduceIte,EV,Nat.reduceAdd,Nat.reduceEqDiff,Int.reduceToNat,reduceCtorEq]
        simp
      ·simp (disch:=omega) only [Lk,Fg,Mt,Pf z hz,R9 _ hz.recs.2,Pd,Ms,O7,h1,h2,h3,h4,←h5,h6,xe,EVP,↓reduceIte,EV,Nat.reduceAdd,Nat.reduceEqDiff,Int.reduceToNat,reduceCtorEq]
       simp
     ·simp (disch:=omega) only [Lk,Fg,Mt,Pf z hz,R9 _ hz.recs.2,Pd,h1,h2,h3,h4,h5,xe,EVP,↓reduceIte,EV,Nat.reduceAdd,Nat.reduceEqDiff,Int.reduceToNat,reduceCtorEq]
    ·simp (disch:=omega) only [Lk,Fg,Mt,Pf z hz,h1,h2,h3,h4,xe,EVP,↓reduceIte,EV,Nat.reduceAdd,Nat.reduceEqDiff,Int.reduceToNat,reduceCtorEq]
   ·simp (disch:=omega) only [Lk,Fg,Mt,h1,h2,h3,xe,EVP,↓reduceIte,EV,Nat.reduceAdd,Nat.reduceEqDiff,Int.reduceToNat,reduceCtorEq]
 ·simp (disch:=omega) only [Lk,Fg,h1,xe,EVP,↓reduceIte,EV,Nat.reduceAdd,Nat.reduceEqDiff,Int.reduceToNat,reduceCtorEq]
end Go.X.G
/- The order of records; what a checked zone is like. -/
namespace Go.X.G
open Go Go.X
theorem TO.prod {α β:Type} {l1:α→α→Prop} {l2:β→β→Prop} (h1:TO l1) (h2:TO l2):TO (fun p q:α×β=>l1 p.1 q.1∨(p.1=q.1∧l2 p.2 q.2)) where
 irr:=fun p h=>by
  rcases h with h|⟨_,h⟩
  ·exact h1.irr _ h
  ·exact h2.irr _ h
 tr:=fun p q r a b=>by
  rcases a with a|⟨a,a'⟩<;>rcases b with b|⟨b,b'⟩
  ·exact .inl (h1.tr _ _ _ a b)
  ·exact .inl (b▸a)
  ·exact .inl (a▸b)
  ·exact .inr ⟨a.trans b,h2.tr _ _ _ a' b'⟩
 tri:=fun p q=>by
  rcases h1.tri p.1 q.1 with a|a|a
  ·exact .inl (.inl a)
  ·rcases h2.tri p.2 q.2 with b|b|b
   ·exact .inl (.inr ⟨a,b⟩)
   ·exact .inr (.inl (Prod.ext a b))
   ·exact .inr (.inr (.inr ⟨a.symm,b⟩))
  ·exact .inr (.inr (.inl a))
theorem Jd2:TO (fun a b:Int=>a<b):=⟨fun a h=>by omega,fun a b c h1 h2=>by omega,fun a b=>by omega⟩
theorem Zn (a b:Int):jp a b<0↔a<b:=by unfold jp;split<;>(try split)<;>omega
theorem H1 (a b:Int):jp a b=0↔a=b:=by unfold jp;split<;>(try split)<;>omega
abbrev Key:=List UInt8×Int×List UInt8
abbrev ltK:Key→Key→Prop:=fun p q=>ltN p.1 q.1∨(p.1=q.1∧(p.2.1<q.2.1∨(p.2.1=q.2.1∧ltB p.2.2 q.2.2)))
theorem to_K:TO ltK:=to_N.prod (Jd2.prod Fk3)
def Fk4 (r:Rec):Key:=(r.name,r.typ,Iy r.typ r.data)
abbrev ltR (a b:Rec):Prop:=ltK (Fk4 a) (Fk4 b)
theorem Ow {r:Rec} (h:M1 r=true):Dc r.typ r.data=true:=by
 unfold M1 at h
 simp only [Av] at h
 exact h.2
theorem b8 {r:Rec} (h:M1 r=true):vld r.name=true:=by
 unfold M1 at h
 simp only [Av] at h
 exact h.1.1.1.1
theorem Gg5 {t:Int} {a b:Dat} (ha:Dc t a=true) (hb:Dc t b=true):Dj2 t a b=cmpS (Iy t a) (Iy t b):=by
 unfold Dj2;rw [ha,hb];rfl
theorem Aq1 {a b:Rec} (ha:M1 a=true) (hb:M1 b=true):Nt a b<0↔ltR a b:=by
 unfold Nt ltR ltK Fk4
 simp only
 by_cases h1:Iw a.name b.name=0
 ·rw [if_neg (by simp [h1])]
  have e1:=H0.1 h1
  have n1:¬ltN a.name b.name:=by rw [e1];exact to_N.irr _
  by_cases h2:jp a.typ b.typ=0
  ·rw [if_neg (by simp [h2])]
   have e2:=(H1 _ _).1 h2
   have ha':=Ow ha
   have hb':=Ow hb
   rw [e2] at ha' ⊢
   rw [Gg5 ha' hb',R7]
   constructor
   ·intro h;exact .inr ⟨e1,.inr ⟨rfl,h⟩⟩
   ·rintro (h|⟨_,h|⟨_,h⟩⟩)
    ·exact absurd h n1
    ·omega
    ·exact h
  ·rw [if_pos h2,Zn]
   have e2:a.typ≠b.typ:=fun e=>h2 ((H1 _ _).2 e)
   constructor
   ·intro h;exact .inr ⟨e1,.inl h⟩
   ·rintro (h|⟨_,h|⟨h,_⟩⟩)
    ·exact absurd h n1
    ·exact h
    ·exact absurd h e2
 ·rw [if_pos h1,E4]
  have e1:a.name≠b.name:=fun e=>h1 (H0.2 e)
  constructor
  ·intro h;exact .inl h
  ·rintro (h|⟨h,_⟩)
   ·exact h
   ·exact absurd h e1
theorem jr {a b:Rec} (ha:M1 a=true) (hb:M1 b=true):Nt a b=0↔Fk4 a=Fk4 b:=by
 unfold Nt Fk4
 by_cases h1:Iw a.name b.name=0
 ·rw [if_neg (by simp [h1])]
  have e1:=H0.1 h1
  by_cases h2:jp a.typ b.typ=0
  ·rw [if_neg (by simp [h2])]
   have e2:=(H1 _ _).1 h2
   have ha':=Ow ha
   have hb':=Ow hb
   rw [e2] at ha' ⊢
   rw [Gg5 ha' hb',I5]
   simp [e1]
  ·rw [if_pos h2]
   have e2:a.typ≠b.typ:=fun e=>h2 ((H1 _ _).2 e)
   constructor
   ·intro h;exact absurd h h2
   ·intro h;injection h with _ h;injection h with h _;exact absurd h e2
 ·rw [if_pos h1]
  have e1:a.name≠b.name:=fun e=>h1 (H0.2 e)
  constructor
  ·intro h;exact absurd h h1
  ·intro h;injection h with h _;exact absurd h e1
theorem Ts {x:Rec} (hx:M1 x=true):∀(l:List Rec),(∀r∈l,M1 r=true)→l.Pairwise ltR→(Tt x l).Pairwise ltR
 |[],_,_=>by simp [Tt]
 |y::r,hv,h=>by
  obtain ⟨h1,h2⟩:=As.1 h
  have hy:=hv y (.head _)
  have ih:=Ts hx r (fun w hw=>hv w (.tail _ hw)) h2
  simp only [Tt]
  by_cases c:Nt y x<0
  ·rw [if_pos c]
   refine As.2 ⟨fun w hw=> ?_,ih⟩
   rcases insR_mem x r w hw with rfl|hw
   ·exact (Aq1 hy hx).1 c
   ·exact h1 w hw
  ·rw [if_neg c]
   by_cases e:Nt y x=0
   ·rw [if_pos e]
    split
    ·have ke:=(jr hy hx).1 e
     refine As.2 ⟨fun w hw=> ?_,h2⟩
     have:=h1 w hw
     show ltK (Fk4 x) (Fk4 w)
     rw [←ke];exact this
    ·exact h
   ·rw [if_neg e]
    have hxy:ltR x y:=by
     rcases to_K.tri (Fk4 x) (Fk4 y) with q|q|q
     ·exact q
     ·exact absurd ((jr hy hx).2 q.symm) e
     ·exact absurd ((Aq1 hy hx).2 q) c
    refine As.2 ⟨fun w hw=> ?_,h⟩
    rcases Ag.1 hw with rfl|hw
    ·exact hxy
    ·exact to_K.tr _ _ _ hxy (h1 w hw)
theorem dq (l:List Rec) (hv:∀r∈l,M1 r=true):(sortR l).Pairwise ltR∧∀r∈sortR l,r∈l:=by
 have:∀(l a:List Rec),(∀r∈l,M1 r=true)→(∀r∈a,M1 r=true)→a.Pairwise ltR→(l.foldl (fun acc x=>Tt x acc) a).Pairwise ltR∧∀r∈l.foldl (fun acc x=>Tt x acc) a,r∈a∨r∈l:=by
  intro l
  induction l with
  |nil=>intro a _ _ h;exact ⟨h,fun r hr=> .inl hr⟩
  |cons x r ih=>
   intro a h1 h2 h3
   have hx:=h1 x (.head _)
   obtain ⟨g1,g2⟩:=ih (Tt x a) (fun w hw=>h1 w (.tail _ hw)) (fun w hw=>by
    rcases insR_mem x a w hw with rfl|hw
    ·exact hx
    ·exact h2 w hw) (Ts hx a h2 h3)
   refine ⟨g1,fun w hw=> ?_⟩
   rcases g2 w hw with hw|hw
   ·rcases insR_mem x a w hw with rfl|hw
    ·exact .inr (.head _)
    ·exact .inl hw
   ·exact .inr (.tail _ hw)
 obtain ⟨h1,h2⟩:=this l [] hv (fun r hr=>by cases hr) .nil
 exact ⟨h1,fun r hr=>(h2 r hr).resolve_left (by simp)⟩
structure ZOk (z:Zone):Prop where
 origin:vld z.origin=true
 small:z.recs.length≤2048
 valid:∀r∈z.recs,M1 r=true
 rising:z.recs.Pairwise ltR
 soa:(findR z.recs z.origin 6).length=1
 ns:U3 z.recs z.origin 2=true
 recs:∀r∈z.recs,K4 z r=true
theorem ZOk.beside {z:Zone} (h:ZOk z) {r x:Rec} (hr:r∈z.recs) (hx:x∈z.recs):G8 r x=true:=by
 have:=h.recs r hr
 unfold K4 at this
 simp only [Av] at this
 have h2:=this.1.2
 unfold L4 at h2
 exact By.1 h2 x hx
theorem ZOk.under {z:Zone} (h:ZOk z) {r:Rec} (hr:r∈z.recs):under r.name z.origin=true:=by
 have:=h.recs r hr
 unfold K4 at this
 simp only [Av] at this
 exact this.1.1.1
theorem ZOk.single {z:Zone} (h:ZOk z) (n:List UInt8) (t:Int) (ht:t=6∨t=5∨t=39):(findR z.recs n t).length≤1:=by
 have hp:(findR z.recs n t).Pairwise ltR:=h.rising.filter _
 have hm:∀x∈findR z.recs n t,x∈z.recs∧x.name=n∧x.typ=t:=fun x hx=>by
  obtain ⟨h1,h2⟩:=B0.1 hx
  simp only [isK,Av,decide_eq_true_eq] at h2
  exact ⟨h1,h2.1,h2.2⟩
 generalize findR z.recs n t=l at*
 match l,hp,hm with
 |[],_,_=>simp
 |[_],_,_=>simp
 |a::b::r,hp,hm=>
  exfalso
  have hab:ltR a b:=(As.1 hp).1 b (.head _)
  obtain ⟨a1,a2,a3⟩:=hm a (.head _)
  obtain ⟨b1,b2,b3⟩:=hm b (.tail _ (.head _))
  have hb:=h.beside a1 b1
  have e:b=a:=by
   unfold G8 at hb
   rw [a2,a3,b2,b3] at hb
   have ht':(decide (t=6)||decide (t=5)||decide (t=39))=true:=by rcases ht with h|h|h<;>simp [h]
   rw [ht'] at hb
   simp only [decide_true,Km,Kn,Pm,Jx2,Av,A9,decide_eq_false_iff_not,ne_eq,N5] at hb
   exact hb.1.2
  rw [e] at hab
  exact to_K.irr _ hab
end Go.X.G
/- Sorted lists of names, each once. -/
namespace Go.X.G
open Go Go.X
def Rx {α:Type} (e:α→α→Bool):α→List α→List α
 |_,[]=>[]
 |p,c::r=>if e c p=true then Rx e c r else c::Rx e c r
def cpt {α:Type} (e:α→α→Bool):List α→List α
 |[]=>[]
 |x::r=>x::Rx e x r
theorem jm {α:Type} (e:α→α→Bool) (c:α):∀(r:List α) (p:α),Rx e p (r++[c])=Rx e p r++(if e c ((p::r).getLast (by simp))=true then [] else [c])
 |[],p=>by
  simp only [Cv,Rx,List.getLast_singleton]
  rfl
 |x::r,p=>by
  have ih:=jm e c r x
  simp only [B3,Rx,List.getLast_cons_cons]
  split
  ·exact ih
  ·rw [ih];rfl
theorem Mm {α:Type} (e:α→α→Bool) (c:α) (l:List α) (h:l≠[]):cpt e (l++[c])=cpt e l++(if e c (l.getLast h)=true then [] else [c]):=by
 cases l with
 |nil=>exact absurd rfl h
 |cons x r=>
  show x::Rx e x (r++[c])=_
  rw [jm];rfl
theorem Ak6 {α:Type} (e:α→α→Bool):∀(r:List α) (p:α),(Rx e p r).length≤r.length
 |[],_=>by simp [Rx]
 |c::r,p=>by
  have:=Ak6 e r c
  simp only [Rx]
  split<;>simp<;>omega
theorem Uc {α:Type} (e:α→α→Bool) (l:List α):(cpt e l).length≤l.length:=by
 cases l with
 |nil=>simp [cpt]
 |cons x r=>have:=Ak6 e r x;simp [cpt];exact this
theorem Zh {α:Type} (e:α→α→Bool):∀(r:List α) (p:α),∀x∈Rx e p r,x∈r
 |[],_,x,h=>by simp [Rx] at h
 |c::r,p,x,h=>by
  simp only [Rx] at h
  split at h
  ·exact .tail _ (Zh e r c x h)
  ·rcases Ag.1 h with rfl|h
   ·exact .head _
   ·exact .tail _ (Zh e r c x h)
theorem Ip2 {α:Type} (e:α→α→Bool) (l:List α):∀x∈cpt e l,x∈l:=by
 cases l with
 |nil=>intro x h;simp [cpt] at h
 |cons y r=>
  intro x h
  rcases Ag.1 (show x∈y::Rx e y r from h) with rfl|h
  ·exact .head _
  ·exact .tail _ (Zh e r y x h)
abbrev eqs {α:Type} [DecidableEq α]:α→α→Bool:=fun a b=>decide (a=b)
theorem cptG_mem {α:Type} [DecidableEq α]:∀(r:List α) (p x:α),x∈r→x=p∨x∈Rx eqs p r
 |[],_,x,h=>by simp at h
 |c::r,p,x,h=>by
  simp only [Rx]
  by_cases hc:c=p
  ·subst hc
   rw [if_pos (by simp [eqs])]
   rcases Ag.1 h with rfl|h
   ·exact .inl rfl
   ·exact cptG_mem r c x h
  ·rw [if_neg (by simp [eqs,hc])]
   right
   rcases Ag.1 h with rfl|h
   ·exact .head _
   ·rcases cptG_mem r c x h with rfl|h
    ·exact .head _
    ·exact .tail _ h
theorem Ip3 {α:Type} [DecidableEq α] (l:List α) (x:α):x∈cpt eqs l↔x∈l:=by
 refine ⟨Ip2 _ l x,fun h=> ?_⟩
 cases l with
 |nil=>simp at h
 |cons y r=>
  rcases Ag.1 h with rfl|h
  ·exact .head _
  ·rcases cptG_mem r y x h with rfl|h
   ·exact .head _
   ·exact .tail _ h
theorem Ud {α:Type} [DecidableEq α] {lt:α→α→Prop} (ht:TO lt):∀(r:List α) (p:α),(p::r).Pairwise (fun a b=>¬lt b a)→(p::Rx eqs p r).Pairwise lt
 |[],p,_=>by simp [Rx]
 |c::r,p,h=>by
  rw [As] at h
  have ih:=Ud ht r c h.2
  simp only [Rx]
  by_cases hc:c=p
  ·subst hc
   rw [if_pos (by simp [eqs])]
   exact ih
  ·rw [if_neg (by simp [eqs,hc])]
   rw [As]
   refine ⟨fun x hx=> ?_,ih⟩
   have hpc:lt p c:=by
    rcases ht.tri p c with h1|h1|h1
    ·exact h1
    ·exact absurd h1.symm hc
    ·exact absurd h1 (h.1 c (.head _))
   rcases Ag.1 hx with rfl|hx
   ·exact hpc
   ·exact ht.tr _ _ _ hpc ((As.1 ih).1 x hx)
theorem Bc9 {α:Type} [DecidableEq α] {lt:α→α→Prop} (ht:TO lt) (l:List α) (h:l.Pairwise (fun a b=>¬lt b a)):(cpt eqs l).Pairwise lt:=by
 cases l with
 |nil=>simp [cpt]
 |cons x r=>exact Ud ht r x h
theorem Ss {α:Type} {lt:α→α→Prop} (ht:TO lt):∀(a b:List α),a.Pairwise lt→b.Pairwise lt→(∀x,x∈a↔x∈b)→a=b
 |[],[],_,_,_=>rfl
 |[],y::b,_,_,h=>absurd ((h y).2 (.head _)) (by simp)
 |x::a,[],_,_,h=>absurd ((h x).1 (.head _)) (by simp)
 |x::a,y::b,ha,hb,h=>by
  rw [As] at ha hb
  have hxy:x=y:=by
   rcases Ag.1 ((h x).1 (.head _)) with h1|h1
   ·exact h1
   ·rcases Ag.1 ((h y).2 (.head _)) with h2|h2
    ·exact h2.symm
    ·exact absurd (hb.1 x h1) (ht.asym (ha.1 y h2))
  subst hxy
  rw [Ss ht a b ha.2 hb.2 fun z=> ?_]
  constructor
  ·intro hz
   rcases Ag.1 ((h z).1 (.tail _ hz)) with rfl|h1
   ·exact absurd (ha.1 z hz) (ht.irr z)
   ·exact h1
  ·intro hz
   rcases Ag.1 ((h z).2 (.tail _ hz)) with rfl|h1
   ·exact absurd (hb.1 z hz) (ht.irr z)
   ·exact h1
def setN (l:List (List UInt8)):List (List UInt8):=cpt eqs (l.mergeSort fun x y=> !decide (Iw y x<0))
theorem If4 (l:List (List UInt8)):(l.mergeSort fun x y=> !decide (Iw y x<0)).Pairwise (fun a b=>¬ltN b a):=by
 have:=List.pairwise_mergeSort (le:=fun x y:List UInt8=> !decide (Iw y x<0)) (fun a b c h1 h2=>by
  simp only [A9,decide_eq_false_iff_not,E4] at h1 h2 ⊢
  exact to_N.ntr h2 h1) (fun a b=>by
  simp only [An,A9,decide_eq_false_iff_not,E4]
  rcases to_N.tri a b with h|h|h
  ·exact .inl (to_N.asym h)
  ·subst h;exact .inl (to_N.irr a)
  ·exact .inr (to_N.asym h)) l
 refine this.imp fun {a b} h=> ?_
 simpa only [A9,decide_eq_false_iff_not,E4] using h
theorem Ny (l:List (List UInt8)):(setN l).Pairwise ltN:=Bc9 to_N _ (If4 l)
theorem Kq (l:List (List UInt8)) (x:List UInt8):x∈setN l↔x∈l:=by
 unfold setN
 rw [Ip3]
 exact (List.mergeSort_perm _ _).mem_iff
theorem Rh (l:List (List UInt8)):(setN l).length≤l.length:=by
 have:=Uc eqs (l.mergeSort fun x y=> !decide (Iw y x<0))
 rw [lw] at this
 exact this
end Go.X.G
/- Names on the way up; delegations above a name. -/
namespace Go.X.G
open Go Go.X
def upN (o n:List UInt8):List (List UInt8):=(List.range ((lbl n).length - (lbl o).length+1)).map fun k=>jn ((lbl n).drop k)
theorem J8 {o n x:List UInt8} (h:under n o=true):x∈upN o n↔under n x=true∧under x o=true:=by
 obtain ⟨hn,ho,hs⟩:=B7.1 h
 have hle:=hs.length_le
 rw [Gc] at hs
 unfold upN
 rw [D4]
 constructor
 ·rintro ⟨k,hk,rfl⟩
  rw [E9] at hk
  obtain ⟨v1,v2⟩:=J7 hn k
  refine ⟨B7.2 ⟨hn,v1,by rw [v2];exact List.drop_suffix _ _⟩,B7.2 ⟨v1,ho,?_⟩⟩
  rw [v2,hs]
  have:(lbl n).length - (lbl o).length=k+((lbl n).length - (lbl o).length - k):=by omega
  rw [this,←C8]
  exact List.drop_suffix _ _
 ·rintro ⟨h1,h2⟩
  obtain ⟨_,hx,h3⟩:=B7.1 h1
  obtain ⟨_,_,h4⟩:=B7.1 h2
  have l1:=h3.length_le
  have l2:=h4.length_le
  rw [Gc] at h3
  refine ⟨(lbl n).length - (lbl x).length,?_,?_⟩
  ·rw [E9];omega
  ·rw [←h3];exact (Sw hx).symm
theorem X8 (o n:List UInt8):(upN o n).length≤256:=by
 have:=Gz n
 simp [upN];omega
theorem Pr {o n:List UInt8} {k:Nat} (hk:k≤(lbl n).length - (lbl o).length):(upN o n)[k]? =some (jn ((lbl n).drop k)):=by
 unfold upN
 rw [Bh,Cy (by omega)];rfl
theorem og {n:List UInt8} (h:vld n=true):jn ((lbl n).drop 0)=n:=by rw [Dy];exact (Sw h).symm
theorem b9 {o n:List UInt8} (h:under n o=true) {k:Nat} (hk:k≤(lbl n).length - (lbl o).length):jn ((lbl n).drop k)=o↔k=(lbl n).length - (lbl o).length:=by
 obtain ⟨hn,ho,hs⟩:=B7.1 h
 have hle:=hs.length_le
 rw [Gc] at hs
 obtain ⟨v1,v2⟩:=J7 hn k
 constructor
 ·intro e
  have:=congrArg (fun x=>(lbl x).length) e
  simp only [v2,Bt] at this
  omega
 ·rintro rfl
  rw [←hs];exact (Sw ho).symm
theorem Bn1 {o n:List UInt8} (h:under n o=true) {k:Nat} (hk:k<(lbl n).length - (lbl o).length):parentN (jn ((lbl n).drop k))=jn ((lbl n).drop (k+1))∧T4 (jn ((lbl n).drop k))=true:=by
 obtain ⟨hn,ho,hs⟩:=B7.1 h
 obtain ⟨v1,v2⟩:=J7 hn k
 have hne:jn ((lbl n).drop k)≠[46]:=by
  intro e
  have:=(Tm v1).2 e
  rw [v2] at this
  have:=congrArg List.length this
  simp at this
  omega
 unfold parentN T4
 rw [if_pos ⟨v1,hne⟩,v2,C8]
 exact ⟨rfl,by simp [v1,hne]⟩
theorem Cy8 {o:List UInt8} (ho:vld o=true):under (parentN o) o=false:=by
 rcases Ak (under (parentN o) o) with h|h
 ·obtain ⟨_,_,h2⟩:=B7.1 h
  unfold parentN at h2
  by_cases hr:o=[46]
  ·rw [if_neg (by simp [hr])] at h2
   unfold parentN at h
   rw [if_neg (by simp [hr])] at h
   obtain ⟨h3,_,_⟩:=B7.1 h
   simp [vld,nm] at h3
  ·rw [if_pos ⟨ho,hr⟩,(J7 ho 1).2] at h2
   have:=h2.length_le
   have hne:lbl o≠[]:=fun e=>hr ((Tm ho).1 e)
   have:=Bv.2 hne
   simp at*
   omega
 ·exact h
theorem Zq (l:List (List UInt8)) (i j:Nat) (h:i<j) (hj:j≤l.length):(flat (l.drop j)).length<(flat (l.drop i)).length:=by
 have e:l.drop i=(l.drop i).take (j - i)++l.drop j:=by
  have:=(Bl (j - i) (l.drop i)).symm
  rw [C8,show i+(j - i)=j by omega] at this
  exact this
 rw [e,Zv,Az]
 have:0<(flat ((l.drop i).take (j - i))).length:=by
  cases hc:(l.drop i).take (j - i) with
  |nil=>
   have:=congrArg List.length hc
   simp at this;omega
  |cons x r=>simp [flat];omega
 omega
theorem Et3 {n a b:List UInt8} (ha:under n a=true) (hb:under n b=true):a.length<b.length↔(lbl a).length<(lbl b).length:=by
 have key:∀{a b:List UInt8},under n a=true→under n b=true→(lbl a).length<(lbl b).length→a.length<b.length:=by
  intro a b ha hb hl
  obtain ⟨hn,va,sa⟩:=B7.1 ha
  obtain ⟨_,vb,sb⟩:=B7.1 hb
  have la:=sa.length_le
  have lb:=sb.length_le
  rw [Gc] at sa sb
  rw [Sw va,Sw vb]
  have hbne:lbl b≠[]:=fun e=>by rw [e] at hl;simp at hl
  have e2:jn (lbl b)=flat (lbl b):=by unfold jn;rw [if_neg hbne]
  rw [e2]
  by_cases ha0:lbl a=[]
  ·have e1:jn (lbl a)=[46]:=by unfold jn;rw [if_pos ha0]
   rw [e1]
   have:=Jd (X6 vb) hbne
   simp;omega
  ·have e1:jn (lbl a)=flat (lbl a):=by unfold jn;rw [if_neg ha0]
   rw [e1,sa,sb]
   exact Zq _ _ _ (by omega) (by omega)
 constructor
 ·intro h
  rcases Nat.lt_or_ge (lbl a).length (lbl b).length with h1|h1
  ·exact h1
  ·rcases Nat.lt_or_eq_of_le h1 with h2|h2
   ·have:=key hb ha h2;omega
   ·obtain ⟨_,va,sa⟩:=B7.1 ha
    obtain ⟨_,vb,sb⟩:=B7.1 hb
    rw [Gc] at sa sb
    have:a=b:=Nl va vb (by rw [sa,sb,h2])
    subst this;omega
 ·exact key ha hb
def Ch (z:Zone) (r:Rec):Bool:=decide (r.typ=2) && Dn r.name z.origin
def Xk (z:Zone) (n:List UInt8):List UInt8→List Rec→List UInt8
 |b,[]=>b
 |b,r::rs=>Xk z n (if Ch z r && under n r.name && (decide (b=[])||decide ((lbl r.name).length<(lbl b).length)) then r.name else b) rs
def cutN (z:Zone) (n:List UInt8):List UInt8:=Xk z n [] z.recs
theorem qc (z:Zone) (n:List UInt8):∀(l:List Rec) (b:List UInt8),(b=[]∨under n b=true)→
  (Xk z n b l=[]→b=[]∧∀r∈l,Ch z r=true→under n r.name=false)∧
  (Xk z n b l≠[]→under n (Xk z n b l)=true∧(Xk z n b l=b∨∃r∈l,Ch z r=true∧r.name=Xk z n b l)∧(b≠[]→(lbl (Xk z n b l)).length≤(lbl b).length)∧∀r∈l,Ch z r=true→under n r.name=true→(lbl (Xk z n b l)).length≤(lbl r.name).length)
 |[],b,hb=>by
  simp only [Xk]
  refine ⟨fun h=>⟨h,fun r hr=>by simp at hr⟩,fun h=>⟨hb.resolve_left h,.inl trivial,fun _=>Ac _,fun r hr=>by simp at hr⟩⟩
 |r::rs,b,hb=>by
  simp only [Xk]
  have hne:under n r.name=true→r.name≠[]:=fun h e=>by
   have:=(B7.1 h).2.1
   rw [e] at this
   simp [vld,nm] at this
  by_cases hc:(Ch z r && under n r.name && (decide (b=[])||decide ((lbl r.name).length<(lbl b).length)))=true
  ·rw [if_pos hc]
   simp only [Av,An,decide_eq_true_eq] at hc
   obtain ⟨⟨c1,c2⟩,c3⟩:=hc
   obtain ⟨h1,h2⟩:=qc z n rs r.name (.inr c2)
   refine ⟨fun h=>absurd (h1 h).1 (hne c2),fun h=> ?_⟩
   obtain ⟨g1,g2,g3,g4⟩:=h2 h
   refine ⟨g1,.inr ?_,fun hb0=> ?_,fun x hx hx1 hx2=> ?_⟩
   ·rcases g2 with g2|⟨x,hx,g2⟩
    ·exact ⟨r,.head _,c1,g2.symm⟩
    ·exact ⟨x,.tail _ hx,g2⟩
   ·have:=g3 (hne c2)
    rcases c3 with c3|c3
    ·exact absurd c3 hb0
    ·omega
   ·rcases Ag.1 hx with rfl|hx
    ·exact g3 (hne c2)
    ·exact g4 x hx hx1 hx2
  ·rw [if_neg hc]
   obtain ⟨h1,h2⟩:=qc z n rs b hb
   have hr:Ch z r=true→under n r.name=true→b≠[]∧(lbl b).length≤(lbl r.name).length:=by
    intro c1 c2
    simp only [c1,c2,Bool.and_self,Jx2,An,decide_eq_true_eq,not_or,Nat.not_lt] at hc
    exact hc
   refine ⟨fun h=> ?_,fun h=> ?_⟩
   ·obtain ⟨g1,g2⟩:=h1 h
    refine ⟨g1,fun x hx hx1=> ?_⟩
    rcases Ag.1 hx with rfl|hx
    ·rcases Ak (under n x.name) with h3|h3
     ·exact absurd g1 (hr hx1 h3).1
     ·exact h3
    ·exact g2 x hx hx1
   ·obtain ⟨g1,g2,g3,g4⟩:=h2 h
    refine ⟨g1,?_,g3,fun x hx hx1 hx2=> ?_⟩
    ·rcases g2 with g2|⟨x,hx,g2⟩
     ·exact .inl g2
     ·exact .inr ⟨x,.tail _ hx,g2⟩
    ·rcases Ag.1 hx with rfl|hx
     ·obtain ⟨q1,q2⟩:=hr hx1 hx2
      have:=g3 q1
      omega
     ·exact g4 x hx hx1 hx2
def T3 (z:Zone) (n:List UInt8):Bool:=z.recs.any fun r=>Ch z r && decide (r.name≠n) && under n r.name
theorem As0 {a b:List UInt8} (h1:under a b=true) (h2:(lbl a).length≤(lbl b).length):a=b:=by
 obtain ⟨va,vb,s⟩:=B7.1 h1
 exact Nl va vb (s.eq_of_length_le h2).symm
theorem Ih4 (z:Zone) (n:List UInt8):T3 z n=(decide (cutN z n≠[]) && decide (cutN z n≠n)):=by
 obtain ⟨h1,h2⟩:=qc z n z.recs [] (.inl rfl)
 have e:cutN z n=Xk z n [] z.recs:=rfl
 rw [←e] at h1 h2
 rw [Cn]
 unfold T3
 simp only [Cj,Av,decide_eq_true_eq]
 constructor
 ·rintro ⟨r,hr,⟨c1,c2⟩,c3⟩
  have hne:cutN z n≠[]:=fun h=>by
   have:=(h1 h).2 r hr c1
   rw [c3] at this;cases this
  refine ⟨hne,fun h=> ?_⟩
  obtain ⟨_,_,_,g4⟩:=h2 hne
  have:=g4 r hr c1 c3
  rw [h] at this
  exact c2 (As0 c3 this).symm
 ·rintro ⟨hne,hnn⟩
  obtain ⟨g1,g2,_,_⟩:=h2 hne
  rcases g2 with g2|⟨r,hr,c1,c2⟩
  ·exact absurd g2 hne
  ·exact ⟨r,hr,⟨c1,by rw [c2];exact hnn⟩,by rw [c2];exact g1⟩
def Jx1 (z:Zone):List (List UInt8):=(z.recs.filter fun r=>under r.name z.origin && !T3 z r.name).flatMap fun r=>upN z.origin r.name
def namesN (z:Zone):List (List UInt8):=setN (Jx1 z)
def Fk5 (z:Zone) (x:List UInt8):Prop:=∃r∈z.recs,under r.name z.origin=true∧T3 z r.name=false∧under r.name x=true∧under x z.origin=true
theorem Ap6 (z:Zone) (x:List UInt8):x∈Jx1 z↔Fk5 z x:=by
 unfold Jx1 Fk5
 simp only [List.mem_flatMap,B0,Av,A9]
 constructor
 ·rintro ⟨r,⟨hr,h1,h2⟩,h3⟩
  obtain ⟨h4,h5⟩:=(J8 h1).1 h3
  exact ⟨r,hr,h1,h2,h4,h5⟩
 ·rintro ⟨r,hr,h1,h2,h4,h5⟩
  exact ⟨r,⟨hr,h1,h2⟩,(J8 h1).2 ⟨h4,h5⟩⟩
theorem zw (z:Zone) (l:List (List UInt8)) (h:∀x,x∈l↔Fk5 z x):setN l=namesN z:=
 Ss to_N _ _ (Ny _) (Ny _) fun x=>by rw [Kq,h,namesN,Kq,Ap6]
theorem Wq (z:Zone) (x:List UInt8):x∈namesN z↔Fk5 z x:=by
 unfold namesN;rw [Kq,Ap6]
end Go.X.G
