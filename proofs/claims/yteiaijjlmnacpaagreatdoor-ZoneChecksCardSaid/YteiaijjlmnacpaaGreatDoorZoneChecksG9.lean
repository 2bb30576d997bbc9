/- Names: what the reference's functions give. -/
import Derived.Test.YteiaijjlmnacpaaGreatDoorZoneChecksG7
import Derived.Test.YteiaijjlmnacpaaGreatDoorZoneChecksG8
open Bool renaming eq_false_or_eq_true→Ak,and_eq_true→Av,false_eq_true→Ab,or_eq_true→Am,not_eq_true'→A9,eq_iff_iff→Ch,not_true→J8,false_or→J9,and_true→Oz
open Classical renaming not_not→M3
open List renaming getElem?_eq_some_iff→Aq,getElem?_eq_getElem→Ax,length_append→Az,mem_cons→Ah,append_assoc→Ap,pairwise_cons→Ar,mem_of_getElem?→As,length_cons→A0,length_pos_iff→Bw,all_eq_true→By,length_nil→Bc,getD_eq_getElem?_getD→Bd,mem_append_right→Bg,getElem?_map→Bh,take_append_drop→Bl,mem_append→Br,mem_filter→Bs,length_drop→Bt,drop_eq_getElem_cons→B0,cons_append→B3,any_eq_true→B7,getElem?_cons_zero→Cj,getElem?_range→Cq,take_add_one→Cv,nil_append→Cd,mem_append_left→Cf,take_length→C2,drop_drop→C4,getElem?_cons_succ→Dz,drop_zero→Dp,mem_map→D3,pairwise_append→E2,mem_range→E3,drop_eq_nil_of_le→Fv,exists_mem_of_ne_nil→Fw,length_map→F2,mem_cons_self→Gk,flatMap_cons→Gn,drop_append_of_le_length→Iw,suffix_iff_eq_drop→Ip,getLast_eq_getElem→Is,isSuffixOf_iff_suffix→Kb,cons_prefix_cons→Ly,append_cancel_right→Oy,length_mergeSort→fq,count_eq_zero→Jd6
open Nat renaming le_refl→Ac,zero_le→Cm
open Option renaming map_eq_some_iff→Aw,map_some→A4
set_option maxHeartbeats 1000000
set_option linter.unusedVariables false
set_option linter.unusedSimpArgs false
namespace Go.X.G
open Go Go.X
def Nr (c:UInt8):Bool:=decide (97≤(c.toNat:Int)) && decide ((c.toNat:Int)≤122)||decide (48≤(c.toNat:Int)) && decide ((c.toNat:Int)≤57)||decide ((c.toNat:Int)=45)||decide ((c.toNat:Int)=95)
theorem Al7 (c:UInt8):(decide (97≤(c.toNat:Int)) && decide ((c.toNat:Int)≤122)||decide (48≤(c.toNat:Int)) && decide ((c.toNat:Int)≤57)||decide ((c.toNat:Int)=45)||decide ((c.toNat:Int)=95))=Nr c:=rfl
def Jx (s:List UInt8):Bool:=decide (s=[42])||(decide (1≤s.length) && decide (s.length≤63) && s.all Nr)
theorem Am2 (s:List UInt8) (N:Nat) (hN:s.length<N) (hs:s.length≤4294967296):
  Bt6.ev S N [.s s]=some (if s.all Nr=true then .yld 0 [] else .ret [.b false]):=by
 refine Dw s (fun i=>[.i .i64 (i:Int)]) (fun i r=>if r.all Nr=true then .yld 0 [] else .ret [.b false]) rfl hN (fun i c r hd hi hc=> ?_) ?_
 ·simp (disch:=omega) only [At9,↓reduceIte,EV,Nat.reduceAdd,Nat.reduceEqDiff,Int.reduceToNat,reduceCtorEq,hc,Al7]
  cases h:Nr c<;>simp [h,Out.goes]
 ·simp (disch:=omega) [At9,↓reduceIte,EV,Nat.reduceAdd,Nat.reduceEqDiff,Int.reduceToNat,reduceCtorEq,Out.goes]
theorem Am1 (s:List UInt8) (hs:s.length≤4294967296):S am 1 [.s s]=some [.b (Jx s)]:=by
 refine Ic6 (N:=s.length+1) rfl ?_
 simp (disch:=omega) only [At9,Am2,↓reduceIte,EV,Nat.reduceAdd,Nat.reduceEqDiff,Int.reduceToNat,reduceCtorEq]
 unfold Jx
 grind
end Go.X.G
/- Names: what the reference's functions give. -/
namespace Go.X.G
open Go Go.X
def spl (first:Bool) (cur:List UInt8):List UInt8→Option (List (List UInt8))
 |[]=>some []
 |c::r=>if c=46 then (if Jx cur=true∧(cur=[42]→first=true) then (spl false [] r).map (cur::·) else none) else spl first (cur++[c]) r
def nm (n:List UInt8):Option (List (List UInt8)):=
 if n=[46] then some [] else if 2≤n.length∧n.length≤254∧n[n.length - 1]? =some 46 then spl true [] n else none
def lbl (n:List UInt8):List (List UInt8):=(nm n).getD []
def vld (n:List UInt8):Bool:=(nm n).isSome
theorem Hj8 {α:Type} (n:List α) (i j:Nat) (c:α) (h:n[i]? =some c) (hj:j≤i):(n.take (i+1)).drop j=(n.take i).drop j++[c]:=by
 have hi:i<n.length:=(Aq.1 h).1
 rw [Cv,h,Iw (by simp;omega)];rfl
theorem Hj9 {α:Type} (n:List α) (i:Nat):(n.take i).drop i=[]:=by
 rw [List.drop_eq_nil_iff];simp;omega
def T1 (l:List (List UInt8)):Option (List (List UInt8))→Out
 |some ls=> .yld 0 [.l 1 ((l++ls).map .s)]
 |none=> .ret [.l 1 [], .b false]
theorem El6 (n:List UInt8) (N:Nat) (hN:n.length<N) (hs:n.length≤1000):
  Fc5.ev S N [.s n]=some (T1 [] (spl true [] n)):=by
 refine F4 n (fun i (g:List (List UInt8)×Nat)=>[.l 1 (g.1.map .s), .i .i64 (g.2:Int), .i .i64 (i:Int)]) (fun i g r=>T1 g.1 (spl (decide (g.2=0)) ((n.take i).drop g.2) r)) (fun i g=>g.1.length≤i∧g.2≤i) ([],0) rfl ⟨Ac _,Ac _⟩ hN (fun i g c r hd hi hc hI=> ?_) (fun g hI=> ?_)
 ·obtain ⟨l,st⟩:=g
  obtain ⟨h1,h2⟩:=hI
  simp only at h1 h2 ⊢
  have hl:((n.take i).drop st).length≤4294967296:=by simp;omega
  have hm:(l.map PV.s).length=l.length:=F2 ..
  have hd':=Hj1 c 46 (by omega)
  by_cases hdot:c=46
  ·have hdi:=hd'.2 hdot
   simp (disch:=omega) only [Yw,↓reduceIte,EV,Nat.reduceAdd,Nat.reduceEqDiff,Int.reduceToNat,reduceCtorEq,hc,Am1]
   simp only [spl,if_pos hdot]
   by_cases h:Jx ((n.take i).drop st)=true∧((n.take i).drop st=[42]→st=0)
   ·obtain ⟨h3,h4⟩:=h
    left
    refine ⟨(l++[(n.take i).drop st],i+1),?_,?_,?_⟩
    ·rw [if_neg (by simp only [h3];intro h;simp at h;have:=h4 h.1;omega)]
     simp
    ·simp;omega
    ·simp only [Hj9]
     rw [if_pos ⟨h3,by simpa using h4⟩]
     cases h9:spl false [] r<;>simp [h9,T1]
   ·right
    have h':¬(Jx ((n.take i).drop st)=true∧((n.take i).drop st=[42]→decide (st=0)=true)):=by simpa using h
    rw [if_neg h']
    refine ⟨?_,rfl⟩
    rw [if_pos]
    ·rfl
    ·cases h5:Jx ((n.take i).drop st)
     ·simp
     ·simp only [h5,true_and] at h
      have ⟨h6,h7⟩:=Classical.not_imp.1 h
      simp [h6];omega
  ·have hdi:¬(c.toNat:Int)=46:=fun h=>hdot (hd'.1 h)
   left
   refine ⟨(l,st),?_,?_,?_⟩
   ·simp (disch:=omega) only [Yw,↓reduceIte,EV,Nat.reduceAdd,Nat.reduceEqDiff,Int.reduceToNat,reduceCtorEq,hc]
   ·simp only;omega
   ·simp only [spl];rw [if_neg hdot,Hj8 n i st c hc h2]
 ·simp (disch:=omega) [Yw,↓reduceIte,EV,Nat.reduceAdd,Nat.reduceEqDiff,Int.reduceToNat,reduceCtorEq,Out.goes,spl,T1]
theorem split_ok (n:List UInt8) (hs:n.length≤9223372036854775807):S Ty 1 [.s n]=some [Bv (lbl n), .b (vld n)]:=by
 refine Jn8 (N:=n.length+1) rfl ?_
 unfold Bv lbl vld nm
 by_cases h1:n=[46]
 ·simp (disch:=omega) [Yw,↓reduceIte,EV,Nat.reduceAdd,Nat.reduceEqDiff,Int.reduceToNat,reduceCtorEq,h1]
 ·rw [if_neg h1]
  by_cases h2:n.length<2
  ·simp (disch:=omega) only [Yw,↓reduceIte,EV,Nat.reduceAdd,Nat.reduceEqDiff,Int.reduceToNat,reduceCtorEq,h1]
   have h3:¬(2≤n.length∧n.length≤254∧n[n.length - 1]? =some 46):=by omega
   rw [if_neg h3];rfl
  ·by_cases h3:254<n.length
   ·simp (disch:=omega) only [Yw,↓reduceIte,EV,Nat.reduceAdd,Nat.reduceEqDiff,Int.reduceToNat,reduceCtorEq,h1]
    have h3:¬(2≤n.length∧n.length≤254∧n[n.length - 1]? =some 46):=by omega
    rw [if_neg h3];rfl
   ·have h4:=Ax (l:=n) (i:=n.length - 1) (by omega)
    have h5:((n.length:Int) - 1).toNat=n.length - 1:=by omega
    have h6:=Hj1 (n[n.length - 1]'(by omega)) 46 (by omega)
    simp (disch:=omega) only [Yw,↓reduceIte,EV,Nat.reduceAdd,Nat.reduceEqDiff,Int.reduceToNat,reduceCtorEq,h1,h4,h5,El6]
    by_cases h7:n[n.length - 1]'(by omega)=46
    ·rw [if_pos (show 2≤n.length∧n.length≤254∧some (n[n.length - 1]'(by omega))=some 46 from ⟨by omega,by omega,by rw [h7]⟩),if_neg (fun h=>h (h6.2 h7))]
     cases h8:spl true [] n
     ·simp [T1,Eq5]
     ·simp (disch:=omega) [Yw,T1,↓reduceIte,EV,Nat.reduceAdd,Nat.reduceEqDiff,Int.reduceToNat,reduceCtorEq]
    ·rw [if_neg (show¬(2≤n.length∧n.length≤254∧some (n[n.length - 1]'(by omega))=some 46) from fun h=>h7 (by simpa using h.2.2)),if_pos (show (((n[n.length - 1]'(by omega)).toNat:Int)≠46) from fun h=>h7 (h6.1 h))]
     rfl
end Go.X.G
/- Names: what the reference's functions give, ctd. -/
namespace Go.X.G
open Go Go.X
theorem gv:∀(r:List UInt8) (f:Bool) (cur:List UInt8) (l:List (List UInt8)),spl f cur r=some l→l.length≤r.length
 |[],f,cur,l,h=>by simp [spl] at h;simp [←h]
 |c::r,f,cur,l,h=>by
  simp only [spl] at h
  split at h
  ·split at h
   ·obtain ⟨m,hm,rfl⟩:=Aw.1 h
    have:=gv r _ _ _ hm
    simp;omega
   ·cases h
  ·have:=gv r _ _ _ h
   simp;omega
theorem Im2 {n:List UInt8} {l:List (List UInt8)} (h:nm n=some l):l.length≤254:=by
 unfold nm at h
 split at h
 ·injection h with h;subst h;simp
 ·split at h
  ·rename_i h2
   have:=gv _ _ _ _ h;omega
  ·cases h
theorem Gs (n:List UInt8):(lbl n).length≤254:=by
 unfold lbl
 cases h:nm n with
 |none=>simp
 |some l=>exact Im2 h
theorem Fx (n:List UInt8) (hs:n.length≤9223372036854775807):S Z4 1 [.s n]=some [.b (vld n)]:=by
 refine Jt5 (N:=1) rfl ?_
 simp (disch:=omega) only [Jg6,split_ok,EVP,↓reduceIte,EV,Nat.reduceAdd,Nat.reduceEqDiff,Int.reduceToNat,reduceCtorEq]
theorem Pq (n:List UInt8) (hs:n.length≤9223372036854775807):S Ah1 1 [.s n]=some [Bv (lbl n)]:=by
 refine Js2 (N:=1) rfl ?_
 simp (disch:=omega) only [Jf9,split_ok,EVP,↓reduceIte,EV,Nat.reduceAdd,Nat.reduceEqDiff,Int.reduceToNat,reduceCtorEq]
def Qd {α:Type} [DecidableEq α]:List α→List α→Nat
 |x::xs,y::ys=>if x=y then Qd xs ys+1 else 0
 |_,_=>0
def Jq (a b:List (List UInt8)):Nat:=Qd a.reverse b.reverse
theorem Cv7 {α:Type} [DecidableEq α]:∀(a b:List α),Qd a b≤a.length∧Qd a b≤b.length
 |[],b=>by simp [Qd]
 |x::xs,[]=>by simp [Qd]
 |x::xs,y::ys=>by
  have:=Cv7 xs ys
  simp only [Qd]
  split<;>simp<;>omega
theorem Em4 (a b:List (List UInt8)):Jq a b≤a.length∧Jq a b≤b.length:=by
 have:=Cv7 a.reverse b.reverse
 simpa [Jq] using this
theorem Hq7 (a b:List (List UInt8)) (N:Nat) (hN:a.length<N) (ha:a.length≤1000000) (hb:b.length≤1000000):
  jw.ev S N [Bv a,Bv b]=some (.yld 0 [.i .i64 (Jq a b:Int)]):=by
 have key:=Ib (fn:=S) (N:=N) (η:=[Bv a,Bv b]) (id:=1) (init:=[(.c (.i .i64 (0)))]) (body:=mb) (α:=Nat) (fun k=>[.i .i64 (k:Int)]) (fun k=> .yld 0 [.i .i64 ((k+Qd (a.reverse.drop k) (b.reverse.drop k):Nat):Int)]) (fun k=>k≤a.length∧k≤b.length) (fun k=>a.length - k) 0 rfl ⟨Cm _,Cm _⟩ (by omega) ?_
 ·simpa [Jq,jw] using key
 ·rintro k ⟨h1,h2⟩
  by_cases h3:k<a.length
  ·by_cases h4:k<b.length
   ·have e1:((a.length:Int) - 1 - k).toNat=a.length - 1 - k:=by omega
    have e2:((b.length:Int) - 1 - k).toNat=b.length - 1 - k:=by omega
    have g1:a[a.length - 1 - k]? =some (a[a.length - 1 - k]'(by omega)):=Ax (by omega)
    have g2:b[b.length - 1 - k]? =some (b[b.length - 1 - k]'(by omega)):=Ax (by omega)
    have d1:a.reverse.drop k=(a[a.length - 1 - k]'(by omega))::a.reverse.drop (k+1):=by
     rw [B0 (by simpa using h3)];simp
    have d2:b.reverse.drop k=(b[b.length - 1 - k]'(by omega))::b.reverse.drop (k+1):=by
     rw [B0 (by simpa using h4)];simp
    simp (disch:=omega) only [nc,EVP,↓reduceIte,EV,Nat.reduceAdd,Nat.reduceEqDiff,Int.reduceToNat,reduceCtorEq,e1,e2,g1,g2]
    rw [d1,d2]
    simp only [Qd]
    by_cases h:a[a.length - 1 - k]'(by omega)=b[b.length - 1 - k]'(by omega)
    ·left
     refine ⟨k+1,by simp [h],⟨by omega,by omega⟩,by omega,?_⟩
     rw [if_pos h]
     congr 3
     push_cast
     omega
    ·right
     simp [h,Out.goes]
   ·right
    have d2:b.reverse.drop k=[]:=Fv (by simp;omega)
    have z:Qd (a.reverse.drop k) []=0:=by cases a.reverse.drop k<;>rfl
    rw [d2,z]
    simp (disch:=omega) [nc,EVP,↓reduceIte,EV,Nat.reduceAdd,Nat.reduceEqDiff,Int.reduceToNat,reduceCtorEq,Out.goes]
  ·right
   have d1:a.reverse.drop k=[]:=Fv (by simp;omega)
   have z:Qd [] (b.reverse.drop k)=0:=rfl
   rw [d1,z]
   simp (disch:=omega) [nc,EVP,↓reduceIte,EV,Nat.reduceAdd,Nat.reduceEqDiff,Int.reduceToNat,reduceCtorEq,Out.goes]
theorem gy (a b:List (List UInt8)) (ha:a.length≤1000000) (hb:b.length≤1000000):S Ur 2 [Bv a,Bv b]=some [.i .i64 (Jq a b:Int)]:=by
 refine Ig1 (N:=a.length+1) rfl ?_
 simp (disch:=omega) only [nc,Hq7,EVP,↓reduceIte,EV,Nat.reduceAdd,Nat.reduceEqDiff,Int.reduceToNat,reduceCtorEq]
def under (n top:List UInt8):Bool:=vld n && vld top && decide (Jq (lbl n) (lbl top)=(lbl top).length)
theorem N9 (n top:List UInt8) (hn:n.length≤9223372036854775807) (ht:top.length≤9223372036854775807):S Ah5 2 [.s n, .s top]=some [.b (under n top)]:=by
 refine Jt1 (N:=1) rfl ?_
 have h1:=Gs n
 have h2:=Gs top
 unfold under
 cases h3:vld n<;>cases h4:vld top<;>simp (disch:=omega) only [Jg3,split_ok,gy,h3,h4,EVP,↓reduceIte,EV,Nat.reduceAdd,Nat.reduceEqDiff,Int.reduceToNat,reduceCtorEq]
 all_goals (simp;try omega)
def cmpS (a b:List UInt8):Int:=if Op.bytesLess a b then -1 else if a=b then 0 else 1
theorem Nk (a b:List UInt8):S Ud 2 [.s a, .s b]=some [.i .i64 (cmpS a b)]:=by
 refine Ib7 (N:=1) rfl ?_
 unfold cmpS
 simp (disch:=omega) only [Ht6,EVP,↓reduceIte,EV,Nat.reduceAdd,Nat.reduceEqDiff,Int.reduceToNat,reduceCtorEq]
 cases h:Op.bytesLess a b
 ·by_cases h2:a=b<;>simp [h2]
 ·simp
def Ig (a b:List UInt8):Int:=
 if vld a && vld b then
  let k:=Jq (lbl a) (lbl b)
  if k<(lbl a).length∧k<(lbl b).length then cmpS ((lbl a).getD ((lbl a).length - 1 - k) []) ((lbl b).getD ((lbl b).length - 1 - k) [])
  else if (lbl a).length<(lbl b).length then -1 else if (lbl b).length<(lbl a).length then 1 else 0
 else if vld a then -1 else if vld b then 1 else cmpS a b
theorem m6 (a b:List UInt8) (hn:a.length≤9223372036854775807) (ht:b.length≤9223372036854775807):S bh 2 [.s a, .s b]=some [.i .i64 (Ig a b)]:=by
 refine If5 (N:=1) rfl ?_
 have h1:=Gs a
 have h2:=Gs b
 have h5:=Em4 (lbl a) (lbl b)
 unfold Ig
 cases h3:vld a<;>cases h4:vld b
 ·simp (disch:=omega) [Yd,split_ok,Nk,h3,h4,EVP,↓reduceIte,EV,Nat.reduceAdd,Nat.reduceEqDiff,Int.reduceToNat,reduceCtorEq]
 ·simp (disch:=omega) [Yd,split_ok,Nk,h3,h4,EVP,↓reduceIte,EV,Nat.reduceAdd,Nat.reduceEqDiff,Int.reduceToNat,reduceCtorEq]
 ·simp (disch:=omega) [Yd,split_ok,Nk,h3,h4,EVP,↓reduceIte,EV,Nat.reduceAdd,Nat.reduceEqDiff,Int.reduceToNat,reduceCtorEq]
 ·by_cases h6:Jq (lbl a) (lbl b)<(lbl a).length∧Jq (lbl a) (lbl b)<(lbl b).length
  ·obtain ⟨h7,h8⟩:=h6
   have e1:(((lbl a).length:Int) - 1 - (Jq (lbl a) (lbl b):Int)).toNat=(lbl a).length - 1 - Jq (lbl a) (lbl b):=by omega
   have e2:(((lbl b).length:Int) - 1 - (Jq (lbl a) (lbl b):Int)).toNat=(lbl b).length - 1 - Jq (lbl a) (lbl b):=by omega
   have g1:=Ax (l:=lbl a) (i:=(lbl a).length - 1 - Jq (lbl a) (lbl b)) (by omega)
   have g2:=Ax (l:=lbl b) (i:=(lbl b).length - 1 - Jq (lbl a) (lbl b)) (by omega)
   simp (disch:=omega) only [Yd,split_ok,gy,Nk,h3,h4,e1,e2,g1,g2,EVP,↓reduceIte,EV,Nat.reduceAdd,Nat.reduceEqDiff,Int.reduceToNat,reduceCtorEq]
   simp [h7,h8,g1,g2]
  ·simp (disch:=omega) only [Yd,split_ok,gy,Nk,h3,h4,EVP,↓reduceIte,EV,Nat.reduceAdd,Nat.reduceEqDiff,Int.reduceToNat,reduceCtorEq]
   simp only [h6]
   grind
end Go.X.G
/- The library's functions on strings. -/
namespace Go.X.G
open Go Go.X
theorem Hd8 (x:List UInt8) (c:UInt8):S sn 2 [.s x, .i .u8 (c.toNat:Int)]=some [.i .i64 (x.count c:Int)]:=
 Iy6 (args:=[.s x, .i .u8 (c.toNat:Int)]) (by simp [XK.run,Az6,Lib.countByte])
theorem Hz2 (x:List UInt8) (c:UInt8):S s9 2 [.s x, .i .u8 (c.toNat:Int)]=some [.i .i64 (Lib.indexByte x c)]:=
 Ib6 (args:=[.s x, .i .u8 (c.toNat:Int)]) (by simp [XK.run,Az6])
theorem Hf0 (x y:List UInt8):S s8 2 [.s x, .s y]=some [.i .i64 (Lib.compareBytes x y)]:=
 Iz6 (args:=[.s x, .s y]) (by simp [XK.run,Em5])
theorem Ov (x:List UInt8) (c:UInt8):S Un 2 [.s x, .i .u8 (c.toNat:Int)]=some [.i .i64 (Lib.indexByte x c)]:=by
 refine If3 (N:=1) rfl ?_
 simp (disch:=omega) only [Ik0,Hz2,EVP,↓reduceIte,EV,Nat.reduceAdd,Nat.reduceEqDiff,Int.reduceToNat,reduceCtorEq]
theorem eq (x:List UInt8) (c:UInt8):S Bh5 2 [.s x, .i .u8 (c.toNat:Int)]=some [.i .i64 (Lib.indexByte x c)]:=by
 refine Jr4 (N:=1) rfl ?_
 simp (disch:=omega) only [Jf5,Ov,EVP,↓reduceIte,EV,Nat.reduceAdd,Nat.reduceEqDiff,Int.reduceToNat,reduceCtorEq]
theorem Mx (c:UInt8):∀(x:List UInt8),c∉x→Lib.indexByte x c= -1
 |[],_=>rfl
 |b::l,h=>by
  have h1:b≠c:=fun e=>h (by simp [e])
  have h2:=Mx c l (fun e=>h (by simp [e]))
  simp [Lib.indexByte,h1,h2]
theorem Jy (c:UInt8) (post:List UInt8):∀(pre:List UInt8),c∉pre→Lib.indexByte (pre++c::post) c=(pre.length:Int)
 |[],_=>by simp [Lib.indexByte]
 |b::l,h=>by
  have h1:b≠c:=fun e=>h (by simp [e])
  have h2:=Jy c post l (fun e=>h (by simp [e]))
  simp only [B3,Lib.indexByte,h2]
  simp [h1]
  try omega
theorem dot_split (c:UInt8):∀(s:List UInt8),c∉s∨∃pre post,s=pre++c::post∧c∉pre
 |[]=> .inl (by simp)
 |b::l=>by
  by_cases h:b=c
  ·exact .inr ⟨[],l,by simp [h],by simp⟩
  ·rcases dot_split c l with h1|⟨pre,post,rfl,h2⟩
   ·exact .inl (by simp [h1,Ne.symm h])
   ·exact .inr ⟨b::pre,post,by simp,by simp [h2,Ne.symm h]⟩
def pcs (cur:List UInt8):List UInt8→List (List UInt8)
 |[]=>[cur]
 |c::r=>if c=46 then cur::pcs [] r else pcs (cur++[c]) r
def cut (s:List UInt8):List (List UInt8):=pcs [] s
theorem Bg2 (post:List UInt8):∀(pre cur:List UInt8),(46:UInt8)∉pre→pcs cur (pre++46::post)=(cur++pre)::pcs [] post
 |[],cur,_=>by simp [pcs]
 |b::l,cur,h=>by
  have h1:b≠46:=fun e=>h (by simp [e])
  have h2:=Bg2 post l (cur++[b]) (fun e=>h (by simp [e]))
  simp [pcs,h1,h2]
theorem Wl:∀(s cur:List UInt8),(46:UInt8)∉s→pcs cur s=[cur++s]
 |[],cur,_=>by simp [pcs]
 |b::l,cur,h=>by
  have h1:b≠46:=fun e=>h (by simp [e])
  have h2:=Wl l (cur++[b]) (fun e=>h (by simp [e]))
  simp [pcs,h1,h2]
theorem Cv5 (s:List UInt8):(cut s).length=s.count 46+1:=by
 have:∀(s cur:List UInt8),(pcs cur s).length=s.count 46+1:=by
  intro s
  induction s with
  |nil=>intro cur;rfl
  |cons c r ih=>
   intro cur
   by_cases h:c=46<;>simp [pcs,h,ih]
 exact this s []
theorem Ar2 (s:List UInt8) (hs:s.length≤9223372036854775807):S Z8 2 [.s s, .s [46]]=some [.i .i64 (Lib.indexByte s 46)]:=by
 refine Iy5 (N:=1) rfl ?_
 have h1:=Ov s 46
 have e:(((46:UInt8).toNat:Nat):Int)=46:=rfl
 rw [e] at h1
 by_cases h:[46]=s
 ·subst h
  simp (disch:=omega) only [Fx3,EVP,↓reduceIte,EV,Nat.reduceAdd,Nat.reduceEqDiff,Int.reduceToNat,reduceCtorEq]
  rfl
 ·simp (disch:=omega) only [Fx3,h,h1,e,EVP,↓reduceIte,EV,Nat.reduceAdd,Nat.reduceEqDiff,Int.reduceToNat,reduceCtorEq]
theorem d9 (s:List UInt8) (hs:s.length≤9223372036854775807):S Ux 2 [.s s, .s [46]]=some [.i .i64 (Lib.indexByte s 46)]:=by
 refine Ib0 (N:=1) rfl ?_
 simp (disch:=omega) only [Ht3,Ar2,EVP,↓reduceIte,EV,Nat.reduceAdd,Nat.reduceEqDiff,Int.reduceToNat,reduceCtorEq]
theorem Ev9 (s:List UInt8):S az 2 [.s s, .s [46]]=some [.i .i64 (s.count 46:Int)]:=by
 refine Ib1 (N:=1) rfl ?_
 have h1:=Hd8 s 46
 have e:(((46:UInt8).toNat:Nat):Int)=46:=rfl
 rw [e] at h1
 simp (disch:=omega) only [Ht4,h1,e,EVP,↓reduceIte,EV,Nat.reduceAdd,Nat.reduceEqDiff,Int.reduceToNat,reduceCtorEq]
def Ck8 (done rest:List (List UInt8)):Out:=
 .yld 0 [.s ((done++rest).getLastD []),Bv ((done++rest).dropLast++[[]]), .i .i64 (((done++rest).length:Int) - 1)]
theorem jg (s:List UInt8) (N:Nat) (hN:s.length<N) (hs:s.length≤1000000) (p q:PV):
  jv.ev S N [.s s, .s [46], .i .i64 0,p, .i .i64 ((s.count 46:Int)+1)]=some (Ck8 [] (cut s)):=by
 have hc0:s.count 46≤s.length:=List.count_le_length
 have key:=Ib (fn:=S) (N:=N) (η:=[.s s, .s [46], .i .i64 0,p, .i .i64 ((s.count 46:Int)+1)]) (id:=1) (init:=[(.v 0),(.rep 1 (.mn (.v 4) (.bin .add (.slen (.v 0)) (.c (.i .i64 (1))))) (.c (.s []))),(.c (.i .i64 (0)))]) (body:=my) (α:=List (List UInt8)×List UInt8)
  (fun a=>[.s a.2,Bv (a.1++List.replicate (a.2.count 46+1) []), .i .i64 (a.1.length:Int)]) (fun a=>Ck8 a.1 (cut a.2)) (fun a=>a.1.length+a.2.count 46=s.count 46∧a.2.length≤s.length) (fun a=>a.2.length) ([],s) ?_ ⟨by simp,Ac _⟩ hN ?_
 ·simpa [jv] using key
 ·have e:((s.count 46:Int)+1).toNat=s.count 46+1:=by omega
  simp (disch:=omega) only [e,EVP,↓reduceIte,EV,Nat.reduceAdd,Nat.reduceEqDiff,Int.reduceToNat,reduceCtorEq]
 ·rintro ⟨done,rest⟩ ⟨h1,h2⟩
  simp only at h1 h2 ⊢
  rcases dot_split 46 rest with h|⟨pre,post,rfl,h⟩
  ·right
   have c0:rest.count 46=0:=Jd6.2 h
   have i0:=Mx 46 rest h
   have cu:cut rest=[rest]:=by simpa [cut] using Wl rest [] h
   refine ⟨?_,rfl⟩
   rw [c0]
   rw [c0] at h1
   simp (disch:=omega) only [Bj2,d9,i0,EVP,↓reduceIte,EV,Nat.reduceAdd,Nat.reduceEqDiff,Int.reduceToNat,reduceCtorEq]
   simp [Ck8,cu,List.getLastD_eq_getLast?]
  ·left
   have c0:(pre++46::post).count 46=post.count 46+1:=by
    rw [List.count_append,Jd6.2 h];simp
   have i0:=Jy 46 post pre h
   have cu:cut (pre++46::post)=pre::cut post:=by simpa [cut] using Bg2 post pre [] h
   have hl:(pre++46::post).length=pre.length+post.length+1:=by simp;omega
   have sl1:List.drop (0:Int).toNat (List.take ((pre.length:Int)+0).toNat (pre++46::post))=pre:=by
    simp
   have sl2:List.drop ((pre.length:Int)+1).toNat (List.take (pre++46::post).length (pre++46::post))=post:=by
    have:((pre.length:Int)+1).toNat=pre.length+1:=by omega
    rw [this,C2,List.drop_append]
    simp
   have sl3:(done++[]::[]::List.replicate (post.count 46) ([]:List UInt8)).length=done.length+post.count 46+2:=by simp;omega
   refine ⟨(done++[pre],post),?_,⟨by simp;omega,by simp only;omega⟩,by simp;omega,by simp [Ck8,cu]⟩
   rw [c0]
   rw [c0] at h1
   simp (disch:=omega) only [Bj2,d9,i0,sl1,sl2,EVP,↓reduceIte,EV,Nat.reduceAdd,Nat.reduceEqDiff,Int.reduceToNat,reduceCtorEq]
   simp [List.replicate_succ,List.set_append]
theorem jf (s:List UInt8) (hs:s.length≤1000000):S bv 4 [.s s, .s [46], .i .i64 0, .i .i64 (-1)]=some [Bv (cut s)]:=by
 refine Id6 (N:=s.length+1) rfl ?_
 have h1:=Cv5 s
 have h2:s.count 46≤s.length:=List.count_le_length
 obtain ⟨l,x,hx⟩:∃l x,cut s=l++[x]:=⟨(cut s).dropLast,(cut s).getLast (by intro e;simp [e] at h1),(List.dropLast_concat_getLast _).symm⟩
 have h3:l.length=s.count 46:=by rw [hx] at h1;simpa using h1
 have h4:((l.length:Int)+1 - 1)=(l.length:Int):=by omega
 have h5:((l++[([]:List UInt8)]).length:Int)=l.length+1:=by simp
 have h6:((l++[x]).length:Int)=l.length+1:=by simp
 have g1:(l++[([]:List UInt8)])[l.length]? =some []:=by simp
 have g2:(l++[x]).getLastD []=x:=by simp [List.getLastD_eq_getLast?]
 have g3:(l++[([]:List UInt8)]).set l.length x=l++[x]:=by simp
 have hk:=jg s (s.length+1) (by omega) hs (.i .i64 (-1)) .u
 rw [hx] at hk ⊢
 simp only [Ck8,Cd,List.dropLast_concat] at hk
 simp (disch:=omega) only [Bj2,Ev9,hk,h4,h6,g1,g2,g3,EVP,↓reduceIte,EV,Nat.reduceAdd,Nat.reduceEqDiff,Int.reduceToNat,reduceCtorEq]
 have g4:((l.length:Int)+1).toNat=(l++[x]).length:=by simp
 rw [g4,C2]
 rfl
theorem d5 (s:List UInt8) (hs:s.length≤1000000):S Ag4 2 [.s s, .s [46]]=some [Bv (cut s)]:=by
 refine Jp6 (N:=1) rfl ?_
 simp (disch:=omega) only [Jf0,jf,EVP,↓reduceIte,EV,Nat.reduceAdd,Nat.reduceEqDiff,Int.reduceToNat,reduceCtorEq]
theorem X8 (s t:List UInt8) (hs:s.length≤9223372036854775807):S bw 2 [.s s, .s t]=some [.b (t.isSuffixOf s)]:=by
 refine Id7 (N:=1) rfl ?_
 by_cases h:t.length≤s.length
 ·have e:((s.length:Int) - (t.length:Int)).toNat=s.length - t.length:=by omega
  simp (disch:=omega) only [Fx7,e,EVP,↓reduceIte,EV,Nat.reduceAdd,Nat.reduceEqDiff,Int.reduceToNat,reduceCtorEq]
  simp only [C2]
  congr 4
  rw [Ch,Kb,decide_eq_true_eq]
  refine ⟨fun h=>h▸List.drop_suffix _ _,fun h=> ?_⟩
  obtain ⟨p,rfl⟩:=h
  simp
 ·have h2:t.isSuffixOf s=false:=by
   rw [Bool.eq_false_iff,ne_eq,Kb]
   exact fun h'=>h h'.length_le
  simp (disch:=omega) only [Fx7,h2,EVP,↓reduceIte,EV,Nat.reduceAdd,Nat.reduceEqDiff,Int.reduceToNat,reduceCtorEq]
theorem Lw (s t:List UInt8) (hs:s.length≤9223372036854775807):S Ag5 2 [.s s, .s t]=some [.b (t.isSuffixOf s)]:=by
 refine Jp7 (N:=1) rfl ?_
 simp (disch:=omega) only [Jf1,X8,EVP,↓reduceIte,EV,Nat.reduceAdd,Nat.reduceEqDiff,Int.reduceToNat,reduceCtorEq]
theorem m3 (x y:List UInt8):S ab 2 [.s x, .s y]=some [.i .i64 (Lib.compareBytes x y)]:=by
 refine Ib8 (N:=1) rfl ?_
 simp (disch:=omega) only [Ht7,Hf0,EVP,↓reduceIte,EV,Nat.reduceAdd,Nat.reduceEqDiff,Int.reduceToNat,reduceCtorEq]
theorem mr (x y:List UInt8):S Pg 2 [.s x, .s y]=some [.i .i64 (Lib.compareBytes x y)]:=by
 refine If7 (N:=1) rfl ?_
 simp (disch:=omega) only [Ik1,m3,EVP,↓reduceIte,EV,Nat.reduceAdd,Nat.reduceEqDiff,Int.reduceToNat,reduceCtorEq]
end Go.X.G
/- Names and their labels. -/
namespace Go.X.G
open Go Go.X
def flat (l:List (List UInt8)):List UInt8:=l.flatMap fun x=>x++[46]
def jn (l:List (List UInt8)):List UInt8:=if l=[] then [46] else flat l
def Gh (first:Bool):List (List UInt8)→Bool
 |[]=>true
 |p::r=>Jx p && (!decide (p=[42])||first) && Gh false r
theorem Hy4:Nr 46=false:=by decide
theorem K2 {p:List UInt8} (h:Jx p=true):(46:UInt8)∉p:=by
 unfold Jx at h
 simp at h
 rcases h with rfl|⟨_,h⟩
 ·decide
 ·intro h2
  have:=h 46 h2
  rw [Hy4] at this
  cases this
theorem t6 {p:List UInt8} (h:Jx p=true):p≠[]:=by
 rintro rfl
 simp [Jx] at h
theorem Hb {p:List UInt8}:∀{f:Bool} {l:List (List UInt8)},Gh f l=true→p∈l→Jx p=true
 |f,q::r,h,hp=>by
  simp only [Gh,Av] at h
  rcases Ah.1 hp with rfl|hp
  ·exact h.1.1
  ·exact Hb h.2 hp
theorem Am4:∀{l:List (List UInt8)},Gh false l=true→Gh true l=true
 |[],_=>rfl
 |p::r,h=>by
  simp only [Gh,Av] at h ⊢
  exact ⟨⟨h.1.1,by simp⟩,h.2⟩
theorem c6:∀{f:Bool} {a b:List (List UInt8)},Gh f (a++b)=(Gh f a && Gh (f && a.isEmpty) b)
 |f,[],b=>by simp [Gh]
 |f,p::r,b=>by
  simp only [B3,Gh,c6 (a:=r)]
  simp [Bool.and_assoc]
theorem Am5 {f:Bool} {l:List (List UInt8)} (h:Gh f l=true) (k:Nat):Gh f (l.drop k)=true:=by
 rw [←Bl k l,c6,Av] at h
 have h2:=h.2
 cases f with
 |false=>simpa using h2
 |true=>
  cases he:(l.take k).isEmpty with
  |true=>rw [he] at h2;exact h2
  |false=>rw [he] at h2;exact Am4 h2
theorem Q4:∀(m:List UInt8) (f:Bool) (cur:List UInt8),spl f cur (m++[46])=if Gh f (pcs cur m)=true then some (pcs cur m) else none
 |[],f,cur=>by
  simp only [Cd,spl,if_true,pcs,Gh,A4,Oz]
  by_cases h:Jx cur=true<;>by_cases h2:cur=[42]<;>cases f<;>simp [h,h2]
 |c::r,f,cur=>by
  simp only [B3,spl,pcs]
  by_cases hc:c=46
  ·simp only [if_pos hc]
   rw [Q4 r false []]
   simp only [Gh]
   by_cases h:Jx cur=true<;>by_cases h2:cur=[42]<;>cases f<;>by_cases h3:Gh false (pcs [] r)=true<;>simp [h,h2,h3]
  ·simp only [if_neg hc]
   exact Q4 r f (cur++[c])
theorem Rx (b:List UInt8):∀(a cur:List UInt8),pcs cur (a++46::b)=pcs cur a++cut b
 |[],cur=>by simp [pcs,cut]
 |c::r,cur=>by
  simp only [B3,pcs]
  split
  ·rw [Rx b r []];rfl
  ·exact Rx b r _
theorem Qz:∀(m cur:List UInt8),flat (pcs cur m)=cur++m++[46]
 |[],cur=>by simp [pcs,flat]
 |c::r,cur=>by
  simp only [pcs]
  split
  ·rename_i h
   have:=Qz r []
   simp only [flat,Gn] at this ⊢
   rw [this,h];simp
  ·rw [Qz r (cur++[c])];simp
theorem Xw (a b:List (List UInt8)):flat (a++b)=flat a++flat b:=by simp [flat]
theorem Ih8 (cur m:List UInt8):pcs cur m≠[]:=by
 cases m with
 |nil=>simp [pcs]
 |cons c r=>
  simp only [pcs]
  split
  ·simp
  ·intro h
   have:=Qz r (cur++[c])
   rw [h] at this
   simp [flat] at this
theorem Qc:∀(l:List (List UInt8)),(∀p∈l,(46:UInt8)∉p)→cut (flat l)=l++[[]]
 |[],_=>rfl
 |p::l,h=>by
  have h1:flat (p::l)=p++46::flat l:=by simp [flat]
  rw [h1]
  show pcs [] _=_
  rw [Rx,Wl p [] (h p (by simp)),Qc l (fun q hq=>h q (by simp [hq]))]
  simp
theorem Jd:∀(l:List (List UInt8)),l≠[]→∃m,flat l=m++[46]
 |[p],_=>⟨p,by simp [flat]⟩
 |p::q::r,_=>by
  obtain ⟨m,hm⟩:=Jd (q::r) (by simp)
  exact ⟨p++[46]++m,by simp only [flat,Gn] at hm ⊢;rw [hm];simp⟩
theorem uz {l:List (List UInt8)} (hl:l≠[]) (h:∀p∈l,(46:UInt8)∉p) {m:List UInt8} (hm:flat l=m++[46]):cut m=l:=by
 have h1:=Qc l h
 rw [hm] at h1
 have h2:cut (m++[46])=cut m++[[]]:=by
  show pcs [] (m++46::[])=_
  rw [Rx];rfl
 rw [h2] at h1
 exact Oy h1
theorem I7 {l:List (List UInt8)} (h:Gh true l=true) (hl:l≠[]):2≤(flat l).length:=by
 cases l with
 |nil=>exact absurd rfl hl
 |cons p r=>
  have h1:=t6 (Hb h (Gk ..))
  have:0<p.length:=Bw.2 h1
  simp [flat];omega
theorem Hw6 {l:List (List UInt8)} (h:Gh true l=true) (hl:l≠[]) (hlen:(flat l).length≤254):nm (flat l)=some l:=by
 obtain ⟨m,hm⟩:=Jd l hl
 have h1:=uz hl (fun p hp=>K2 (Hb h hp)) hm
 have h2:=I7 h hl
 unfold nm
 rw [if_neg (by intro e;rw [e] at h2;simp at h2),if_pos ⟨h2,hlen,by rw [hm];simp⟩,hm,Q4]
 have:pcs [] m=l:=h1
 rw [this,if_pos h]
theorem Hw5 {n:List UInt8} {l:List (List UInt8)} (h:nm n=some l):(n=[46]∧l=[])∨(l≠[]∧Gh true l=true∧n=flat l∧n.length≤254):=by
 unfold nm at h
 split at h
 ·rename_i e;injection h with h;exact .inl ⟨e,h.symm⟩
 ·split at h
  ·rename_i h1
   right
   obtain ⟨h2,h3,h4⟩:=h1
   obtain ⟨m,hm⟩:∃m,n=m++[46]:=by
    refine ⟨n.dropLast,?_⟩
    have:n≠[]:=by intro e;simp [e] at h2
    have h5:=List.dropLast_concat_getLast this
    rw [←h5]
    congr 1
    ·simp
    ·have h6:n[n.length - 1]? =some (n.getLast this):=by rw [Is];exact Ax _
     rw [h6] at h4
     injection h4 with h4
     simp [h4]
   rw [hm,Q4] at h
   split at h
   ·rename_i h5
    injection h with h
    subst h
    refine ⟨Ih8 _ _,h5,?_,by omega⟩
    rw [Qz,hm];simp
   ·cases h
  ·cases h
theorem Gt8 {n:List UInt8}:vld n=true↔nm n=some (lbl n):=by
 unfold vld lbl
 cases nm n<;>simp
theorem vld_cases {n:List UInt8} (h:vld n=true):(n=[46]∧lbl n=[])∨(lbl n≠[]∧Gh true (lbl n)=true∧n=flat (lbl n)∧n.length≤254):=Hw5 (Gt8.1 h)
theorem nn {n:List UInt8} (h:vld n=true):Gh true (lbl n)=true:=by
 rcases vld_cases h with ⟨_,h⟩|⟨_,h,_⟩
 ·rw [h];rfl
 ·exact h
theorem Qr {n:List UInt8} (h:vld n=true):n=jn (lbl n):=by
 unfold jn
 rcases vld_cases h with ⟨h1,h2⟩|⟨h1,_,h2,_⟩
 ·rw [h2,if_pos rfl];exact h1
 ·rw [if_neg h1];exact h2
theorem Qp {n:List UInt8} (h:vld n=true):n.length≤254:=by
 rcases vld_cases h with ⟨h1,_⟩|⟨_,_,_,h⟩
 ·simp [h1]
 ·exact h
theorem Qx:lbl [46]=[]:=rfl
theorem dq {l:List (List UInt8)} (h:Gh true l=true) (hl:l≠[]):flat l≠[46]:=by
 intro e
 have:=I7 h hl
 rw [e] at this;simp at this
theorem Hy5 {n:List UInt8} (h:vld n=true):lbl n=[]↔n=[46]:=by
 rcases vld_cases h with ⟨h1,h2⟩|⟨h1,h2,h3,_⟩
 ·simp [h1,Qx]
 ·constructor
  ·intro e;exact absurd e h1
  ·intro e;rw [h3] at e;exact absurd e (dq h2 h1)
theorem Iq7 {l:List (List UInt8)} (h:Gh true l=true) (hlen:(flat l).length≤254):vld (jn l)=true∧lbl (jn l)=l:=by
 unfold jn
 by_cases hl:l=[]
 ·subst hl;exact ⟨rfl,rfl⟩
 ·rw [if_neg hl]
  have:=Hw6 h hl hlen
  exact ⟨by simp [vld,this],by simp [lbl,this]⟩
theorem R5 {a b:List UInt8} (ha:vld a=true) (hb:vld b=true) (h:lbl a=lbl b):a=b:=by
 rw [Qr ha,Qr hb,h]
theorem Xq (l:List (List UInt8)) (k:Nat):(flat (l.drop k)).length≤(flat l).length:=by
 have:flat l=flat (l.take k)++flat (l.drop k):=by rw [←Xw,Bl]
 rw [this,Az];omega
theorem P8 {n:List UInt8} (h:vld n=true) (k:Nat):vld (jn ((lbl n).drop k))=true∧lbl (jn ((lbl n).drop k))=(lbl n).drop k:=by
 refine Iq7 (Am5 (nn h) k) ?_
 rcases vld_cases h with ⟨_,h1⟩|⟨_,_,h1,h2⟩
 ·rw [h1];simp [flat]
 ·have:=Xq (lbl n) k
  rw [←h1] at this;omega
end Go.X.G
/- Names: what the program's functions give. -/
namespace Go.X.G
open Go Go.X
def ord (s:List UInt8):Bool:=decide (1≤s.length) && decide (s.length≤63) && s.all Nr
theorem Ck1 (s:List UInt8):Jx s=(decide (s=[42])||ord s):=rfl
theorem Er0:ord [42]=false:=by decide
theorem g7 (s:List UInt8) (N:Nat) (hN:s.length<N) (hs:s.length≤9223372036854775807):
  Fc8.ev S N [.s s]=some (if s.all Nr=true then .yld 0 [] else .ret [.b false]):=by
 refine Dw s (fun i=>[.i .i64 (i:Int)]) (fun i r=>if r.all Nr=true then .yld 0 [] else .ret [.b false]) rfl hN (fun i c r hd hi hc=> ?_) ?_
 ·have key:Ej0.ev S N ([.s s]++[.i .i64 (i:Int)])=some (if Nr c=true then .yld 1 [.i .i64 ((i:Int)+1)] else .ret [.b false]):=by
   simp (disch:=omega) only [As7,hc,EVP,↓reduceIte,EV,Nat.reduceAdd,Nat.reduceEqDiff,Int.reduceToNat,reduceCtorEq]
   unfold Nr
   grind
  rw [key]
  rcases Ak (Nr c) with h|h<;>simp [h,Out.goes]
 ·simp (disch:=omega) [As7,EVP,↓reduceIte,EV,Nat.reduceAdd,Nat.reduceEqDiff,Int.reduceToNat,reduceCtorEq,Out.goes]
theorem Js (s:List UInt8) (hs:s.length≤9223372036854775807):S Bh2 1 [.s s]=some [.b (ord s)]:=by
 refine Jp5 (N:=s.length+1) rfl ?_
 unfold ord
 by_cases h1:s=[]
 ·subst h1
  simp (disch:=omega) [As7,EVP,↓reduceIte,EV,Nat.reduceAdd,Nat.reduceEqDiff,Int.reduceToNat,reduceCtorEq]
 ·have h2:1≤s.length:=Bw.2 h1
  by_cases h3:s.length≤63
  ·simp (disch:=omega) only [As7,g7,h1,EVP,↓reduceIte,EV,Nat.reduceAdd,Nat.reduceEqDiff,Int.reduceToNat,reduceCtorEq]
   cases s.all Nr<;>simp [h2,h3]
  ·simp (disch:=omega) only [As7,h1,EVP,↓reduceIte,EV,Nat.reduceAdd,Nat.reduceEqDiff,Int.reduceToNat,reduceCtorEq]
   simp [h3]
def okP (i:Nat) (p:List UInt8):Bool:=ord p||(decide (i=0) && decide (p=[42]))
def Es0:Nat→List (List UInt8)→Bool
 |_,[]=>true
 |i,p::r=>okP i p && Es0 (i+1) r
theorem Zt:∀(l:List (List UInt8)) (i:Nat),Es0 i l=Gh (decide (i=0)) l
 |[],_=>rfl
 |p::r,i=>by
  have h1:=Zt r (i+1)
  simp only [Es0,Gh,h1,okP,Ck1]
  by_cases h2:p=[42]
  ·subst h2
   by_cases h3:i=0<;>simp [Er0,h3]
  ·simp [h2]
theorem Eq8 (p q:PV) (l:List (List UInt8)) (hl:l.length≤1000000) (hw:∀x∈l,x.length≤9223372036854775807) (N:Nat) (hN:l.length<N):
  Fd9.ev S N [p,q,Bv l]=some (if Es0 0 l=true then .yld 0 [] else .ret [.b false]):=by
 refine Dw l (fun i=>[.i .i64 (i:Int)]) (fun i r=>if Es0 i r=true then .yld 0 [] else .ret [.b false]) rfl hN (fun i c r hd hi hc=> ?_) ?_
 ·have hcw:=hw c (As hc)
  have key:Ej6.ev S N ([p,q,Bv l]++[.i .i64 (i:Int)])=some (if okP i c=true then .yld 1 [.i .i64 ((i:Int)+1)] else .ret [.b false]):=by
   rcases Ak (ord c) with h1|h1
   ·simp (disch:=omega) only [V1,Js,hc,h1,EVP,↓reduceIte,EV,Nat.reduceAdd,Nat.reduceEqDiff,Int.reduceToNat,reduceCtorEq]
    simp [okP,h1]
   ·by_cases h2:i=0
    ·subst h2
     by_cases h3:c=[42]
     ·subst h3
      simp (disch:=omega) only [V1,Js,hc,h1,EVP,↓reduceIte,EV,Nat.reduceAdd,Nat.reduceEqDiff,Int.reduceToNat,reduceCtorEq]
      simp [okP]
     ·simp (disch:=omega) only [V1,Js,hc,h1,h3,EVP,↓reduceIte,EV,Nat.reduceAdd,Nat.reduceEqDiff,Int.reduceToNat,reduceCtorEq]
      simp [okP,h1,h3]
    ·simp (disch:=omega) only [V1,Js,hc,h1,EVP,↓reduceIte,EV,Nat.reduceAdd,Nat.reduceEqDiff,Int.reduceToNat,reduceCtorEq]
     simp [okP,h1,h2]
  rw [key]
  rcases Ak (okP i c) with h|h<;>simp [h,Es0,Out.goes]
 ·simp (disch:=omega) only [V1,EVP,↓reduceIte,EV,Nat.reduceAdd,Nat.reduceEqDiff,Int.reduceToNat,reduceCtorEq]
  simp [Out.goes,Es0]
theorem Wm:∀(m cur:List UInt8) (x:List UInt8),x∈pcs cur m→x.length≤cur.length+m.length
 |[],cur,x,h=>by simp [pcs] at h;subst h;simp
 |c::r,cur,x,h=>by
  simp only [pcs] at h
  split at h
  ·rcases Ah.1 h with rfl|h
   ·omega
   ·have:=Wm r [] x h;simp at this ⊢;omega
  ·have:=Wm r _ x h;simp at this ⊢;omega
theorem Fq3 (m x:List UInt8) (h:x∈cut m):x.length≤m.length:=by simpa using Wm m [] x h
theorem Jy7 (m:List UInt8):(cut m).length≤m.length+1:=by
 have:=Cv5 m
 have:m.count 46≤m.length:=List.count_le_length
 omega
theorem Bk8 (n:List UInt8):([46]:List UInt8).isSuffixOf n=true↔∃m,n=m++[46]:=by
 rw [Kb]
 exact ⟨fun ⟨m,h⟩=>⟨m,h.symm⟩,fun ⟨m,h⟩=>⟨m,h.symm⟩⟩
theorem Ex9 (m:List UInt8) (hm:m≠[]) (hl:m.length≤253):vld (m++[46])=Es0 0 (cut m):=by
 have h1:m++[46]≠[46]:=fun e=>hm (Oy (bs:=[46]) (by simpa using e))
 have h2:0<m.length:=Bw.2 hm
 unfold vld nm
 rw [if_neg h1,if_pos ⟨by simp;omega,by simp;omega,by simp⟩,Q4,Zt]
 have e:pcs [] m=cut m:=rfl
 have e2:Gh (decide ((0:Nat)=0)) (cut m)=Gh true (cut m):=rfl
 rw [e,e2]
 cases Gh true (cut m)<;>rfl
theorem Et6 (m:List UInt8) (h:vld (m++[46])=true) (hm:m≠[]):lbl (m++[46])=cut m:=by
 rcases vld_cases h with ⟨h1,_⟩|⟨h1,h2,h3,_⟩
 ·exact absurd (Oy (bs:=[46]) (by simpa using h1)) hm
 ·exact (uz h1 (fun p hp=>K2 (Hb h2 hp)) h3.symm).symm
theorem B4 (n:List UInt8) (hn:n.length≤9223372036854775807):S Nh 1 [.s n]=some [.b (vld n)]:=by
 refine Kj4 (N:=300) rfl ?_
 by_cases h0:n=[46]
 ·subst h0
  simp (disch:=omega) only [V1,EVP,↓reduceIte,EV,Nat.reduceAdd,Nat.reduceEqDiff,Int.reduceToNat,reduceCtorEq]
  rfl
 ·by_cases h1:255≤n.length
  ·have hv:vld n=false:=by
    rw [Bool.eq_false_iff];intro h;have:=Qp h;omega
   simp (disch:=omega) only [V1,h0,hv,EVP,↓reduceIte,EV,Nat.reduceAdd,Nat.reduceEqDiff,Int.reduceToNat,reduceCtorEq]
  ·rcases Ak (([46]:List UInt8).isSuffixOf n) with h2|h2
   ·obtain ⟨m,rfl⟩:=(Bk8 n).1 h2
    have hm:m≠[]:=fun e=>h0 (by simp [e])
    have hl:(m++[46]).length=m.length+1:=by simp
    have hml:m.length≤1000000:=by omega
    have e:List.drop 0 (List.take (((m++[46]).length:Int) - 1).toNat (m++[46]))=m:=by
     have:(((m++[46]).length:Int) - 1).toNat=m.length:=by omega
     rw [this];simp
    have hc:=Jy7 m
    have hv:=Ex9 m hm (by omega)
    have hk:=Eq8 (.s (m++[46])) (.b true) (cut m) (by omega) (fun x hx=>by have:=Fq3 m x hx;omega) 300 (by omega)
    simp (disch:=omega) only [V1,Lw,d5,e,hk,h0,h2,EVP,↓reduceIte,EV,Nat.reduceAdd,Nat.reduceEqDiff,Int.reduceToNat,reduceCtorEq]
    rw [hv]
    cases Es0 0 (cut m)<;>simp
   ·have hv:vld n=false:=by
     rw [Bool.eq_false_iff];intro h
     rcases vld_cases h with ⟨h3,_⟩|⟨h3,_,h5,_⟩
     ·exact h0 h3
     ·obtain ⟨m,hm⟩:=Jd _ h3
      have:=(Bk8 n).2 ⟨m,h5.trans hm⟩
      rw [h2] at this;cases this
    simp (disch:=omega) only [V1,Lw,h0,h2,hv,EVP,↓reduceIte,EV,Nat.reduceAdd,Nat.reduceEqDiff,Int.reduceToNat,reduceCtorEq]
theorem Pk (n:List UInt8) (hn:n.length≤9223372036854775807):S Rn 1 [.s n]=some [Bv (lbl n)]:=by
 refine If6 (N:=1) rfl ?_
 by_cases h0:n=[46]
 ·subst h0
  simp (disch:=omega) only [Bj4,Qx,EVP,↓reduceIte,EV,Nat.reduceAdd,Nat.reduceEqDiff,Int.reduceToNat,reduceCtorEq]
 ·rcases Ak (vld n) with h1|h1
  ·obtain ⟨m,hm,rfl⟩:∃m,m≠[]∧n=m++[46]:=by
    rcases vld_cases h1 with ⟨h3,_⟩|⟨h3,_,h5,_⟩
    ·exact absurd h3 h0
    ·obtain ⟨m,hm⟩:=Jd _ h3
     exact ⟨m,fun e=>h0 (by rw [h5,hm,e];rfl),h5.trans hm⟩
   have hl:(m++[46]).length=m.length+1:=by simp
   have e:List.drop 0 (List.take (((m++[46]).length:Int) - 1).toNat (m++[46]))=m:=by
    have:(((m++[46]).length:Int) - 1).toNat=m.length:=by omega
    rw [this];simp
   have hl2:=Qp h1
   have e2:=Et6 m h1 hm
   simp (disch:=omega) only [Bj4,B4,d5,e,e2,h0,h1,EVP,↓reduceIte,EV,Nat.reduceAdd,Nat.reduceEqDiff,Int.reduceToNat,reduceCtorEq]
  ·have e:lbl n=[]:=by
    unfold lbl;unfold vld at h1
    cases h:nm n with
    |none=>rfl
    |some l=>rw [h] at h1;cases h1
   simp (disch:=omega) only [Bj4,B4,h0,h1,e,EVP,↓reduceIte,EV,Nat.reduceAdd,Nat.reduceEqDiff,Int.reduceToNat,reduceCtorEq]
theorem N5 (p:List UInt8) (l:List (List UInt8)):flat (p::l)=p++46::flat l:=by simp [flat]
def Wr (n:List UInt8):List UInt8:=if vld n=true∧n≠[46] then jn ((lbl n).drop 1) else []
def t8 (n:List UInt8):Bool:=vld n && !decide (n=[46])
theorem Vz (n:List UInt8) (hn:n.length≤9223372036854775807):S Ah9 1 [.s n]=some [.s (Wr n), .b (t8 n)]:=by
 refine Kj8 (N:=1) rfl ?_
 unfold Wr t8
 by_cases h0:n=[46]
 ·subst h0
  simp (disch:=omega) only [Ex5,EVP,↓reduceIte,EV,Nat.reduceAdd,Nat.reduceEqDiff,Int.reduceToNat,reduceCtorEq]
  simp
 ·rcases Ak (vld n) with h1|h1
  ·rcases vld_cases h1 with ⟨h3,_⟩|⟨h3,h4,h5,h6⟩
   ·exact absurd h3 h0
   ·cases hl:lbl n with
    |nil=>exact absurd hl h3
    |cons p r=>
     rw [hl] at h4 h5
     have hp:=K2 (Hb h4 (Gk ..))
     have hi:=eq n 46
     have hc:(((46:UInt8).toNat:Nat):Int)=46:=rfl
     have hx:Lib.indexByte n 46=(p.length:Int):=by rw [h5,N5];exact Jy 46 _ p hp
     rw [hc,hx] at hi
     have hlen:n.length=p.length+1+(flat r).length:=by rw [h5,N5];simp;omega
     have e:List.drop ((p.length:Int)+1).toNat (List.take n.length n)=flat r:=by
      have:((p.length:Int)+1).toNat=p.length+1:=by omega
      rw [this,C2,h5,N5]
      simp
     by_cases h7:r=[]
     ·subst h7
      have e2:flat []=[]:=rfl
      simp (disch:=omega) only [Ex5,B4,hi,e,e2,h0,h1,EVP,↓reduceIte,EV,Nat.reduceAdd,Nat.reduceEqDiff,Int.reduceToNat,reduceCtorEq]
      simp [jn]
     ·have e2:¬flat r=[]:=by
       obtain ⟨m,hm⟩:=Jd r h7
       rw [hm];simp
      simp (disch:=omega) only [Ex5,B4,hi,e,e2,h0,h1,EVP,↓reduceIte,EV,Nat.reduceAdd,Nat.reduceEqDiff,Int.reduceToNat,reduceCtorEq]
      simp [jn,h7]
  ·simp (disch:=omega) only [Ex5,B4,h0,h1,EVP,↓reduceIte,EV,Nat.reduceAdd,Nat.reduceEqDiff,Int.reduceToNat,reduceCtorEq]
   simp
def Cv1 (n top:List UInt8):Bool:=(decide (top=[46])||decide (n=top))||(46::top).isSuffixOf n
theorem Hd1 (n top:List UInt8) (hn:n.length≤9223372036854775807) (ht:top.length≤1000000):S Bh6 2 [.s n, .s top]=some [.b (Cv1 n top)]:=by
 refine Jr5 (N:=1) rfl ?_
 unfold Cv1
 have h0:([46]:List UInt8).length=1:=rfl
 by_cases h1:top=[46]<;>by_cases h2:n=top<;>simp (disch:=omega) only [Jf6,Lw,h1,h2,EVP,↓reduceIte,EV,Nat.reduceAdd,Nat.reduceEqDiff,Int.reduceToNat,reduceCtorEq]
 all_goals simp
theorem jm {a b:List (List UInt8)} (ha:Gh true a=true) (hb:Gh true b=true) (h:(46::flat b)<:+flat a):b<:+a:=by
 obtain ⟨p,hp⟩:=h
 have h1:=Qc a (fun x hx=>K2 (Hb ha hx))
 have h2:=Qc b (fun x hx=>K2 (Hb hb hx))
 rw [←hp] at h1
 have h3:cut (p++46::flat b)=cut p++cut (flat b):=Rx (flat b) p []
 rw [h3,h2,←Ap] at h1
 exact ⟨cut p,Oy h1⟩
theorem Fq0 {n top:List UInt8} (hn:vld n=true) (ht:vld top=true):Cv1 n top=true↔lbl top<:+lbl n:=by
 unfold Cv1
 simp only [Am,decide_eq_true_eq,Kb]
 constructor
 ·rintro ((rfl|rfl)|h)
  ·rw [Qx];exact List.nil_suffix
  ·exact List.suffix_refl _
  ·rcases vld_cases ht with ⟨h1,h2⟩|⟨h1,h2,h3,_⟩
   ·rw [h2];exact List.nil_suffix
   ·rcases vld_cases hn with ⟨h5,_⟩|⟨h5,h6,h7,_⟩
    ·rw [h5] at h
     have h9:=h.length_le
     have h8:=I7 h2 h1
     rw [←h3] at h8
     simp only [A0,Bc] at h9;omega
    ·rw [h3,h7] at h
     exact jm h6 h2 h
 ·intro h
  obtain ⟨p,hp⟩:=h
  rcases vld_cases ht with ⟨h1,h2⟩|⟨h1,h2,h3,_⟩
  ·exact .inl (.inl h1)
  ·by_cases hp0:p=[]
   ·left;right
    subst hp0
    exact R5 hn ht hp.symm
   ·right
    rcases vld_cases hn with ⟨_,h5⟩|⟨h5,h6,h7,_⟩
    ·rw [h5] at hp
     exact absurd (List.append_eq_nil_iff.1 hp).1 hp0
    ·obtain ⟨m,hm⟩:=Jd p hp0
     rw [h7,←hp,Xw,hm]
     exact ⟨m,by rw [Ap,←h3];simp⟩
theorem Sm {α:Type} [DecidableEq α]:∀(a b:List α),Qd a b=b.length↔b<+:a
 |[],[]=>by simp [Qd]
 |[],y::ys=>by simp [Qd]
 |x::xs,[]=>by simp [Qd]
 |x::xs,y::ys=>by
  have:=Sm xs ys
  simp only [Qd]
  split
  ·rename_i h;subst h
   simp [this,Ly]
  ·rename_i h
   simp [Ly,Ne.symm h]
theorem Zx (a b:List (List UInt8)):Jq a b=b.length↔b<:+a:=by
 unfold Jq
 have:=Sm a.reverse b.reverse
 rw [List.length_reverse] at this
 rw [this,List.reverse_prefix]
theorem C7 {n top:List UInt8}:under n top=true↔vld n=true∧vld top=true∧lbl top<:+lbl n:=by
 unfold under
 simp [Zx,and_assoc]
theorem Ay7 {n top:List UInt8} (hn:vld n=true) (ht:vld top=true):Cv1 n top=under n top:=by
 rw [Ch,Fq0 hn ht,C7]
 simp [hn,ht]
theorem G3 (n top:List UInt8) (hn:n.length≤9223372036854775807) (ht:top.length≤9223372036854775807):S O4 2 [.s n, .s top]=some [.b (under n top)]:=by
 refine Kj9 (N:=1) rfl ?_
 rcases Ak (vld n) with h1|h1
 ·rcases Ak (vld top) with h2|h2
  ·have h3:=Qp h2
   simp (disch:=omega) only [Gt5,B4,Hd1,h1,h2,EVP,↓reduceIte,EV,Nat.reduceAdd,Nat.reduceEqDiff,Int.reduceToNat,reduceCtorEq]
   rw [Ay7 h1 h2]
  ·have h3:under n top=false:=by simp [under,h2]
   simp (disch:=omega) only [Gt5,B4,h1,h2,h3,EVP,↓reduceIte,EV,Nat.reduceAdd,Nat.reduceEqDiff,Int.reduceToNat,reduceCtorEq]
 ·have h3:under n top=false:=by simp [under,h1]
  simp (disch:=omega) only [Gt5,B4,h1,h3,EVP,↓reduceIte,EV,Nat.reduceAdd,Nat.reduceEqDiff,Int.reduceToNat,reduceCtorEq]
end Go.X.G
/- Names: order, common ancestors, wildcards. -/
namespace Go.X.G
open Go Go.X
theorem Ps:∀(a:List UInt8),Op.bytesLess a a=false
 |[]=>rfl
 |a::x=>by simp [Op.bytesLess,Ps x]
theorem K6:∀(a b:List UInt8),Lib.compareBytes a b=cmpS a b
 |[],[]=>rfl
 |[],_::_=>rfl
 |_::_,[]=>rfl
 |a::x,b::y=>by
  have ih:=K6 x y
  unfold cmpS at ih ⊢
  simp only [Lib.compareBytes,Op.bytesLess,ih]
  by_cases h1:a<b
  ·simp [h1]
  ·by_cases h2:b<a
   ·have h3:a≠b:=fun e=>by subst e;exact h1 h2
    simp [h1,h2,h3]
   ·have h3:a=b:=UInt8.le_antisymm (UInt8.not_lt.1 h2) (UInt8.not_lt.1 h1)
    subst h3
    simp [h1]
theorem If {a b:List UInt8}:cmpS a b=0↔a=b:=by
 unfold cmpS
 by_cases h:a=b
 ·subst h;simp [Ps]
 ·cases h2:Op.bytesLess a b<;>simp [h]
theorem J7 (x y:List UInt8):S Pg 2 [.s x, .s y]=some [.i .i64 (cmpS x y)]:=by
 rw [mr,K6]
def Tj:List (List UInt8)→List (List UInt8)→Option Int
 |x::xs,y::ys=>if x=y then Tj xs ys else some (cmpS x y)
 |_,_=>none
theorem Cw0:∀(a b:List (List UInt8)),Tj a b=if Qd a b<a.length∧Qd a b<b.length then some (cmpS (a.getD (Qd a b) []) (b.getD (Qd a b) [])) else none
 |[],b=>by simp [Tj,Qd]
 |x::xs,[]=>by simp [Tj,Qd]
 |x::xs,y::ys=>by
  have ih:=Cw0 xs ys
  simp only [Tj,Qd]
  by_cases h:x=y
  ·simp only [if_pos h,ih]
   simp
  ·simp [h]
def An7 (a b:List (List UInt8)):Int:=match Tj a.reverse b.reverse with
 |some c=>c
 |none=>if a.length<b.length then -1 else if b.length<a.length then 1 else 0
theorem uk (a:List (List UInt8)) (k:Nat) (h:k<a.length):a.reverse.getD k []=a.getD (a.length - 1 - k) []:=by
 simp [Bd,List.getElem?_reverse h]
theorem Xc {a b:List UInt8} (ha:vld a=true) (hb:vld b=true):Ig a b=An7 (lbl a) (lbl b):=by
 unfold Ig An7
 rw [Cw0]
 have e:Qd (lbl a).reverse (lbl b).reverse=Jq (lbl a) (lbl b):=rfl
 rw [e,ha,hb]
 simp only [List.length_reverse,Bool.and_self,if_true]
 by_cases h:Jq (lbl a) (lbl b)<(lbl a).length∧Jq (lbl a) (lbl b)<(lbl b).length
 ·rw [if_pos h,if_pos h,uk _ _ h.1,uk _ _ h.2]
 ·rw [if_neg h,if_neg h]
theorem mt (a b:List (List UInt8)) (p1 p2 p3 p4:PV) (ha:a.length≤1000) (hb:b.length≤1000) (N:Nat) (hN:1001<N):
  Bs3.ev S N [p1,p2,p3,p4,Bv a,Bv b]=some (match Tj a.reverse b.reverse with|some c=> .ret [.i .i64 c]|none=> .yld 0 []):=by
 have key:=Ib (fn:=S) (N:=N) (η:=[p1,p2,p3,p4,Bv a,Bv b]) (id:=1) (init:=[(.c (.i .i64 (1)))]) (body:=Ej3) (α:=Nat) (fun k=>[.i .i64 ((k:Int)+1)])
  (fun k=>match Tj (a.reverse.drop k) (b.reverse.drop k) with|some c=> .ret [.i .i64 c]|none=> .yld 0 []) (fun k=>k≤a.length∧k≤b.length) (fun k=>a.length - k) 0 rfl ⟨Cm _,Cm _⟩ (by omega) ?_
 ·simpa [Bs3] using key
 ·rintro k ⟨h1,h2⟩
  by_cases h3:k<a.length
  ·by_cases h4:k<b.length
   ·have e1:((a.length:Int) - ((k:Int)+1)).toNat=a.length - 1 - k:=by omega
    have e2:((b.length:Int) - ((k:Int)+1)).toNat=b.length - 1 - k:=by omega
    have g1:a[a.length - 1 - k]? =some (a[a.length - 1 - k]'(by omega)):=Ax (by omega)
    have g2:b[b.length - 1 - k]? =some (b[b.length - 1 - k]'(by omega)):=Ax (by omega)
    have d1:a.reverse.drop k=(a[a.length - 1 - k]'(by omega))::a.reverse.drop (k+1):=by
     rw [B0 (by simpa using h3)];simp
    have d2:b.reverse.drop k=(b[b.length - 1 - k]'(by omega))::b.reverse.drop (k+1):=by
     rw [B0 (by simpa using h4)];simp
    rw [d1,d2]
    generalize (a[a.length - 1 - k]'(by omega))=x at g1
    generalize (b[b.length - 1 - k]'(by omega))=y at g2
    simp only [Tj]
    by_cases h:x=y
    ·left
     have h5:cmpS x y=0:=If.2 h
     refine ⟨k+1,?_,⟨by omega,by omega⟩,by omega,by rw [if_pos h]⟩
     simp (disch:=omega) only [fc,J7,e1,e2,g1,g2,h5,EVP,↓reduceIte,EV,Nat.reduceAdd,Nat.reduceEqDiff,Int.reduceToNat,reduceCtorEq]
    ·right
     have h5:¬cmpS x y=0:=fun e=>h (If.1 e)
     rw [if_neg h]
     simp (disch:=omega) only [fc,J7,e1,e2,g1,g2,h5,EVP,↓reduceIte,EV,Nat.reduceAdd,Nat.reduceEqDiff,Int.reduceToNat,reduceCtorEq]
     simp [Out.goes]
   ·right
    have d2:b.reverse.drop k=[]:=Fv (by simp;omega)
    have z:Tj (a.reverse.drop k) []=none:=by cases a.reverse.drop k<;>rfl
    rw [d2,z]
    simp (disch:=omega) [fc,EVP,↓reduceIte,EV,Nat.reduceAdd,Nat.reduceEqDiff,Int.reduceToNat,reduceCtorEq,Out.goes]
  ·right
   have d1:a.reverse.drop k=[]:=Fv (by simp;omega)
   have z:Tj [] (b.reverse.drop k)=none:=rfl
   rw [d1,z]
   simp (disch:=omega) [fc,EVP,↓reduceIte,EV,Nat.reduceAdd,Nat.reduceEqDiff,Int.reduceToNat,reduceCtorEq,Out.goes]
theorem S6 (a b:List UInt8) (hn:a.length≤9223372036854775807) (ht:b.length≤9223372036854775807):S O3 2 [.s a, .s b]=some [.i .i64 (Ig a b)]:=by
 refine Js0 (N:=1002) rfl ?_
 have h1:=Gs a
 have h2:=Gs b
 rcases Ak (vld a) with h3|h3<;>rcases Ak (vld b) with h4|h4
 ·rw [Xc h3 h4]
  unfold An7
  have hk:=mt (lbl a) (lbl b) (.s a) (.s b) (.b true) (.b true) (by omega) (by omega) 1002 (by omega)
  cases h5:Tj (lbl a).reverse (lbl b).reverse with
  |some c=>
   rw [h5] at hk
   simp (disch:=omega) only [fc,B4,Pk,hk,h3,h4,EVP,↓reduceIte,EV,Nat.reduceAdd,Nat.reduceEqDiff,Int.reduceToNat,reduceCtorEq]
  |none=>
   rw [h5] at hk
   simp (disch:=omega) only [fc,B4,Pk,hk,h3,h4,EVP,↓reduceIte,EV,Nat.reduceAdd,Nat.reduceEqDiff,Int.reduceToNat,reduceCtorEq]
   grind
 all_goals unfold Ig
 all_goals simp (disch:=omega) only [fc,B4,J7,h3,h4,EVP,↓reduceIte,EV,Nat.reduceAdd,Nat.reduceEqDiff,Int.reduceToNat,reduceCtorEq]
 all_goals simp
theorem Fg0 {n:List UInt8} (h:vld n=true) (k:Nat):(jn ((lbl n).drop k)).length≤254:=Qp (P8 h k).1
theorem Az0 {n:List UInt8} (h:vld n=true):(n[0]? =some 42↔(lbl n)[0]? =some [42]):=by
 rcases vld_cases h with ⟨h1,h2⟩|⟨h1,h2,h3,_⟩
 ·subst h1;simp [Qx]
 ·cases hl:lbl n with
  |nil=>exact absurd hl h1
  |cons p r=>
   rw [hl] at h2 h3
   have hp:=Hb h2 (Gk ..)
   have hne:=t6 hp
   cases p with
   |nil=>exact absurd rfl hne
   |cons c q=>
    rw [h3,N5]
    simp only [B3,Cj,Option.some.injEq]
    constructor
    ·rintro rfl
     unfold Jx at hp
     simp at hp
     rcases hp with h|h
     ·rw [h]
     ·exfalso
      have:Nr 42=false:=by decide
      rw [this] at h;simp at h
    ·intro h;injection h
end Go.X.G
/- The canonical order of names is a total order. -/
namespace Go.X.G
open Go Go.X
structure TO {α:Type} (lt:α→α→Prop):Prop where
 irr:∀a,¬lt a a
 tr:∀a b c,lt a b→lt b c→lt a c
 tri:∀a b,lt a b∨a=b∨lt b a
theorem TO.asym {α:Type} {lt:α→α→Prop} (h:TO lt) {a b:α} (h1:lt a b):¬lt b a:=fun h2=>h.irr a (h.tr _ _ _ h1 h2)
theorem TO.ntr {α:Type} {lt:α→α→Prop} (h:TO lt) {a b c:α} (h1:¬lt a b) (h2:¬lt b c):¬lt a c:=by
 intro h3
 rcases h.tri b a with h4|h4|h4
 ·exact h2 (h.tr _ _ _ h4 h3)
 ·subst h4;exact h2 h3
 ·exact h1 h4
def lex {α:Type} (lt:α→α→Prop):List α→List α→Prop
 |[],[]=>False
 |[],_::_=>True
 |_::_,[]=>False
 |a::x,b::y=>lt a b∨(a=b∧lex lt x y)
theorem Bp8 {α:Type} {lt:α→α→Prop} (h:TO lt):∀x:List α,¬lex lt x x
 |[]=>by simp [lex]
 |a::x=>by
  simp only [lex,true_and,not_or]
  exact ⟨h.irr a,Bp8 h x⟩
theorem Fb9 {α:Type} {lt:α→α→Prop} (h:TO lt):∀x y z:List α,lex lt x y→lex lt y z→lex lt x z
 |[],[],_,h1,_=>by simp [lex] at h1
 |[],_::_,[],_,h2=>by simp [lex] at h2
 |[],_::_,_::_,_,_=>by simp [lex]
 |_::_,[],_,h1,_=>by simp [lex] at h1
 |_::_,_::_,[],_,h2=>by simp [lex] at h2
 |a::x,b::y,c::z,h1,h2=>by
  simp only [lex] at h1 h2 ⊢
  rcases h1 with h1|⟨rfl,h1⟩
  ·rcases h2 with h2|⟨rfl,h2⟩
   ·exact .inl (h.tr _ _ _ h1 h2)
   ·exact .inl h1
  ·rcases h2 with h2|⟨rfl,h2⟩
   ·exact .inl h2
   ·exact .inr ⟨rfl,Fb9 h x y z h1 h2⟩
theorem lex_tri {α:Type} {lt:α→α→Prop} (h:TO lt):∀x y:List α,lex lt x y∨x=y∨lex lt y x
 |[],[]=> .inr (.inl rfl)
 |[],_::_=> .inl (by simp [lex])
 |_::_,[]=> .inr (.inr (by simp [lex]))
 |a::x,b::y=>by
  simp only [lex]
  rcases h.tri a b with h1|rfl|h1
  ·exact .inl (.inl h1)
  ·rcases lex_tri h x y with h2|rfl|h2
   ·exact .inl (.inr ⟨rfl,h2⟩)
   ·exact .inr (.inl rfl)
   ·exact .inr (.inr (.inr ⟨rfl,h2⟩))
  ·exact .inr (.inr (.inl h1))
theorem TO.lex {α:Type} {lt:α→α→Prop} (h:TO lt):TO (G.lex lt):=⟨Bp8 h,Fb9 h,lex_tri h⟩
theorem Jm1:TO (fun a b:UInt8=>a<b):=⟨fun a=>UInt8.lt_irrefl a,fun a b c h1 h2=>UInt8.lt_trans h1 h2,fun a b=>by
 rcases UInt8.lt_or_le a b with h|h
 ·exact .inl h
 ·rcases UInt8.lt_or_le b a with h2|h2
  ·exact .inr (.inr h2)
  ·exact .inr (.inl (UInt8.le_antisymm h2 h))⟩
abbrev ltB:List UInt8→List UInt8→Prop:=lex fun a b:UInt8=>a<b
theorem Ew5:TO ltB:=Jm1.lex
theorem Sr:∀a b:List UInt8,Op.bytesLess a b=true↔ltB a b
 |[],[]=>by simp [Op.bytesLess,lex]
 |[],_::_=>by simp [Op.bytesLess,lex]
 |_::_,[]=>by simp [Op.bytesLess,lex]
 |a::x,b::y=>by
  have ih:=Sr x y
  simp only [Op.bytesLess,Am,decide_eq_true_eq,Av,beq_iff_eq,lex]
  rw [ih]
theorem Qf (a b:List UInt8):cmpS a b<0↔ltB a b:=by
 rw [←Sr]
 unfold cmpS
 cases h:Op.bytesLess a b
 ·simp only [Ab,if_false,iff_false]
  split<;>omega
 ·simp
abbrev ltL:List (List UInt8)→List (List UInt8)→Prop:=lex ltB
theorem to_L:TO ltL:=Ew5.lex
def An8 (a b:List (List UInt8)):Int:=match Tj a b with
 |some c=>c
 |none=>if a.length<b.length then -1 else if b.length<a.length then 1 else 0
theorem u7:∀a b:List (List UInt8),An8 a b<0↔ltL a b
 |[],[]=>by simp [An8,Tj,lex]
 |[],_::_=>by simp [An8,Tj,lex]
 |_::_,[]=>by simp [An8,Tj,lex]
 |x::xs,y::ys=>by
  have ih:=u7 xs ys
  simp only [An8,Tj,lex] at ih ⊢
  by_cases h:x=y
  ·subst h
   rw [if_pos rfl]
   simp only [A0,Nat.add_lt_add_iff_right,true_and]
   rw [ih]
   constructor
   ·exact fun h=> .inr h
   ·rintro (h|h)
    ·exact absurd h (Ew5.irr x)
    ·exact h
  ·rw [if_neg h]
   simp only
   rw [Qf]
   simp [h]
theorem j7 (a b:List (List UInt8)):An7 a b=An8 a.reverse b.reverse:=by
 unfold An7 An8
 cases Tj a.reverse b.reverse<;>simp
theorem Cv9 (a b:List (List UInt8)):An7 a b<0↔ltL a.reverse b.reverse:=by
 rw [←u7,j7]
def ltN (a b:List UInt8):Prop:=if vld a=true then (if vld b=true then ltL (lbl a).reverse (lbl b).reverse else True) else (if vld b=true then False else ltB a b)
theorem Er (a b:List UInt8):Ig a b<0↔ltN a b:=by
 unfold ltN
 rcases Ak (vld a) with ha|ha
 ·rcases Ak (vld b) with hb|hb
  ·rw [Xc ha hb,Cv9,if_pos ha,if_pos hb]
  ·unfold Ig;simp [ha,hb]
 ·rcases Ak (vld b) with hb|hb
  ·unfold Ig;simp [ha,hb]
  ·have e:Ig a b=cmpS a b:=by unfold Ig;simp [ha,hb]
   rw [e,Qf];simp [ha,hb]
theorem to_N:TO ltN:=by
 refine ⟨fun a h=> ?_,fun a b c h1 h2=> ?_,fun a b=> ?_⟩
 ·unfold ltN at h
  split at h
  ·exact to_L.irr _ h
  ·exact Ew5.irr _ h
 ·unfold ltN at*
  rcases Ak (vld a) with ha|ha<;>rcases Ak (vld b) with hb|hb<;>rcases Ak (vld c) with hc|hc<;>
   simp only [ha,hb,hc,if_true,Ab,if_false] at h1 h2 ⊢
  ·exact to_L.tr _ _ _ h1 h2
  ·exact Ew5.tr _ _ _ h1 h2
 ·unfold ltN
  rcases Ak (vld a) with ha|ha<;>rcases Ak (vld b) with hb|hb<;>simp only [ha,hb,if_true,Ab,if_false]
  ·rcases to_L.tri (lbl a).reverse (lbl b).reverse with h|h|h
   ·exact .inl h
   ·exact .inr (.inl (R5 ha hb (List.reverse_inj.1 h)))
   ·exact .inr (.inr h)
  ·simp
  ·simp
  ·exact Ew5.tri a b
theorem Hh {a b:List UInt8}:Ig a b=0↔a=b:=by
 constructor
 ·intro h
  rcases Ak (vld a) with ha|ha
  ·rcases Ak (vld b) with hb|hb
   ·rw [Xc ha hb] at h
    have key:∀x y:List (List UInt8),An8 x y=0→x=y:=by
     intro x
     induction x with
     |nil=>intro y hy;cases y with
      |nil=>rfl
      |cons=>simp [An8,Tj] at hy
     |cons x xs ih=>intro y hy;cases y with
      |nil=>simp [An8,Tj] at hy
      |cons y ys=>
       simp only [An8,Tj] at hy ih
       by_cases e:x=y
       ·subst e
        rw [if_pos rfl] at hy
        simp only [A0,Nat.add_lt_add_iff_right] at hy
        rw [ih ys hy]
       ·rw [if_neg e] at hy
        exact absurd (If.1 hy) e
    rw [j7] at h
    exact R5 ha hb (List.reverse_inj.1 (key _ _ h))
   ·unfold Ig at h;simp [ha,hb] at h
  ·rcases Ak (vld b) with hb|hb
   ·unfold Ig at h;simp [ha,hb] at h
   ·have e:Ig a b=cmpS a b:=by unfold Ig;simp [ha,hb]
    rw [e] at h;exact If.1 h
 ·rintro rfl
  have h1:=Er a a
  have h2:¬Ig a a<0:=fun h=>to_N.irr a (h1.1 h)
  have key:∀x:List (List UInt8),An8 x x=0:=by
   intro x
   induction x with
   |nil=>rfl
   |cons x xs ih=>
    simp only [An8,Tj] at ih ⊢
    simp only [if_true,A0,Nat.add_lt_add_iff_right]
    exact ih
  rcases Ak (vld a) with ha|ha
  ·rw [Xc ha ha]
   rw [j7];exact key _
  ·have e:Ig a a=cmpS a a:=by unfold Ig;simp [ha]
   rw [e];exact If.2 rfl
end Go.X.G
/- Data of records: what the reference's functions give. -/
namespace Go.X.G
open Go Go.X
def Jc5 (t:Int):List UInt8:=
 if t=1 then [65] else if t=2 then [78,83] else if t=5 then [67,78,65,77,69] else if t=6 then [83,79,65] else if t=12 then [80,84,82]
 else if t=15 then [77,88] else if t=16 then [84,88,84] else if t=28 then [65,65,65,65] else if t=33 then [83,82,86] else if t=39 then [68,78,65,77,69]
 else if t=43 then [68,83] else if t=46 then [82,82,83,73,71] else if t=47 then [78,83,69,67] else if t=48 then [68,78,83,75,69,89] else []
theorem t15 (t:Int):t=1∨t=2∨t=5∨t=6∨t=12∨t=15∨t=16∨t=28∨t=33∨t=39∨t=43∨t=46∨t=47∨t=48∨(t≠1∧t≠2∧t≠5∧t≠6∧t≠12∧t≠15∧t≠16∧t≠28∧t≠33∧t≠39∧t≠43∧t≠46∧t≠47∧t≠48):=by omega
theorem mm (t:Int):S al 1 [.i .i64 t]=some [.s (Jc5 t)]:=by
 refine Ic5 (N:=1) rfl ?_
 rcases t15 t with rfl|rfl|rfl|rfl|rfl|rfl|rfl|rfl|rfl|rfl|rfl|rfl|rfl|rfl|⟨h0,h1,h2,h3,h4,h5,h6,h7,h8,h9,h10,h11,h12,h13⟩
 all_goals simp (disch:=omega) only [Ij2,EVP,↓reduceIte,EV,Nat.reduceAdd,Nat.reduceEqDiff,Int.reduceToNat,reduceCtorEq]
 all_goals first|rfl|(unfold Jc5;simp only [if_neg, *];rfl)
def knw (t:Int):Bool:=decide (t=1)||decide (t=2)||decide (t=5)||decide (t=6)||decide (t=12)||decide (t=15)||decide (t=16)||decide (t=28)||decide (t=33)||decide (t=39)||decide (t=43)||decide (t=46)||decide (t=47)||decide (t=48)
theorem Et7 (t:Int):decide (Jc5 t≠[])=knw t:=by
 unfold Jc5 knw
 rcases t15 t with rfl|rfl|rfl|rfl|rfl|rfl|rfl|rfl|rfl|rfl|rfl|rfl|rfl|rfl|⟨h0,h1,h2,h3,h4,h5,h6,h7,h8,h9,h10,h11,h12,h13⟩
 all_goals simp [*]
theorem Cw (t:Int):S W4 1 [.i .i64 t]=some [.b (knw t)]:=by
 refine Jn7 (N:=1) rfl ?_
 simp (disch:=omega) only [Jd7,mm,Et7,EVP,↓reduceIte,EV,Nat.reduceAdd,Nat.reduceEqDiff,Int.reduceToNat,reduceCtorEq]
theorem d6 (t:Int):S br 1 [.i .i64 t]=some [.b (decide (t=6)||decide (t=5)||decide (t=39))]:=by
 refine Ig0 (N:=1) rfl ?_
 simp (disch:=omega) only [Ik2,EVP,↓reduceIte,EV,Nat.reduceAdd,Nat.reduceEqDiff,Int.reduceToNat,reduceCtorEq]
def Df (d:Dat):Bool:=d.v6||(decide (d.hi=0) && decide (d.lo<4294967296))
theorem d4 (d:Dat):S Uf 1 [Il d]=some [.b (Df d)]:=by
 refine Ic3 (N:=1) rfl ?_
 unfold Df
 cases h:d.v6<;>by_cases h2:d.hi=0<;>simp (disch:=omega) [Ij0,h,h2,EVP,↓reduceIte,EV,Nat.reduceAdd,Nat.reduceEqDiff,Int.reduceToNat,reduceCtorEq]
def inB (n most:Int):Bool:=decide (0≤n) && decide (n≤most)
theorem Am3 (n m:Int):S Gy 2 [.i .i64 n, .i .i64 m]=some [.b (inB n m)]:=by
 refine Ic1 (N:=1) rfl ?_
 simp (disch:=omega) only [Ht9,inB,EVP,↓reduceIte,EV,Nat.reduceAdd,Nat.reduceEqDiff,Int.reduceToNat,reduceCtorEq]
theorem Eq9 (n:Int):S Bl0 1 [.i .i64 n]=some [.b (inB n 4294967295)]:=by
 refine Js5 (N:=1) rfl ?_
 simp (disch:=omega) only [Jg0,inB,EVP,↓reduceIte,EV,Nat.reduceAdd,Nat.reduceEqDiff,Int.reduceToNat,reduceCtorEq]
 congr 5
 simp;omega
def F3 (s:List UInt8):Bool:=decide (1≤s.length) && decide (s.length≤255)
theorem V8 (s:List UInt8):S Rl 1 [.s s]=some [.b (F3 s)]:=by
 refine Ic0 (N:=1) rfl ?_
 simp (disch:=omega) only [Ht8,F3,EVP,↓reduceIte,EV,Nat.reduceAdd,Nat.reduceEqDiff,Int.reduceToNat,reduceCtorEq]
 congr 5<;>simp<;>omega
theorem Bj7 {n:List UInt8} (h:vld n=true):0<n.length:=by
 unfold vld nm at h
 split at h
 ·rename_i e;simp [e]
 ·split at h
  ·omega
  ·cases h
def Fc (n:List UInt8):Bool:=vld n && decide (n[0]? ≠some 42)
theorem Hk (n:List UInt8) (hn:n.length≤9223372036854775807):S Mq 1 [.s n]=some [.b (Fc n)]:=by
 refine Ic2 (N:=1) rfl ?_
 unfold Fc
 cases h:vld n
 ·simp (disch:=omega) only [Fx4,Fx,h,EVP,↓reduceIte,EV,Nat.reduceAdd,Nat.reduceEqDiff,Int.reduceToNat,reduceCtorEq]
  rfl
 ·have h0:=Ax (Bj7 h)
  have h1:=Hj1 (n[0]'(Bj7 h)) 42 (by omega)
  simp (disch:=omega) only [Fx4,Fx,h,h0,EVP,↓reduceIte,EV,Nat.reduceAdd,Nat.reduceEqDiff,Int.reduceToNat,reduceCtorEq]
  simp
  exact h1
def bit (set:Int) (t:Nat):Int:=set / 2 ^ t % 2
theorem Jb5 (x:Int):IntKind.u64.wrap ((BitVec.ofInt IntKind.u64.bits x &&& BitVec.ofInt IntKind.u64.bits 1).toNat:Int)=x % 2:=by
 have h2:(BitVec.ofInt 64 x &&& BitVec.ofInt 64 1).toNat=(BitVec.ofInt 64 x).toNat % 2:=by
  rw [BitVec.toNat_and]
  show (BitVec.ofInt 64 x).toNat &&& 1=_
  exact Nat.and_one_is_mod _
 show IntKind.u64.wrap (((BitVec.ofInt 64 x &&& BitVec.ofInt 64 1).toNat:Nat):Int)=_
 rw [h2,BitVec.toNat_ofInt]
 rw [Jh7]<;>omega
end Go.X.G
/- Data of records: bytes. -/
namespace Go.X.G
open Go Go.X
def Ax8 (set:Int) (i:Nat):Nat→Bool
 |0=>true
 |k+1=>(!decide (bit set i=1)||knw (i:Int)) && Ax8 set (i+1) k
theorem Jb7 (set:Int) (N:Nat) (hN:64<N):
  Bt5.ev S N [.i .u64 set]=some (if Ax8 set 0 64=true then .yld 0 [] else .ret [.b false]):=by
 refine En 64 (fun i=>[.i .i64 (i:Int)]) (fun i=>if Ax8 set i (64 - i)=true then .yld 0 [] else .ret [.b false]) rfl hN (fun i hi=> ?_) ?_
 ·obtain ⟨k,hk⟩:∃k,64 - i=k+1:=⟨63 - i,by omega⟩
  have hk':64 - (i+1)=k:=by omega
  have hb:IntKind.u64.bits=64:=rfl
  have hi':i<IntKind.u64.bits:=by rw [hb];exact hi
  have h0:X.bin .shr (.i .u64 set) (.i .u64 (i:Int))=some (.i .u64 (set / 2 ^ i)):=Az4 _ _ _ _ hi'
  have h1:set / 2 ^ i % 2=bit set i:=rfl
  rw [hk,hk']
  simp only [Ax8]
  by_cases h2:bit set i=1<;>rcases Ak (knw (i:Int)) with h3|h3<;>simp (disch:=omega) only [At8,Cw,S1,Jb5,h0,h1,h2,h3,EVP,↓reduceIte,EV,Nat.reduceAdd,Nat.reduceEqDiff,Int.reduceToNat,reduceCtorEq]
  all_goals simp [Out.goes]
 ·simp (disch:=omega) [At8,EVP,↓reduceIte,EV,Nat.reduceAdd,Nat.reduceEqDiff,Int.reduceToNat,reduceCtorEq,Out.goes,Ax8]
theorem Jb6 (set:Int):S af 1 [.i .u64 set]=some [.b (Ax8 set 0 64)]:=by
 refine Ib9 (N:=65) rfl ?_
 simp (disch:=omega) only [At8,Jb7,EVP,↓reduceIte,EV,Nat.reduceAdd,Nat.reduceEqDiff,Int.reduceToNat,reduceCtorEq]
 cases Ax8 set 0 64<;>rfl
def be (v:Int):Nat→List UInt8
 |0=>[]
 |n+1=>UInt8.ofNat (v / 256 ^ n % 256).toNat::be v n
theorem Db (v:Int):∀n,(be v n).length=n
 |0=>rfl
 |n+1=>by simp [be,Db v n]
theorem Rb (z:Int) (h1:0≤z) (h2:z<256):((UInt8.ofNat z.toNat).toNat:Int)=z:=by
 simp;omega
theorem jt (v:Int) (j:Nat):v / 256 ^ j / 256=v / 256 ^ (j+1):=by
 rw [Int.pow_succ,Int.ediv_ediv_of_nonneg (Int.le_of_lt (Int.pow_pos (by decide)))]
theorem dz (v:Int) (j:Nat) (h:0≤v):0≤v / 256 ^ j:=Int.ediv_nonneg h (Int.le_of_lt (Int.pow_pos (by decide)))
theorem db (v:Int) (j:Nat) (h:0≤v):v / 256 ^ j≤v:=Int.ediv_le_self _ h
theorem Bg9 (v:Int) (n i:Nat) (p q:PV) (N:Nat) (hN:i<N) (hi:i≤1000) (h0:0≤v) (h1:v≤18446744073709551615):
  Br7.ev S N [.i .u64 v,p,q, .i .i64 (i:Int)]=some (.yld 2 [.i .u64 (v / 256 ^ i)]):=by
 refine En i (fun j=>[.i .u64 (v / 256 ^ j), .i .i64 (j:Int)]) (fun j=> .yld 2 [.i .u64 (v / 256 ^ i)]) (by simp [Xx,jp,Kg0,Kg4]) hN (fun j hj=> ?_) ?_
 ·left
  have h2:=dz v j h0
  have h3:=db v j h0
  have h4:=jt v j
  simp (disch:=omega) only [Yx,h4,EVP,↓reduceIte,EV,Nat.reduceAdd,Nat.reduceEqDiff,Int.reduceToNat,reduceCtorEq]
  simp
 ·simp (disch:=omega) only [Yx,EVP,↓reduceIte,EV,Nat.reduceAdd,Nat.reduceEqDiff,Int.reduceToNat,reduceCtorEq]
  simp [Out.goes]
theorem Bh0 (v:Int) (n:Nat) (N:Nat) (hN:n+1<N) (hn:n≤1000) (h0:0≤v) (h1:v≤18446744073709551615):
  i9.ev S N [.i .u64 v, .i .i64 (n:Int)]=some (.yld 0 [.l 1 (Bp (be v n))]):=by
 have key:=Ib (fn:=S) (N:=N) (η:=[.i .u64 v, .i .i64 (n:Int)]) (id:=1) (init:=[(.c (.l 1 [])),(.bin .sub (.v 1) (.c (.i .i64 (1))))]) (body:=l8) (α:=Nat×List UInt8) (fun a=>[.l 1 (Bp a.2), .i .i64 ((a.1:Int) - 1)]) (fun a=> .yld 0 [.l 1 (Bp (a.2++be v a.1))]) (fun a=>a.1+a.2.length=n) (fun a=>a.1) (n,[]) (by simp (disch:=omega) only [EVP,↓reduceIte,EV,Nat.reduceAdd,Nat.reduceEqDiff,Int.reduceToNat,reduceCtorEq];rfl) rfl (by simp only;omega) ?_
 ·simpa [i9] using key
 ·rintro ⟨m,acc⟩ hm
  simp only at hm ⊢
  cases m with
  |zero=>
   right
   simp (disch:=omega) only [Yx,EVP,↓reduceIte,EV,Nat.reduceAdd,Nat.reduceEqDiff,Int.reduceToNat,reduceCtorEq]
   simp [be,Out.goes]
  |succ m=>
   left
   have h2:=dz v m h0
   have h3:=db v m h0
   have e:((m+1:Nat):Int) - 1=(m:Int):=by omega
   have e2:=Rb (v / 256 ^ m % 256) (by omega) (by omega)
   have e3:=K8 acc
   refine ⟨(m,acc++[UInt8.ofNat (v / 256 ^ m % 256).toNat]),?_,by simp;omega,by simp,by simp [be]⟩
   rw [e]
   have hin:=Bg9 v n m (.i .i64 (n:Int)) (.l 1 (Bp acc)) N (by omega) (by omega) h0 h1
   simp (disch:=omega) only [Yx,hin,EVP,↓reduceIte,EV,Nat.reduceAdd,Nat.reduceEqDiff,Int.reduceToNat,reduceCtorEq]
   rw [←O9,e2]
theorem Rc (v:Int) (n:Nat) (hn:n≤1000) (h0:0≤v) (h1:v≤18446744073709551615):S Rf 2 [.i .u64 v, .i .i64 (n:Int)]=some [.s (be v n)]:=by
 refine Iy0 (N:=n+2) rfl ?_
 simp (disch:=omega) only [Yx,Bh0,EVP,↓reduceIte,EV,Nat.reduceAdd,Nat.reduceEqDiff,Int.reduceToNat,reduceCtorEq]
theorem Ev1 (v:Int) (n i:Nat) (p q:PV) (N:Nat) (hN:i<N) (hi:i≤1000) (h0:0≤v) (h1:v≤9223372036854775807):
  Br9.ev S N [.i .i64 v,p,q, .i .i64 (i:Int)]=some (.yld 2 [.i .i64 (v / 256 ^ i)]):=by
 refine En i (fun j=>[.i .i64 (v / 256 ^ j), .i .i64 (j:Int)]) (fun j=> .yld 2 [.i .i64 (v / 256 ^ i)]) (by simp [Xx,jp,Kg0,Kg4]) hN (fun j hj=> ?_) ?_
 ·left
  have h2:=dz v j h0
  have h3:=db v j h0
  have h4:=jt v j
  simp (disch:=omega) only [Yy,h4,EVP,↓reduceIte,EV,Nat.reduceAdd,Nat.reduceEqDiff,Int.reduceToNat,reduceCtorEq]
  simp
 ·simp (disch:=omega) only [Yy,EVP,↓reduceIte,EV,Nat.reduceAdd,Nat.reduceEqDiff,Int.reduceToNat,reduceCtorEq]
  simp [Out.goes]
theorem Ev2 (v:Int) (n:Nat) (N:Nat) (hN:n+1<N) (hn:n≤1000) (h0:0≤v) (h1:v≤9223372036854775807):
  jj.ev S N [.i .i64 v, .i .i64 (n:Int)]=some (.yld 0 [.l 1 (Bp (be v n))]):=by
 have key:=Ib (fn:=S) (N:=N) (η:=[.i .i64 v, .i .i64 (n:Int)]) (id:=1) (init:=[(.c (.l 1 [])),(.bin .sub (.v 1) (.c (.i .i64 (1))))]) (body:=l9) (α:=Nat×List UInt8) (fun a=>[.l 1 (Bp a.2), .i .i64 ((a.1:Int) - 1)]) (fun a=> .yld 0 [.l 1 (Bp (a.2++be v a.1))]) (fun a=>a.1+a.2.length=n) (fun a=>a.1) (n,[]) (by simp (disch:=omega) only [EVP,↓reduceIte,EV,Nat.reduceAdd,Nat.reduceEqDiff,Int.reduceToNat,reduceCtorEq];rfl) rfl (by simp only;omega) ?_
 ·simpa [jj] using key
 ·rintro ⟨m,acc⟩ hm
  simp only at hm ⊢
  cases m with
  |zero=>
   right
   simp (disch:=omega) only [Yy,EVP,↓reduceIte,EV,Nat.reduceAdd,Nat.reduceEqDiff,Int.reduceToNat,reduceCtorEq]
   simp [be,Out.goes]
  |succ m=>
   left
   have h2:=dz v m h0
   have h3:=db v m h0
   have e:((m+1:Nat):Int) - 1=(m:Int):=by omega
   have e2:=Rb (v / 256 ^ m % 256) (by omega) (by omega)
   have e3:=K8 acc
   refine ⟨(m,acc++[UInt8.ofNat (v / 256 ^ m % 256).toNat]),?_,by simp;omega,by simp,by simp [be]⟩
   rw [e]
   have hin:=Ev1 v n m (.i .i64 (n:Int)) (.l 1 (Bp acc)) N (by omega) (by omega) h0 h1
   simp (disch:=omega) only [Yy,hin,EVP,↓reduceIte,EV,Nat.reduceAdd,Nat.reduceEqDiff,Int.reduceToNat,reduceCtorEq]
   rw [←O9,e2]
theorem Lv (v:Int) (n:Nat) (hn:n≤1000) (h0:0≤v) (h1:v≤9223372036854775807):S Eb 2 [.i .i64 v, .i .i64 (n:Int)]=some [.s (be v n)]:=by
 refine Iy8 (N:=n+2) rfl ?_
 simp (disch:=omega) only [Yy,Ev2,EVP,↓reduceIte,EV,Nat.reduceAdd,Nat.reduceEqDiff,Int.reduceToNat,reduceCtorEq]
end Go.X.G
/- Data of records: the wire form. -/
namespace Go.X.G
open Go Go.X
theorem R8 {s:List UInt8} (h:Jx s=true):s.length≤63:=by
 unfold Jx at h
 simp at h
 rcases h with h|h
 ·simp [h]
 ·omega
theorem V9:∀(r:List UInt8) (f:Bool) (cur:List UInt8) (l:List (List UInt8)),spl f cur r=some l→∀x∈l,Jx x=true
 |[],f,cur,l,h=>by simp [spl] at h;subst h;simp
 |c::r,f,cur,l,h=>by
  simp only [spl] at h
  split at h
  ·split at h
   ·rename_i h2
    obtain ⟨m,hm,rfl⟩:=Aw.1 h
    intro x hx
    simp at hx
    rcases hx with rfl|hx
    ·exact h2.1
    ·exact V9 r _ _ _ hm x hx
   ·cases h
  ·exact V9 r _ _ _ h
theorem Ns (n:List UInt8):∀x∈lbl n,Jx x=true:=by
 unfold lbl nm
 split
 ·simp
 ·split
  ·cases h:spl true [] n with
   |none=>simp
   |some l=>simpa using V9 _ _ _ _ h
  ·simp
def wireL (l:List (List UInt8)):List UInt8:=l.flatMap fun x=>be (x.length:Int) 1++x
def H3 (n:List UInt8):List UInt8:=wireL (lbl n)++be 0 1
theorem M8:∀(l:List (List UInt8)),(∀x∈l,Jx x=true)→(wireL l).length≤64*l.length
 |[],_=>by simp [wireL]
 |x::l,h=>by
  have h1:=R8 (h x (by simp))
  have h2:=M8 l (fun y hy=>h y (by simp [hy]))
  simp only [wireL,Gn,Az,Db,A0] at h2 ⊢
  omega
theorem M7 (n:List UInt8):(H3 n).length≤20000:=by
 have h1:=M8 (lbl n) (Ns n)
 have h2:=Gs n
 simp only [H3,Az,Db]
 omega
theorem mf (n:List UInt8) (N:Nat) (hN:254<N):
  jk.ev S N [.s n,Bv (lbl n)]=some (.yld 0 [.s (wireL (lbl n))]):=by
 have hl:=Gs n
 have key:=F4 (fn:=S) (N:=N) (η:=[.s n,Bv (lbl n)]) (id:=1) (init:=[(.c (.s [])),(.c (.i .i64 (0)))]) (body:=mj) (lbl n) (fun i (g:List UInt8)=>[.s g, .i .i64 (i:Int)]) (fun i g r=> .yld 0 [.s (g++wireL r)]) (fun i g=>g.length≤64*i) [] rfl (Ac _) (by omega) (fun i g c r hd hi hc hI=> ?_) (fun g hI=> ?_)
 ·simpa [jk] using key
 ·left
  have h1:=R8 (Ns n c (As hc))
  have h2:=Lv (c.length:Int) 1 (by omega) (by omega) (by omega)
  have h3:=Db (c.length:Int) 1
  have h4:(be (c.length:Int) 1++c).length=1+c.length:=by rw [Az,h3]
  refine ⟨g++(be (c.length:Int) 1++c),?_,?_,?_⟩
  ·simp only [Int.natCast_one] at h2
   simp (disch:=omega) only [At4,hc,h2,EVP,↓reduceIte,EV,Nat.reduceAdd,Nat.reduceEqDiff,Int.reduceToNat,reduceCtorEq]
  ·rw [Az,h4];omega
  ·simp [wireL]
 ·simp (disch:=omega) only [At4,EVP,↓reduceIte,EV,Nat.reduceAdd,Nat.reduceEqDiff,Int.reduceToNat,reduceCtorEq]
  simp [Out.goes,wireL]
theorem Ej (n:List UInt8) (hn:n.length≤9223372036854775807):S Kr 1 [.s n]=some [.s (H3 n)]:=by
 refine Iy9 (N:=255) rfl ?_
 have h1:=M8 (lbl n) (Ns n)
 have h2:=Gs n
 have h3:=Db 0 1
 have h4:=Lv 0 1 (by omega) (by omega) (by omega)
 simp only [Int.natCast_one] at h4
 simp (disch:=omega) only [At4,Pq,mf,h4,EVP,↓reduceIte,EV,Nat.reduceAdd,Nat.reduceEqDiff,Int.reduceToNat,reduceCtorEq]
 rfl
def bmV (set:Int) (i:Nat):Nat→Int
 |0=>0
 |j+1=>bmV set i j*2+bit set (i*8+j)
theorem Ds7 (set:Int) (t:Nat):0≤bit set t∧bit set t≤1:=by unfold bit;omega
theorem Vj (set:Int) (i:Nat):∀j,0≤bmV set i j∧bmV set i j<2 ^ j
 |0=>by simp [bmV]
 |j+1=>by
  have h1:=Vj set i j
  have h2:=Ds7 set (i*8+j)
  simp only [bmV,Int.pow_succ]
  omega
def bmB (set:Int) (i:Nat):UInt8:=UInt8.ofNat (bmV set i 8).toNat
def bmL (set:Int):Nat→Nat
 |0=>0
 |i+1=>if bmV set i 8≠0 then i+1 else bmL set i
theorem Ds0 (set:Int):∀i,bmL set i≤i
 |0=>Ac _
 |i+1=>by have:=Ds0 set i;simp only [bmL];split<;>omega
def bmap (set:Int):List UInt8:=((List.range 8).map (bmB set)).take (bmL set 8)
theorem Ds4 (set:Int) (p q:PV) (i:Nat) (hi:i<8) (N:Nat) (hN:8<N):
  Br8.ev S N [.i .u64 set,p,q, .i .i64 (i:Int)]=some (.yld 2 [.i .i64 (bmV set i 8)]):=by
 refine En 8 (fun j=>[.i .i64 (bmV set i j), .i .i64 (j:Int)]) (fun j=> .yld 2 [.i .i64 (bmV set i 8)]) rfl hN (fun j hj=> ?_) ?_
 ·left
  have hb:IntKind.u64.bits=64:=rfl
  have hi':i*8+j<IntKind.u64.bits:=by rw [hb];omega
  have e:((i:Int)*8+(j:Int))=((i*8+j:Nat):Int):=by simp
  have h0:X.bin .shr (.i .u64 set) (.i .u64 ((i*8+j:Nat):Int))=some (.i .u64 (set / 2 ^ (i*8+j))):=Az4 _ _ _ _ hi'
  have h1:set / 2 ^ (i*8+j) % 2=bit set (i*8+j):=rfl
  have h2:=Vj set i j
  have h3:(2:Int) ^ j≤128:=(by decide:∀j,j<8→(2:Int) ^ j≤128) j hj
  have h4:=Ds7 set (i*8+j)
  simp (disch:=omega) only [Tm,S1,Jb5,h0,h1,←e,EVP,↓reduceIte,EV,Nat.reduceAdd,Nat.reduceEqDiff,Int.reduceToNat,reduceCtorEq]
  refine ⟨?_,trivial⟩
  rw [e,h0]
  simp (disch:=omega) only [S1,Jb5,h0,h1,EVP,↓reduceIte,EV,Nat.reduceAdd,Nat.reduceEqDiff,Int.reduceToNat,reduceCtorEq]
  rfl
 ·simp (disch:=omega) only [Tm,EVP,↓reduceIte,EV,Nat.reduceAdd,Nat.reduceEqDiff,Int.reduceToNat,reduceCtorEq]
  simp [Out.goes]
theorem Ds5 (set:Int) (N:Nat) (hN:8<N):
  Bs7.ev S N [.i .u64 set]=some (.yld 0 [.l 1 (Bp ((List.range 8).map (bmB set))), .i .i64 (bmL set 8:Int)]):=by
 refine En 8 (fun i=>[.l 1 (Bp ((List.range i).map (bmB set))), .i .i64 (bmL set i:Int), .i .i64 (i:Int)]) (fun _=> .yld 0 [.l 1 (Bp ((List.range 8).map (bmB set))), .i .i64 (bmL set 8:Int)]) rfl hN (fun i hi=> ?_) ?_
 ·left
  have h1:=Ds4 set (.l 1 (Bp ((List.range i).map (bmB set)))) (.i .i64 (bmL set i:Int)) i hi N hN
  have h2:=Vj set i 8
  have h3:(2:Int) ^ 8=256:=rfl
  have h4:=Rb (bmV set i 8) (by omega) (by omega)
  have h5:(Bp ((List.range i).map (bmB set))).length=i:=by simp [K8]
  have h6:Bp ((List.range (i+1)).map (bmB set))=Bp ((List.range i).map (bmB set))++[.i .u8 (bmV set i 8)]:=by
   rw [List.range_succ,List.map_append,←h4]
   exact (O9 _ _).symm
  rw [h6]
  by_cases h7:bmV set i 8=0
  ·simp (disch:=omega) only [Tm,h1,bmL,h7,EVP,↓reduceIte,EV,Nat.reduceAdd,Nat.reduceEqDiff,Int.reduceToNat,reduceCtorEq]
   simp
  ·simp (disch:=omega) only [Tm,h1,bmL,EVP,↓reduceIte,EV,Nat.reduceAdd,Nat.reduceEqDiff,Int.reduceToNat,reduceCtorEq]
   simp [h7]
 ·simp (disch:=omega) only [Tm,EVP,↓reduceIte,EV,Nat.reduceAdd,Nat.reduceEqDiff,Int.reduceToNat,reduceCtorEq]
  simp [Out.goes]
theorem Ds3 (set:Int):S Z9 1 [.i .u64 set]=some [.s (bmap set)]:=by
 refine Iy7 (N:=9) rfl ?_
 have h1:=Ds0 set 8
 have h2:(Bp ((List.range 8).map (bmB set))).length=8:=by simp [K8]
 have h3:List.drop 0 (List.take (bmL set 8) (Bp ((List.range 8).map (bmB set))))=Bp (bmap set):=by
  simp only [Dp,bmap,Bp,List.map_take]
 simp (disch:=omega) only [Tm,Ds5,h3,EVP,↓reduceIte,EV,Nat.reduceAdd,Nat.reduceEqDiff,Int.reduceToNat,reduceCtorEq]
theorem Xr (set:Int):(bmap set).length≤8:=by simp [bmap];omega
def M9 (d:Dat):List UInt8:=if d.v6 then be d.hi 8++be d.lo 8 else be d.lo 4
theorem Ay1 (d:Dat) (h:d.wf):S aj 1 [Il d]=some (if Df d=true then [.s (M9 d), .i .i64 0] else [.s [], .i .i64 3]):=by
 refine Iz0 (N:=1) rfl ?_
 have h1:=h.hi
 have h2:=h.lo
 have a1:=Rc d.hi 8 (by omega) h1.1 h1.2
 have a2:=Rc d.lo 8 (by omega) h2.1 h2.2
 have a3:=Rc d.lo 4 (by omega) h2.1 h2.2
 have b1:=Db d.hi 8
 have b2:=Db d.lo 8
 simp only [Int.cast_ofNat_Int] at a1 a2 a3
 unfold M9
 rcases Ak (Df d) with h3|h3<;>rcases Ak d.v6 with h4|h4<;>simp (disch:=omega) only [Ht0,d4,h3,h4,a1,a2,a3,EVP,↓reduceIte,EV,Nat.reduceAdd,Nat.reduceEqDiff,Int.reduceToNat,reduceCtorEq]
def usd (t:Int) (d:Dat):Dat:=
 if t=1∨t=28 then ⟨d.v6,d.hi,d.lo,[],[],[],0,0,0,0,0,0,0⟩
 else if t=2∨t=5∨t=12∨t=39 then ⟨false,0,0,d.host,[],[],0,0,0,0,0,0,0⟩
 else if t=6 then ⟨false,0,0,d.host,d.mail,[],d.a,d.b,d.c,d.d,d.e,0,0⟩
 else if t=15 then ⟨false,0,0,d.host,[],[],d.a,0,0,0,0,0,0⟩
 else if t=16 then ⟨false,0,0,[],[],d.text,0,0,0,0,0,0,0⟩
 else if t=33 then ⟨false,0,0,d.host,[],[],d.a,d.b,d.c,0,0,0,0⟩
 else if t=43∨t=48 then ⟨false,0,0,[],[],d.text,d.a,d.b,d.c,0,0,0,0⟩
 else if t=46 then ⟨false,0,0,d.host,[],d.text,d.a,d.b,d.c,d.d,d.e,d.f,0⟩
 else ⟨false,0,0,d.host,[],[],0,0,0,0,0,0,d.bits⟩
theorem Gg (t:Int) (d:Dat):S ah 2 [.i .i64 t,d.pv]=some [(usd t d).pv]:=by
 refine Ic4 (N:=1) rfl ?_
 rcases t15 t with rfl|rfl|rfl|rfl|rfl|rfl|rfl|rfl|rfl|rfl|rfl|rfl|rfl|rfl|⟨h0,h1,h2,h3,h4,h5,h6,h7,h8,h9,h10,h11,h12,h13⟩
 all_goals simp (disch:=omega) only [Ij1,EVP,↓reduceIte,EV,Nat.reduceAdd,Nat.reduceEqDiff,Int.reduceToNat,reduceCtorEq]
 all_goals first|rfl|(unfold usd;simp [*])
end Go.X.G
/- Data of records: which are valid. -/
namespace Go.X.G
open Go Go.X
def Cb (t:Int) (d:Dat):Bool:=
 if t=1 then Df d && !d.v6
 else if t=28 then d.v6
 else if t=6 then Fc d.host && Fc d.mail && inB d.a 4294967295 && inB d.b 2147483647 && inB d.c 2147483647 && inB d.d 2147483647 && inB d.e 2147483647
 else if t=15 then Fc d.host && inB d.a 65535
 else if t=16 then decide (d.text.length≤255)
 else if t=33 then Fc d.host && inB d.a 65535 && inB d.b 65535 && inB d.c 65535
 else if t=43 then inB d.a 65535 && inB d.b 255 && inB d.c 255 && F3 d.text
 else if t=46 then knw d.a && decide (d.a≠46) && inB d.b 127 && inB d.c 2147483647 && inB d.d 4294967295 && inB d.e 4294967295 && inB d.f 65535 && Fc d.host && F3 d.text
 else if t=47 then vld d.host && decide (d.bits≠0) && Ax8 d.bits 0 64
 else if t=48 then (decide (d.a=256)||decide (d.a=257)) && decide (d.b=3) && inB d.c 255 && F3 d.text
 else Fc d.host
def Dv (t:Int) (d:Dat):Bool:=knw t && decide (usd t d=d) && Cb t d
theorem Ev (t:Int) (d:Dat) (h:d.wf):S Ag1 2 [.i .i64 t,d.pv]=some [.b (Dv t d)]:=by
 refine Jn6 (N:=1) rfl ?_
 have g1:=h.host
 have g2:=h.mail
 have g3:=h.text
 unfold L9 at g1 g2 g3
 rcases Ak (knw t) with hk|hk
 ·by_cases hu:usd t d=d
  ·rcases t15 t with rfl|rfl|rfl|rfl|rfl|rfl|rfl|rfl|rfl|rfl|rfl|rfl|rfl|rfl|⟨h0,h1,h2,h3,h4,h5,h6,h7,h8,h9,h10,h11,h12,h13⟩
   ·rcases ch2 (Df d) (d.v6) with e0|⟨e0,e1⟩|⟨e0,e1⟩
    all_goals simp (disch:=omega) only [L5,Cw,Gg,d4,EVP,↓reduceIte,EV,Nat.reduceAdd,Nat.reduceEqDiff,Int.reduceToNat,reduceCtorEq,hk,hu, *]
    all_goals (unfold Dv Cb;simp [*])
   ·simp (disch:=omega) only [L5,Cw,Gg,Hk,EVP,↓reduceIte,EV,Nat.reduceAdd,Nat.reduceEqDiff,Int.reduceToNat,reduceCtorEq,hk,hu]
    unfold Dv Cb;simp [*]
   ·simp (disch:=omega) only [L5,Cw,Gg,Hk,EVP,↓reduceIte,EV,Nat.reduceAdd,Nat.reduceEqDiff,Int.reduceToNat,reduceCtorEq,hk,hu]
    unfold Dv Cb;simp [*]
   ·rcases ch7 (Fc d.host) (Fc d.mail) (inB d.a 4294967295) (inB d.b 2147483647) (inB d.c 2147483647) (inB d.d 2147483647) (inB d.e 2147483647) with e0|⟨e0,e1⟩|⟨e0,e1,e2⟩|⟨e0,e1,e2,e3⟩|⟨e0,e1,e2,e3,e4⟩|⟨e0,e1,e2,e3,e4,e5⟩|⟨e0,e1,e2,e3,e4,e5,e6⟩|⟨e0,e1,e2,e3,e4,e5,e6⟩
    all_goals simp (disch:=omega) only [L5,Cw,Gg,Hk,Eq9,Am3,EVP,↓reduceIte,EV,Nat.reduceAdd,Nat.reduceEqDiff,Int.reduceToNat,reduceCtorEq,hk,hu, *]
    all_goals (unfold Dv Cb;simp [*])
   ·simp (disch:=omega) only [L5,Cw,Gg,Hk,EVP,↓reduceIte,EV,Nat.reduceAdd,Nat.reduceEqDiff,Int.reduceToNat,reduceCtorEq,hk,hu]
    unfold Dv Cb;simp [*]
   ·rcases ch2 (Fc d.host) (inB d.a 65535) with e0|⟨e0,e1⟩|⟨e0,e1⟩
    all_goals simp (disch:=omega) only [L5,Cw,Gg,Hk,Am3,EVP,↓reduceIte,EV,Nat.reduceAdd,Nat.reduceEqDiff,Int.reduceToNat,reduceCtorEq,hk,hu, *]
    all_goals (unfold Dv Cb;simp [*])
   ·simp (disch:=omega) only [L5,Cw,Gg,Hk,EVP,↓reduceIte,EV,Nat.reduceAdd,Nat.reduceEqDiff,Int.reduceToNat,reduceCtorEq,hk,hu]
    unfold Dv Cb;simp [*];omega
   ·simp (disch:=omega) only [L5,Cw,Gg,Hk,EVP,↓reduceIte,EV,Nat.reduceAdd,Nat.reduceEqDiff,Int.reduceToNat,reduceCtorEq,hk,hu]
    unfold Dv Cb;simp [*]
   ·rcases ch4 (Fc d.host) (inB d.a 65535) (inB d.b 65535) (inB d.c 65535) with e0|⟨e0,e1⟩|⟨e0,e1,e2⟩|⟨e0,e1,e2,e3⟩|⟨e0,e1,e2,e3⟩
    all_goals simp (disch:=omega) only [L5,Cw,Gg,Hk,Am3,EVP,↓reduceIte,EV,Nat.reduceAdd,Nat.reduceEqDiff,Int.reduceToNat,reduceCtorEq,hk,hu, *]
    all_goals (unfold Dv Cb;simp [*])
   ·simp (disch:=omega) only [L5,Cw,Gg,Hk,EVP,↓reduceIte,EV,Nat.reduceAdd,Nat.reduceEqDiff,Int.reduceToNat,reduceCtorEq,hk,hu]
    unfold Dv Cb;simp [*]
   ·rcases ch4 (inB d.a 65535) (inB d.b 255) (inB d.c 255) (F3 d.text) with e0|⟨e0,e1⟩|⟨e0,e1,e2⟩|⟨e0,e1,e2,e3⟩|⟨e0,e1,e2,e3⟩
    all_goals simp (disch:=omega) only [L5,Cw,Gg,Am3,V8,EVP,↓reduceIte,EV,Nat.reduceAdd,Nat.reduceEqDiff,Int.reduceToNat,reduceCtorEq,hk,hu, *]
    all_goals (unfold Dv Cb;simp [*])
   ·rcases ch9 (knw d.a) (decide (d.a≠46)) (inB d.b 127) (inB d.c 2147483647) (inB d.d 4294967295) (inB d.e 4294967295) (inB d.f 65535) (Fc d.host) (F3 d.text) with e0|⟨e0,e1⟩|⟨e0,e1,e2⟩|⟨e0,e1,e2,e3⟩|⟨e0,e1,e2,e3,e4⟩|⟨e0,e1,e2,e3,e4,e5⟩|⟨e0,e1,e2,e3,e4,e5,e6⟩|⟨e0,e1,e2,e3,e4,e5,e6,e7⟩|⟨e0,e1,e2,e3,e4,e5,e6,e7,e8⟩|⟨e0,e1,e2,e3,e4,e5,e6,e7,e8⟩
    all_goals simp (disch:=omega) only [L5,Cw,Gg,Hk,Am3,V8,EVP,↓reduceIte,EV,Nat.reduceAdd,Nat.reduceEqDiff,Int.reduceToNat,reduceCtorEq,hk,hu, *]
    all_goals (unfold Dv Cb;simp [*])
   ·rcases ch3 (vld d.host) (decide (d.bits≠0)) (Ax8 d.bits 0 64) with e0|⟨e0,e1⟩|⟨e0,e1,e2⟩|⟨e0,e1,e2⟩
    all_goals simp (disch:=omega) only [L5,Cw,Gg,Fx,Jb6,EVP,↓reduceIte,EV,Nat.reduceAdd,Nat.reduceEqDiff,Int.reduceToNat,reduceCtorEq,hk,hu, *]
    all_goals (unfold Dv Cb;simp [*])
   ·rcases ch4 (decide (d.a=256)||decide (d.a=257)) (decide (d.b=3)) (inB d.c 255) (F3 d.text) with e0|⟨e0,e1⟩|⟨e0,e1,e2⟩|⟨e0,e1,e2,e3⟩|⟨e0,e1,e2,e3⟩
    all_goals simp (disch:=omega) only [L5,Cw,Gg,Am3,V8,EVP,↓reduceIte,EV,Nat.reduceAdd,Nat.reduceEqDiff,Int.reduceToNat,reduceCtorEq,hk,hu, *]
    all_goals (unfold Dv Cb;simp [*])
   ·simp [knw, *] at hk
  ·simp (disch:=omega) only [L5,Cw,Gg,EVP,↓reduceIte,EV,Nat.reduceAdd,Nat.reduceEqDiff,Int.reduceToNat,reduceCtorEq,hk,hu]
   unfold Dv
   simp [hu]
 ·simp (disch:=omega) only [L5,Cw,EVP,↓reduceIte,EV,Nat.reduceAdd,Nat.reduceEqDiff,Int.reduceToNat,reduceCtorEq,hk]
  unfold Dv
  simp [hk]
def H4 (t:Int) (d:Dat):List UInt8:=
 if t=1∨t=28 then M9 d
 else if t=6 then H3 d.host++H3 d.mail++be d.a 4++be d.b 4++be d.c 4++be d.d 4++be d.e 4
 else if t=15 then be d.a 2++H3 d.host
 else if t=16 then be (d.text.length:Int) 1++d.text
 else if t=33 then be d.a 2++be d.b 2++be d.c 2++H3 d.host
 else if t=43∨t=48 then be d.a 2++be d.b 1++be d.c 1++d.text
 else if t=46 then be d.a 2++be 253 1++be d.b 1++be d.c 4++be d.d 4++be d.e 4++be d.f 2++H3 d.host++d.text
 else if t=47 then H3 d.host++be 0 1++be ((bmap d.bits).length:Int) 1++bmap d.bits
 else H3 d.host
theorem knw_cases {t:Int} (h:knw t=true):t=1∨t=2∨t=5∨t=6∨t=12∨t=15∨t=16∨t=28∨t=33∨t=39∨t=43∨t=46∨t=47∨t=48:=by
 simp [knw] at h;omega
theorem S4 (v:Int) (h0:0≤v) (h1:v≤9223372036854775807):S Eb 2 [.i .i64 v, .i .i64 1]=some [.s (be v 1)]:=Lv v 1 (by omega) h0 h1
theorem S3 (v:Int) (h0:0≤v) (h1:v≤9223372036854775807):S Eb 2 [.i .i64 v, .i .i64 2]=some [.s (be v 2)]:=Lv v 2 (by omega) h0 h1
theorem Ev3 (v:Int) (h0:0≤v) (h1:v≤9223372036854775807):S Eb 2 [.i .i64 v, .i .i64 4]=some [.s (be v 4)]:=Lv v 4 (by omega) h0 h1
theorem Qg (t:Int) (d:Dat) (h:d.wf):S Uy 2 [.i .i64 t,d.pv]=some (if Dv t d=true then [.s (H4 t d), .i .i64 0] else if knw t=true then [.s [], .i .i64 5] else [.s [], .i .i64 4]):=by
 refine Ib2 (N:=1) rfl ?_
 have g1:=h.host
 have g2:=h.mail
 have g3:=h.text
 unfold L9 at g1 g2 g3
 have g4:=M7 d.host
 have g5:=M7 d.mail
 have g6:=Xr d.bits
 rcases Ak (knw t) with hk|hk
 ·rcases Ak (Dv t d) with hv|hv
  ·rw [if_pos hv]
   have hv':=hv
   rcases knw_cases hk with rfl|rfl|rfl|rfl|rfl|rfl|rfl|rfl|rfl|rfl|rfl|rfl|rfl|rfl
   ·simp [Dv,Cb] at hv'
    simp (disch:=omega) only [H1,Cw,Ev _ _ h,Ay1 d h,hk,hv,hv'.2.1,EVP,↓reduceIte,EV,Nat.reduceAdd,Nat.reduceEqDiff,Int.reduceToNat,reduceCtorEq]
    rfl
   ·simp (disch:=omega) only [H1,Cw,Ev _ _ h,Ej,hk,hv,EVP,↓reduceIte,EV,Nat.reduceAdd,Nat.reduceEqDiff,Int.reduceToNat,reduceCtorEq]
    rfl
   ·simp (disch:=omega) only [H1,Cw,Ev _ _ h,Ej,hk,hv,EVP,↓reduceIte,EV,Nat.reduceAdd,Nat.reduceEqDiff,Int.reduceToNat,reduceCtorEq]
    rfl
   ·simp [Dv,Cb,inB,F3] at hv'
    simp (disch:=first|omega|(simp only [Az,Db];omega)) only [H1,Cw,Ev _ _ h,Ej,Ev3,hk,hv,EVP,↓reduceIte,EV,Nat.reduceAdd,Nat.reduceEqDiff,Int.reduceToNat,reduceCtorEq]
    rfl
   ·simp (disch:=omega) only [H1,Cw,Ev _ _ h,Ej,hk,hv,EVP,↓reduceIte,EV,Nat.reduceAdd,Nat.reduceEqDiff,Int.reduceToNat,reduceCtorEq]
    rfl
   ·simp [Dv,Cb,inB,F3] at hv'
    simp (disch:=first|omega|(simp only [Az,Db];omega)) only [H1,Cw,Ev _ _ h,Ej,S3,hk,hv,EVP,↓reduceIte,EV,Nat.reduceAdd,Nat.reduceEqDiff,Int.reduceToNat,reduceCtorEq]
    rfl
   ·simp [Dv,Cb,inB,F3] at hv'
    simp (disch:=first|omega|(simp only [Az,Db];omega)) only [H1,Cw,Ev _ _ h,Ej,S4,hk,hv,EVP,↓reduceIte,EV,Nat.reduceAdd,Nat.reduceEqDiff,Int.reduceToNat,reduceCtorEq]
    rfl
   ·simp [Dv,Cb] at hv'
    have ha:Df d=true:=by simp [Df,hv'.2]
    simp (disch:=omega) only [H1,Cw,Ev _ _ h,Ay1 d h,hk,hv,ha,EVP,↓reduceIte,EV,Nat.reduceAdd,Nat.reduceEqDiff,Int.reduceToNat,reduceCtorEq]
    rfl
   ·simp [Dv,Cb,inB,F3] at hv'
    simp (disch:=first|omega|(simp only [Az,Db];omega)) only [H1,Cw,Ev _ _ h,Ej,S3,hk,hv,EVP,↓reduceIte,EV,Nat.reduceAdd,Nat.reduceEqDiff,Int.reduceToNat,reduceCtorEq]
    rfl
   ·simp (disch:=omega) only [H1,Cw,Ev _ _ h,Ej,hk,hv,EVP,↓reduceIte,EV,Nat.reduceAdd,Nat.reduceEqDiff,Int.reduceToNat,reduceCtorEq]
    rfl
   ·simp [Dv,Cb,inB,F3] at hv'
    simp (disch:=first|omega|(simp only [Az,Db];omega)) only [H1,Cw,Ev _ _ h,Ej,S4,S3,hk,hv,EVP,↓reduceIte,EV,Nat.reduceAdd,Nat.reduceEqDiff,Int.reduceToNat,reduceCtorEq]
    rfl
   ·simp [Dv,Cb,inB,F3] at hv'
    have k1:0≤d.a:=by have:=knw_cases hv'.2.1.1.1.1.1.1.1.1;omega
    have k2:=h.a.2
    simp (disch:=first|omega|(simp only [Az,Db];omega)) only [H1,Cw,Ev _ _ h,Ej,S4,S3,Ev3,hk,hv,EVP,↓reduceIte,EV,Nat.reduceAdd,Nat.reduceEqDiff,Int.reduceToNat,reduceCtorEq]
    rfl
   ·simp (disch:=first|omega|(simp only [Az,Db];omega)) only [H1,Cw,Ev _ _ h,Ej,Ds3,S4,hk,hv,EVP,↓reduceIte,EV,Nat.reduceAdd,Nat.reduceEqDiff,Int.reduceToNat,reduceCtorEq]
    rfl
   ·simp [Dv,Cb,inB,F3] at hv'
    simp (disch:=first|omega|(simp only [Az,Db];omega)) only [H1,Cw,Ev _ _ h,Ej,S4,S3,hk,hv,EVP,↓reduceIte,EV,Nat.reduceAdd,Nat.reduceEqDiff,Int.reduceToNat,reduceCtorEq]
    rfl
  ·simp (disch:=omega) only [H1,Cw,Ev _ _ h,hk,hv,EVP,↓reduceIte,EV,Nat.reduceAdd,Nat.reduceEqDiff,Int.reduceToNat,reduceCtorEq]
 ·have hv:Dv t d=false:=by simp [Dv,hk]
  simp (disch:=omega) only [H1,Cw,hk,hv,EVP,↓reduceIte,EV,Nat.reduceAdd,Nat.reduceEqDiff,Int.reduceToNat,reduceCtorEq]
def Cw2 (t:Int) (a b:Dat):Int:=
 if Dv t a && Dv t b then cmpS (H4 t a) (H4 t b) else if Dv t a then -1 else if Dv t b then 1 else 0
theorem m5 (t:Int) (a b:Dat) (ha:a.wf) (hb:b.wf):S bz 3 [.i .i64 t,a.pv,b.pv]=some [.i .i64 (Cw2 t a b)]:=by
 refine Id8 (N:=1) rfl ?_
 unfold Cw2 cmpS
 rcases Ak (Dv t a) with h1|h1<;>rcases Ak (Dv t b) with h2|h2
 ·simp (disch:=omega) only [Fx8,Qg _ _ ha,Qg _ _ hb,h1,h2,EVP,↓reduceIte,EV,Nat.reduceAdd,Nat.reduceEqDiff,Int.reduceToNat,reduceCtorEq]
  cases Op.bytesLess (H4 t a) (H4 t b)
  ·by_cases h3:H4 t a=H4 t b<;>simp [h3]
  ·simp
 all_goals rcases Ak (knw t) with h3|h3<;>simp (disch:=omega) [Fx8,Qg _ _ ha,Qg _ _ hb,h1,h2,h3,EVP,↓reduceIte,EV,Nat.reduceAdd,Nat.reduceEqDiff,Int.reduceToNat,reduceCtorEq]
end Go.X.G
/- Lists of records: what the reference's functions give. -/
namespace Go.X.G
open Go Go.X
def L6 (r:Rec):Bool:=vld r.name && knw r.typ && decide (0≤r.ttl) && decide (r.ttl≤2147483647) && Dv r.typ r.data
theorem d3 (r:Rec) (h:r.wf):S Bl4 1 [r.pv]=some [.b (L6 r)]:=by
 refine Jt3 (N:=1) rfl ?_
 have g:=h.name
 unfold L9 at g
 unfold L6
 by_cases h0:0≤r.ttl<;>by_cases h1:r.ttl≤2147483647
 all_goals rcases ch3 (vld r.name) (knw r.typ) (Dv r.typ r.data) with e0|⟨e0,e1⟩|⟨e0,e1,e2⟩|⟨e0,e1,e2⟩
 all_goals simp (disch:=omega) [Jg5,Fx,Cw,Ev _ _ h.data,EVP,↓reduceIte,EV,Nat.reduceAdd,Nat.reduceEqDiff,Int.reduceToNat,reduceCtorEq, *]
def dh (a b:Int):Int:=if a<b then -1 else if b<a then 1 else 0
theorem Af8 (a b:Int):S bc 2 [.i .i64 a, .i .i64 b]=some [.i .i64 (dh a b)]:=by
 refine Id9 (N:=1) rfl ?_
 unfold dh
 simp (disch:=omega) only [Ij9,EVP,↓reduceIte,EV,Nat.reduceAdd,Nat.reduceEqDiff,Int.reduceToNat,reduceCtorEq]
 grind
def Mr (a b:Rec):Int:=
 if Ig a.name b.name≠0 then Ig a.name b.name else if dh a.typ b.typ≠0 then dh a.typ b.typ else Cw2 a.typ a.data b.data
theorem dv (a b:Rec) (ha:a.wf) (hb:b.wf):S Ag6 2 [a.pv,b.pv]=some [.i .i64 (Mr a b)]:=by
 refine Jp8 (N:=1) rfl ?_
 have g1:=ha.name
 have g2:=hb.name
 unfold L9 at g1 g2
 unfold Mr
 simp (disch:=omega) only [Jf2,m6,Af8,m5 _ _ _ ha.data hb.data,EVP,↓reduceIte,EV,Nat.reduceAdd,Nat.reduceEqDiff,Int.reduceToNat,reduceCtorEq]
 by_cases h1:Ig a.name b.name=0<;>by_cases h2:dh a.typ b.typ=0<;>simp [h1,h2]
def isK (n:List UInt8) (t:Int) (r:Rec):Bool:=decide (r.name=n) && decide (r.typ=t)
def findR (l:List Rec) (n:List UInt8) (t:Int):List Rec:=l.filter (isK n t)
theorem L3 (l:List Rec) (n:List UInt8) (t:Int) (hl:l.length≤1000000):S iz 3 [Af l, .s n, .i .i64 t]=some [Af (findR l n t)]:=by
 refine Jt4 (N:=l.length+1) rfl ?_
 have key:Fd5.ev S (l.length+1) [Af l, .s n, .i .i64 t]=some (.yld 0 [Af ([]++findR l n t)]):=by
  refine F4 l (fun i (g:List Rec)=>[Af g, .i .i64 (i:Int)]) (fun i g r=> .yld 0 [Af (g++findR r n t)]) (fun i g=>g.length≤i) [] rfl (Cm _) (by omega) (fun i g c r hd hi hc hI=> ?_) (fun g hI=> ?_)
  ·left
   by_cases h:isK n t c=true
   ·refine ⟨g++[c],?_,by simp;omega,by simp [findR,h]⟩
    simp [isK] at h
    simp (disch:=omega) only [At0,hc,h.1,h.2,EVP,↓reduceIte,EV,Nat.reduceAdd,Nat.reduceEqDiff,Int.reduceToNat,reduceCtorEq]
   ·refine ⟨g,?_,by omega,by simp [findR,h]⟩
    simp [isK] at h
    by_cases h1:c.name=n
    ·simp (disch:=omega) only [At0,hc,h1,h h1,EVP,↓reduceIte,EV,Nat.reduceAdd,Nat.reduceEqDiff,Int.reduceToNat,reduceCtorEq]
    ·simp (disch:=omega) only [At0,hc,h1,EVP,↓reduceIte,EV,Nat.reduceAdd,Nat.reduceEqDiff,Int.reduceToNat,reduceCtorEq]
  ·simp (disch:=omega) only [At0,EVP,↓reduceIte,EV,Nat.reduceAdd,Nat.reduceEqDiff,Int.reduceToNat,reduceCtorEq]
   simp [findR,Out.goes]
 simp (disch:=omega) only [At0,key,EVP,↓reduceIte,EV,Nat.reduceAdd,Nat.reduceEqDiff,Int.reduceToNat,reduceCtorEq]
theorem Fw5 (l:List Rec) (n:List UInt8) (t:Int) (hl:l.length≤1000000):S Bh9 3 [Af l, .s n, .i .i64 t]=some [Af (findR l n t)]:=by
 refine Js4 (N:=l.length+1) rfl ?_
 have key:Fd2.ev S (l.length+1) [Af l, .s n, .i .i64 t]=some (.yld 0 [Af ([]++findR l n t)]):=by
  refine F4 l (fun i (g:List Rec)=>[Af g, .i .i64 (i:Int)]) (fun i g r=> .yld 0 [Af (g++findR r n t)]) (fun i g=>g.length≤i) [] rfl (Cm _) (by omega) (fun i g c r hd hi hc hI=> ?_) (fun g hI=> ?_)
  ·left
   by_cases h:isK n t c=true
   ·refine ⟨g++[c],?_,by simp;omega,by simp [findR,h]⟩
    simp [isK] at h
    simp (disch:=omega) only [As8,hc,h.1,h.2,EVP,↓reduceIte,EV,Nat.reduceAdd,Nat.reduceEqDiff,Int.reduceToNat,reduceCtorEq]
   ·refine ⟨g,?_,by omega,by simp [findR,h]⟩
    simp [isK] at h
    by_cases h1:c.name=n
    ·simp (disch:=omega) only [As8,hc,h1,h h1,EVP,↓reduceIte,EV,Nat.reduceAdd,Nat.reduceEqDiff,Int.reduceToNat,reduceCtorEq]
    ·by_cases h2:c.typ=t<;>simp (disch:=omega) only [As8,hc,h1,h2,EVP,↓reduceIte,EV,Nat.reduceAdd,Nat.reduceEqDiff,Int.reduceToNat,reduceCtorEq]
  ·simp (disch:=omega) only [As8,EVP,↓reduceIte,EV,Nat.reduceAdd,Nat.reduceEqDiff,Int.reduceToNat,reduceCtorEq]
   simp [findR,Out.goes]
 simp (disch:=omega) only [As8,key,EVP,↓reduceIte,EV,Nat.reduceAdd,Nat.reduceEqDiff,Int.reduceToNat,reduceCtorEq]
theorem Lx (a b:List Rec) (ha:a.length≤1000000):S Al3 2 [Af a,Af b]=some [.b (decide (a=b))]:=by
 refine Kk7 (N:=a.length+1) rfl ?_
 by_cases hl:a.length=b.length
 ·have key:Ff6.ev S (a.length+1) [Af a,Af b]=some (if a.drop 0=b.drop 0 then .yld 0 [] else .ret [.b false]):=by
   refine Dw a (fun i=>[.i .i64 (i:Int)]) (fun i r=>if r=b.drop i then .yld 0 [] else .ret [.b false]) rfl (by omega) (fun i c r hd hi hc=> ?_) ?_
   ·obtain ⟨y,r',hb,hd2,hd3⟩:∃y r',b[i]? =some y∧b.drop i=y::r'∧b.drop (i+1)=r':=⟨b[i]'(by omega),_,Ax (by omega),B0 (by omega),rfl⟩
    rw [hd2,hd3]
    by_cases h:c=y
    ·subst h
     left
     simp (disch:=omega) only [Ay6,hc,hb,EVP,↓reduceIte,EV,Nat.reduceAdd,Nat.reduceEqDiff,Int.reduceToNat,reduceCtorEq]
     simp
    ·right
     simp (disch:=omega) only [Ay6,hc,hb,h,EVP,↓reduceIte,EV,Nat.reduceAdd,Nat.reduceEqDiff,Int.reduceToNat,reduceCtorEq]
     simp [h,Out.goes]
   ·have hd2:b.drop a.length=[]:=Fv (by omega)
    rw [hd2]
    simp (disch:=omega) only [Ay6,EVP,↓reduceIte,EV,Nat.reduceAdd,Nat.reduceEqDiff,Int.reduceToNat,reduceCtorEq]
    simp [Out.goes]
  simp only [Dp] at key
  by_cases h:a=b
  ·rw [if_pos h] at key
   simp (disch:=omega) only [Ay6,key,EVP,↓reduceIte,EV,Nat.reduceAdd,Nat.reduceEqDiff,Int.reduceToNat,reduceCtorEq]
   try simp [h]
  ·rw [if_neg h] at key
   simp (disch:=omega) only [Ay6,key,EVP,↓reduceIte,EV,Nat.reduceAdd,Nat.reduceEqDiff,Int.reduceToNat,reduceCtorEq]
   try simp [h]
 ·have h:a≠b:=fun h=>hl (by rw [h])
  simp (disch:=omega) [Ay6,h,EVP,↓reduceIte,EV,Nat.reduceAdd,Nat.reduceEqDiff,Int.reduceToNat,reduceCtorEq]
def Sj (x:Rec):List Rec→List Rec
 |[]=>[x]
 |y::r=>if Mr y x<0 then y::Sj x r else if Mr y x=0 then (if x.ttl<y.ttl then x::r else y::r) else x::y::r
def sortR (l:List Rec):List Rec:=l.foldl (fun acc x=>Sj x acc) []
def J2 (x:Rec):List Rec→Nat
 |[]=>0
 |y::r=>if Mr y x<0 then J2 x r+1 else 0
theorem td (x:Rec):∀l,J2 x l≤l.length
 |[]=>Ac _
 |y::r=>by have:=td x r;simp only [J2];split<;>simp;omega
theorem Ck5 (x:Rec):∀(l:List Rec),Sj x l=match l[J2 x l]? with
  |some y=>if Mr y x=0 then (if x.ttl<y.ttl then l.set (J2 x l) x else l) else l.take (J2 x l)++[x]++l.drop (J2 x l)
  |none=>l.take (J2 x l)++[x]++l.drop (J2 x l)
 |[]=>rfl
 |y::r=>by
  simp only [Sj,J2]
  by_cases h:Mr y x<0
  ·simp only [if_pos h,Dz]
   rw [Ck5 x r]
   cases h2:r[J2 x r]? with
   |none=>simp
   |some z=>by_cases h3:Mr z x=0<;>by_cases h4:x.ttl<z.ttl<;>simp [h3,h4]
  ·simp only [if_neg h,Cj]
   by_cases h3:Mr y x=0<;>by_cases h4:x.ttl<y.ttl<;>simp [h3,h4]
theorem t7 (x:Rec):∀l,(Sj x l).length≤l.length+1
 |[]=>by simp [Sj]
 |y::r=>by
  have:=t7 x r
  simp only [Sj]
  split
  ·simp;omega
  ·split
   ·split<;>simp
   ·simp
theorem insR_mem (x:Rec):∀(l:List Rec) (y:Rec),y∈Sj x l→y=x∨y∈l
 |[],y,h=>by simp [Sj] at h;exact .inl h
 |z::r,y,h=>by
  simp only [Sj] at h
  split at h
  ·simp at h
   rcases h with h|h
   ·exact .inr (by simp [h])
   ·rcases insR_mem x r y h with h|h
    ·exact .inl h
    ·exact .inr (by simp [h])
  ·split at h
   ·split at h
    ·simp at h;rcases h with h|h
     ·exact .inl h
     ·exact .inr (by simp [h])
    ·exact .inr h
   ·simp at h;rcases h with h|h
    ·exact .inl h
    ·exact .inr (by simpa using h)
theorem Hr4 (l g:List Rec) (i:Nat) (x:Rec) (hx:l[i]? =some x) (hw:∀r∈l,r.wf) (hg:∀r∈g,r.wf) (N:Nat) (hN:g.length<N) (hl:g.length≤1000000):
  Br5.ev S N [Af l,Af g, .i .i64 (i:Int)]=some (.yld 2 [.i .i64 (J2 x g:Int)]):=by
 have key:Br5.ev S N [Af l,Af g, .i .i64 (i:Int)]=some (.yld 2 [.i .i64 ((0+J2 x g:Nat):Int)]):=by
  refine Dw g (fun k=>[.i .i64 (k:Int)]) (fun k r=> .yld 2 [.i .i64 ((k+J2 x r:Nat):Int)]) rfl hN (fun k c r hd hk hc=> ?_) ?_
  ·have h1:=dv c x (hg c (As hc)) (hw x (As hx))
   by_cases h:Mr c x<0
   ·left
    simp (disch:=omega) only [V2,hc,hx,h1,h,EVP,↓reduceIte,EV,Nat.reduceAdd,Nat.reduceEqDiff,Int.reduceToNat,reduceCtorEq]
    refine ⟨trivial,?_⟩
    simp only [J2,if_pos h]
    congr 3;push_cast;omega
   ·right
    simp (disch:=omega) only [V2,hc,hx,h1,EVP,↓reduceIte,EV,Nat.reduceAdd,Nat.reduceEqDiff,Int.reduceToNat,reduceCtorEq]
    simp [J2,h,Out.goes]
  ·simp (disch:=omega) only [V2,EVP,↓reduceIte,EV,Nat.reduceAdd,Nat.reduceEqDiff,Int.reduceToNat,reduceCtorEq]
   simp [J2,Out.goes]
 simpa using key
theorem Hr5 (l:List Rec) (hw:∀r∈l,r.wf) (N:Nat) (hN:l.length<N) (hl:l.length≤1000000):
  Ff0.ev S N [Af l]=some (.yld 0 [Af (sortR l)]):=by
 refine F4 l (fun i (g:List Rec)=>[Af g, .i .i64 (i:Int)]) (fun i g r=> .yld 0 [Af (r.foldl (fun acc x=>Sj x acc) g)]) (fun i g=>g.length≤i∧∀r∈g,r.wf) [] rfl ⟨Ac _,fun r h=>by cases h⟩ hN (fun i g c r hd hi hc hI=> ?_) (fun g hI=> ?_)
 ·left
  obtain ⟨h1,h2⟩:=hI
  have hcw:=hw c (As hc)
  have h3:=Hr4 l g i c hc hw h2 N (by omega) (by omega)
  have h4:=td c g
  have h5:=t7 c g
  refine ⟨Sj c g,?_,⟨by omega,fun r hr=> ?_⟩,rfl⟩
  ·rw [Ck5]
   cases h6:g[J2 c g]? with
   |none=>
    have h7:=List.getElem?_eq_none_iff.1 h6
    have h8:J2 c g=g.length:=by omega
    simp (disch:=first|omega|(simp;omega)) only [V2,hc,h3,h8,EVP,↓reduceIte,EV,Nat.reduceAdd,Nat.reduceEqDiff,Int.reduceToNat,reduceCtorEq]
    simp
   |some y=>
    have h7:=(Aq.1 h6).1
    have h8:=dv y c (h2 y (As h6)) hcw
    by_cases h9:Mr y c=0
    ·by_cases h10:c.ttl<y.ttl
     ·simp (disch:=omega) only [V2,hc,h3,h6,h8,h9,h10,EVP,↓reduceIte,EV,Nat.reduceAdd,Nat.reduceEqDiff,Int.reduceToNat,reduceCtorEq]
     ·simp (disch:=omega) only [V2,hc,h3,h6,h8,h9,h10,EVP,↓reduceIte,EV,Nat.reduceAdd,Nat.reduceEqDiff,Int.reduceToNat,reduceCtorEq]
    ·simp (disch:=first|omega|(simp;omega)) only [V2,hc,h3,h6,h8,h9,EVP,↓reduceIte,EV,Nat.reduceAdd,Nat.reduceEqDiff,Int.reduceToNat,reduceCtorEq]
     simp
  ·rcases insR_mem c g r hr with h|h
   ·subst h;exact hcw
   ·exact h2 r h
 ·simp (disch:=omega) only [V2,EVP,↓reduceIte,EV,Nat.reduceAdd,Nat.reduceEqDiff,Int.reduceToNat,reduceCtorEq]
  simp [Out.goes]
theorem Oj (l:List Rec) (hw:∀r∈l,r.wf) (hl:l.length≤1000000):S Ah7 1 [Af l]=some [Af (sortR l)]:=by
 refine Kj5 (N:=l.length+1) rfl ?_
 simp (disch:=omega) only [V2,Hr5 l hw,EVP,↓reduceIte,EV,Nat.reduceAdd,Nat.reduceEqDiff,Int.reduceToNat,reduceCtorEq]
end Go.X.G
/- Zones: what the reference's check gives. -/
namespace Go.X.G
open Go Go.X
def Dr (n top:List UInt8):Bool:=decide (n≠top) && under n top
theorem L0 (n top:List UInt8) (hn:n.length≤9223372036854775807) (ht:top.length≤9223372036854775807):S Z3 2 [.s n, .s top]=some [.b (Dr n top)]:=by
 refine Js3 (N:=1) rfl ?_
 unfold Dr
 by_cases h:n=top
 ·simp (disch:=omega) only [Hs7,N9,h,EVP,↓reduceIte,EV,Nat.reduceAdd,Nat.reduceEqDiff,Int.reduceToNat,reduceCtorEq]
  simp
 ·simp (disch:=omega) only [Hs7,N9,h,EVP,↓reduceIte,EV,Nat.reduceAdd,Nat.reduceEqDiff,Int.reduceToNat,reduceCtorEq]
  simp
def S8 (l:List Rec) (n:List UInt8) (t:Int):Bool:=decide (0<(findR l n t).length)
theorem N2 (l:List Rec) (n:List UInt8) (t:Int) (hl:l.length≤1000000):S Ah6 3 [Af l, .s n, .i .i64 t]=some [.b (S8 l n t)]:=by
 refine Jt2 (N:=1) rfl ?_
 unfold S8
 simp (disch:=omega) only [Jg4,L3,EVP,↓reduceIte,EV,Nat.reduceAdd,Nat.reduceEqDiff,Int.reduceToNat,reduceCtorEq]
 simp
def G1 (r x:Rec):Bool:=
 !decide (x.name=r.name)||(!(decide (x.typ=r.typ) && decide (r.typ≠46) && decide (x.ttl≠r.ttl)) && !(decide (x.typ=r.typ) && (decide (r.typ=6)||decide (r.typ=5)||decide (r.typ=39)) && decide (x≠r)) &&
  !(decide (r.typ=5) && decide (x.typ≠5) && decide (x.typ≠46) && decide (x.typ≠47)))
def K9 (z:Zone) (r:Rec):Bool:=z.recs.all (G1 r)
theorem Dt0 (z:Zone) (r:Rec) (N:Nat) (hN:z.recs.length<N) (hz:z.recs.length≤1000000):
  Fd4.ev S N [z.pv,r.pv]=some (if K9 z r=true then .yld 0 [] else .ret [.b false]):=by
 refine Dw z.recs (fun i=>[.i .i64 (i:Int)]) (fun i l=>if l.all (G1 r)=true then .yld 0 [] else .ret [.b false]) rfl hN (fun i c l hd hi hc=> ?_) ?_
 ·have key:Ej5.ev S N ([z.pv,r.pv]++[.i .i64 (i:Int)])=some (if G1 r c=true then .yld 1 [.i .i64 ((i:Int)+1)] else .ret [.b false]):=by
   by_cases h1:c.name=r.name
   ·by_cases h2:c.typ=r.typ
    ·simp (disch:=omega) only [As9,d6,hc,h1,h2,EVP,↓reduceIte,EV,Nat.reduceAdd,Nat.reduceEqDiff,Int.reduceToNat,reduceCtorEq]
     simp only [G1,h1,h2]
     grind
    ·simp (disch:=omega) only [As9,d6,hc,h1,h2,EVP,↓reduceIte,EV,Nat.reduceAdd,Nat.reduceEqDiff,Int.reduceToNat,reduceCtorEq]
     simp only [G1,h1,h2]
     grind
   ·simp (disch:=omega) only [As9,hc,h1,EVP,↓reduceIte,EV,Nat.reduceAdd,Nat.reduceEqDiff,Int.reduceToNat,reduceCtorEq]
    simp [G1,h1]
  rw [key]
  rcases Ak (G1 r c) with h|h<;>simp [h,Out.goes]
 ·simp (disch:=omega) [As9,EVP,↓reduceIte,EV,Nat.reduceAdd,Nat.reduceEqDiff,Int.reduceToNat,reduceCtorEq,Out.goes]
theorem Ds9 (z:Zone) (r:Rec) (hz:z.recs.length≤1000000):S Bl3 2 [z.pv,r.pv]=some [.b (K9 z r)]:=by
 refine Jt0 (N:=z.recs.length+1) rfl ?_
 simp (disch:=omega) only [As9,Dt0,EVP,↓reduceIte,EV,Nat.reduceAdd,Nat.reduceEqDiff,Int.reduceToNat,reduceCtorEq]
 cases K9 z r<;>simp
def Fb (z:Zone) (r x:Rec):Bool:=
 !(decide (x.typ=39) && Dr r.name x.name) && !(decide (x.typ=2) && Dr x.name z.origin && Dr r.name x.name && decide (r.typ≠1) && decide (r.typ≠28))
def Ot (t:Int):Bool:=decide (t=2)||decide (t=43)||decide (t=47)||decide (t=46)||decide (t=1)||decide (t=28)
def Ml (z:Zone) (r:Rec):Bool:=
 if (lbl r.name)[0]? =some [42]∧(r.typ=2∨r.typ=39) then false
 else z.recs.all (Fb z r) && (if Dr r.name z.origin && S8 z.recs r.name 2 then Ot r.typ else decide (r.typ≠43))
theorem Rv (z:Zone) (r:Rec) (hz:z.wf) (hr:r.wf) (p:PV) (N:Nat) (hN:z.recs.length<N) (hl:z.recs.length≤1000000):
  Fd3.ev S N [z.pv,r.pv,p]=some (if z.recs.all (Fb z r)=true then .yld 0 [] else .ret [.b false]):=by
 have g1:=hz.origin
 have g2:=hr.name
 unfold L9 at g1 g2
 refine Dw z.recs (fun i=>[.i .i64 (i:Int)]) (fun i l=>if l.all (Fb z r)=true then .yld 0 [] else .ret [.b false]) rfl hN (fun i c l hd hi hc=> ?_) ?_
 ·have g3:=(hz.recs.2 c (As hc)).name
  unfold L9 at g3
  have key:Ej4.ev S N ([z.pv,r.pv,p]++[.i .i64 (i:Int)])=some (if Fb z r c=true then .yld 1 [.i .i64 ((i:Int)+1)] else .ret [.b false]):=by
   by_cases h1:c.typ=39
   ·have h2:c.typ≠2:=by omega
    rcases Ak (Dr r.name c.name) with h3|h3<;>simp (disch:=omega) only [Vt,L0,hc,h1,h3,EVP,↓reduceIte,EV,Nat.reduceAdd,Nat.reduceEqDiff,Int.reduceToNat,reduceCtorEq]<;>simp [Fb,h1,h3]
   ·by_cases h2:c.typ=2
    ·rcases Ak (Dr r.name c.name) with h3|h3<;>rcases Ak (Dr c.name z.origin) with h4|h4<;>simp (disch:=omega) only [Vt,L0,hc,h2,h3,h4,EVP,↓reduceIte,EV,Nat.reduceAdd,Nat.reduceEqDiff,Int.reduceToNat,reduceCtorEq]<;>simp [Fb,h2,h3,h4]
     by_cases h5:r.typ=1<;>by_cases h6:r.typ=28<;>simp [h5,h6]
    ·simp (disch:=omega) only [Vt,hc,h1,h2,EVP,↓reduceIte,EV,Nat.reduceAdd,Nat.reduceEqDiff,Int.reduceToNat,reduceCtorEq]
     simp [Fb,h1,h2]
  rw [key]
  rcases Ak (Fb z r c) with h|h<;>simp [h,Out.goes]
 ·simp (disch:=omega) [Vt,EVP,↓reduceIte,EV,Nat.reduceAdd,Nat.reduceEqDiff,Int.reduceToNat,reduceCtorEq,Out.goes]
theorem Bf3 (z:Zone) (r:Rec) (hz:z.wf) (hr:r.wf) (hl:z.recs.length≤1000000):S Bl2 2 [z.pv,r.pv]=some [.b (Ml z r)]:=by
 refine Js9 (N:=z.recs.length+1) rfl ?_
 have g1:=hz.origin
 have g2:=hr.name
 unfold L9 at g1 g2
 have g3:=Gs r.name
 have tail:T.ev S (z.recs.length+1) kr [z.pv,r.pv,Bv (lbl r.name)]=some (.ret [.b (z.recs.all (Fb z r) && (if Dr r.name z.origin && S8 z.recs r.name 2 then Ot r.typ else decide (r.typ≠43)))]):=by
  rcases Ak (z.recs.all (Fb z r)) with h0|h0
  ·rcases Ak (Dr r.name z.origin) with h1|h1<;>rcases Ak (S8 z.recs r.name 2) with h2|h2
   ·simp (disch:=omega) only [Vt,Rv z r hz hr,L0,N2,h0,h1,h2,EVP,↓reduceIte,EV,Nat.reduceAdd,Nat.reduceEqDiff,Int.reduceToNat,reduceCtorEq]
    simp only [Ot]
    grind
   all_goals simp (disch:=omega) only [Vt,Rv z r hz hr,L0,N2,h0,h1,h2,EVP,↓reduceIte,EV,Nat.reduceAdd,Nat.reduceEqDiff,Int.reduceToNat,reduceCtorEq]
   all_goals simp
  ·simp (disch:=omega) only [Vt,Rv z r hz hr,h0,EVP,↓reduceIte,EV,Nat.reduceAdd,Nat.reduceEqDiff,Int.reduceToNat,reduceCtorEq]
   simp
 unfold Ml
 cases h:lbl r.name with
 |nil=>
  rw [h] at tail
  simp (disch:=first|omega|(simp;omega)) only [↓tail,Vt,Pq,h,EVP,↓reduceIte,EV,Nat.reduceAdd,Nat.reduceEqDiff,Int.reduceToNat,reduceCtorEq]
  simp
 |cons a l=>
  rw [h] at tail
  have g4:0<((a::l).length:Int):=by simp only [A0];omega
  by_cases h1:a=[42]<;>by_cases h2:r.typ=2<;>by_cases h3:r.typ=39
  all_goals first|omega|skip
  all_goals try subst h1
  all_goals simp (disch:=first|omega|(simp;omega)) only [↓tail,Vt,Pq,h,h2,h3,EVP,↓reduceIte,EV,Nat.reduceAdd,Nat.reduceEqDiff,Int.reduceToNat,reduceCtorEq]
  all_goals simp [h2,h3, *]
def Ky (z:Zone) (r:Rec):Bool:=under r.name z.origin && !(decide (r.typ=6) && decide (r.name≠z.origin)) && K9 z r && Ml z r
def checkZ (z:Zone):Int:=
 if vld z.origin=false then 2
 else if 2048<z.recs.length then 9
 else if z.recs.all (fun r=>decide ((findR z.recs r.name r.typ).length≤64))=false then 9
 else if z.recs.all L6=false then 5
 else if z.recs≠sortR z.recs then 7
 else if (findR z.recs z.origin 6).length≠1∨S8 z.recs z.origin 2=false then 13
 else if z.recs.all (Ky z)=false then 13
 else 0
theorem L4 (z:Zone) (N:Nat) (hN:z.recs.length<N) (hl:z.recs.length≤1000000) (p:PV):
  Ff7.ev S N [z.pv,p]=some (if z.recs.all (fun r=>decide ((findR z.recs r.name r.typ).length≤64))=true then .yld 0 [] else .ret [.i .i64 9]):=by
 refine Dw z.recs (fun i=>[.i .i64 (i:Int)]) (fun i l=>if l.all (fun r=>decide ((findR z.recs r.name r.typ).length≤64))=true then .yld 0 [] else .ret [.i .i64 9]) rfl hN (fun i c l hd hi hc=> ?_) ?_
 ·by_cases h:(findR z.recs c.name c.typ).length≤64
  ·left
   simp (disch:=omega) only [Kc,L3,hc,EVP,↓reduceIte,EV,Nat.reduceAdd,Nat.reduceEqDiff,Int.reduceToNat,reduceCtorEq]
   simp [h]
  ·right
   simp (disch:=omega) only [Kc,L3,hc,EVP,↓reduceIte,EV,Nat.reduceAdd,Nat.reduceEqDiff,Int.reduceToNat,reduceCtorEq]
   simp [h,Out.goes]
 ·simp (disch:=omega) [Kc,EVP,↓reduceIte,EV,Nat.reduceAdd,Nat.reduceEqDiff,Int.reduceToNat,reduceCtorEq,Out.goes]
theorem Ow (z:Zone) (hz:z.wf) (N:Nat) (hN:z.recs.length<N) (hl:z.recs.length≤1000000) (p:PV):
  Fc4.ev S N [z.pv,p]=some (if z.recs.all L6=true then .yld 0 [] else .ret [.i .i64 5]):=by
 refine Dw z.recs (fun i=>[.i .i64 (i:Int)]) (fun i l=>if l.all L6=true then .yld 0 [] else .ret [.i .i64 5]) rfl hN (fun i c l hd hi hc=> ?_) ?_
 ·have hw:=hz.recs.2 c (As hc)
  rcases Ak (L6 c) with h|h
  ·left
   simp (disch:=omega) only [Kc,d3 c hw,hc,h,EVP,↓reduceIte,EV,Nat.reduceAdd,Nat.reduceEqDiff,Int.reduceToNat,reduceCtorEq]
   simp [h]
  ·right
   simp (disch:=omega) only [Kc,d3 c hw,hc,h,EVP,↓reduceIte,EV,Nat.reduceAdd,Nat.reduceEqDiff,Int.reduceToNat,reduceCtorEq]
   simp [h,Out.goes]
 ·simp (disch:=omega) [Kc,EVP,↓reduceIte,EV,Nat.reduceAdd,Nat.reduceEqDiff,Int.reduceToNat,reduceCtorEq,Out.goes]
theorem Fw6 (z:Zone) (hz:z.wf) (N:Nat) (hN:z.recs.length<N) (hl:z.recs.length≤1000000) (p1 p2 p3 p4 p5:PV):
  Fc0.ev S N [z.pv,p1,p2,p3,p4,p5]=some (if z.recs.all (Ky z)=true then .yld 0 [] else .ret [.i .i64 13]):=by
 have g1:=hz.origin
 unfold L9 at g1
 refine Dw z.recs (fun i=>[.i .i64 (i:Int)]) (fun i l=>if l.all (Ky z)=true then .yld 0 [] else .ret [.i .i64 13]) rfl hN (fun i c l hd hi hc=> ?_) ?_
 ·have hw:=hz.recs.2 c (As hc)
  have g2:=hw.name
  unfold L9 at g2
  have key:Dt1.ev S N ([z.pv,p1,p2,p3,p4,p5]++[.i .i64 (i:Int)])=some (if Ky z c=true then .yld 1 [.i .i64 ((i:Int)+1)] else .ret [.i .i64 13]):=by
   rcases Ak (under c.name z.origin) with h1|h1
   ·by_cases h2:c.typ=6<;>by_cases h3:c.name=z.origin
    all_goals try rw [h3] at h1 g2
    all_goals rcases ch2 (K9 z c) (Ml z c) with e0|⟨e0,e1⟩|⟨e0,e1⟩
    all_goals simp (disch:=omega) only [Kc,N9,Ds9,Bf3 z c hz hw,hc,h1,h2,h3,EVP,↓reduceIte,EV,Nat.reduceAdd,Nat.reduceEqDiff,Int.reduceToNat,reduceCtorEq, *]
    all_goals simp [Ky,h1,h2,h3, *]
   ·simp (disch:=omega) only [Kc,N9,hc,h1,EVP,↓reduceIte,EV,Nat.reduceAdd,Nat.reduceEqDiff,Int.reduceToNat,reduceCtorEq]
    simp [Ky,h1]
  rw [key]
  rcases Ak (Ky z c) with h|h<;>simp [h,Out.goes]
 ·simp (disch:=omega) [Kc,EVP,↓reduceIte,EV,Nat.reduceAdd,Nat.reduceEqDiff,Int.reduceToNat,reduceCtorEq,Out.goes]
theorem Vb (z:Zone) (hz:z.wf):S Al4 1 [z.pv]=some [.i .i64 (checkZ z)]:=by
 refine Kq2 (N:=z.recs.length+1) rfl ?_
 have g1:=hz.origin
 unfold L9 at g1
 unfold checkZ
 rcases Ak (vld z.origin) with h1|h1
 ·by_cases h2:2048<z.recs.length
  ·simp (disch:=omega) only [Kc,Fx,h1,h2,EVP,↓reduceIte,EV,Nat.reduceAdd,Nat.reduceEqDiff,Int.reduceToNat,reduceCtorEq]
  ·rcases Ak (z.recs.all (fun r=>decide ((findR z.recs r.name r.typ).length≤64))) with h3|h3
   ·rcases Ak (z.recs.all L6) with h4|h4
    ·by_cases h5:z.recs=sortR z.recs
     ·by_cases h6:(findR z.recs z.origin 6).length=1
      ·rcases Ak (S8 z.recs z.origin 2) with h7|h7
       ·rcases Ak (z.recs.all (Ky z)) with h8|h8<;>simp (disch:=omega) only [Kc,Fx,L4,Ow z hz,Fw6 z hz,Oj _ hz.recs.2,Lx,L3,N2,h1,h2,h3,h4,←h5,h6,h7,h8,EVP,↓reduceIte,EV,Nat.reduceAdd,Nat.reduceEqDiff,Int.reduceToNat,reduceCtorEq]<;>simp
       ·simp (disch:=omega) only [Kc,Fx,L4,Ow z hz,Oj _ hz.recs.2,Lx,L3,N2,h1,h2,h3,h4,←h5,h6,h7,EVP,↓reduceIte,EV,Nat.reduceAdd,Nat.reduceEqDiff,Int.reduceToNat,reduceCtorEq]
        simp
      ·simp (disch:=omega) only [Kc,Fx,L4,Ow z hz,Oj _ hz.recs.2,Lx,L3,N2,h1,h2,h3,h4,←h5,h6,EVP,↓reduceIte,EV,Nat.reduceAdd,Nat.reduceEqDiff,Int.reduceToNat,reduceCtorEq]
       simp
     ·simp (disch:=omega) only [Kc,Fx,L4,Ow z hz,Oj _ hz.recs.2,Lx,h1,h2,h3,h4,h5,EVP,↓reduceIte,EV,Nat.reduceAdd,Nat.reduceEqDiff,Int.reduceToNat,reduceCtorEq]
    ·simp (disch:=omega) only [Kc,Fx,L4,Ow z hz,h1,h2,h3,h4,EVP,↓reduceIte,EV,Nat.reduceAdd,Nat.reduceEqDiff,Int.reduceToNat,reduceCtorEq]
   ·simp (disch:=omega) only [Kc,Fx,L4,h1,h2,h3,EVP,↓reduceIte,EV,Nat.reduceAdd,Nat.reduceEqDiff,Int.reduceToNat,reduceCtorEq]
 ·simp (disch:=omega) only [Kc,Fx,h1,EVP,↓reduceIte,EV,Nat.reduceAdd,Nat.reduceEqDiff,Int.reduceToNat,reduceCtorEq]
end Go.X.G
/- The order of records; what a checked zone is like. -/
namespace Go.X.G
open Go Go.X
theorem TO.prod {α β:Type} {l1:α→α→Prop} {l2:β→β→Prop} (h1:TO l1) (h2:TO l2):TO (fun p q:α×β=>l1 p.1 q.1∨(p.1=q.1∧l2 p.2 q.2)) where
 irr:=fun p h=>by
  rcases h with h|⟨_,h⟩
  ·exact h1.irr _ h
  ·exact h2.irr _ h
 tr:=fun p q r a b=>by
  rcases a with a|⟨a,a'⟩<;>rcases b with b|⟨b,b'⟩
  ·exact .inl (h1.tr _ _ _ a b)
  ·exact .inl (b▸a)
  ·exact .inl (a▸b)
  ·exact .inr ⟨a.trans b,h2.tr _ _ _ a' b'⟩
 tri:=fun p q=>by
  rcases h1.tri p.1 q.1 with a|a|a
  ·exact .inl (.inl a)
  ·rcases h2.tri p.2 q.2 with b|b|b
   ·exact .inl (.inr ⟨a,b⟩)
   ·exact .inr (.inl (Prod.ext a b))
   ·exact .inr (.inr (.inr ⟨a.symm,b⟩))
  ·exact .inr (.inr (.inl a))
theorem Iv4:TO (fun a b:Int=>a<b):=⟨fun a h=>by omega,fun a b c h1 h2=>by omega,fun a b=>by omega⟩
theorem Xd (a b:Int):dh a b<0↔a<b:=by unfold dh;split<;>(try split)<;>omega
theorem Hl (a b:Int):dh a b=0↔a=b:=by unfold dh;split<;>(try split)<;>omega
abbrev Key:=List UInt8×Int×List UInt8
abbrev ltK:Key→Key→Prop:=fun p q=>ltN p.1 q.1∨(p.1=q.1∧(p.2.1<q.2.1∨(p.2.1=q.2.1∧ltB p.2.2 q.2.2)))
theorem to_K:TO ltK:=to_N.prod (Iv4.prod Ew5)
def Ew6 (r:Rec):Key:=(r.name,r.typ,H4 r.typ r.data)
abbrev ltR (a b:Rec):Prop:=ltK (Ew6 a) (Ew6 b)
theorem Nj {r:Rec} (h:L6 r=true):Dv r.typ r.data=true:=by
 unfold L6 at h
 simp only [Av] at h
 exact h.2
theorem Yh {r:Rec} (h:L6 r=true):vld r.name=true:=by
 unfold L6 at h
 simp only [Av] at h
 exact h.1.1.1.1
theorem Fg6 {t:Int} {a b:Dat} (ha:Dv t a=true) (hb:Dv t b=true):Cw2 t a b=cmpS (H4 t a) (H4 t b):=by
 unfold Cw2;rw [ha,hb];rfl
theorem u6 {a b:Rec} (ha:L6 a=true) (hb:L6 b=true):Mr a b<0↔ltR a b:=by
 unfold Mr ltR ltK Ew6
 simp only
 by_cases h1:Ig a.name b.name=0
 ·rw [if_neg (by simp [h1])]
  have e1:=Hh.1 h1
  have n1:¬ltN a.name b.name:=by rw [e1];exact to_N.irr _
  by_cases h2:dh a.typ b.typ=0
  ·rw [if_neg (by simp [h2])]
   have e2:=(Hl _ _).1 h2
   have ha':=Nj ha
   have hb':=Nj hb
   rw [e2] at ha' ⊢
   rw [Fg6 ha' hb',Qf]
   constructor
   ·intro h;exact .inr ⟨e1, .inr ⟨rfl,h⟩⟩
   ·rintro (h|⟨_,h|⟨_,h⟩⟩)
    ·exact absurd h n1
    ·omega
    ·exact h
  ·rw [if_pos h2,Xd]
   have e2:a.typ≠b.typ:=fun e=>h2 ((Hl _ _).2 e)
   constructor
   ·intro h;exact .inr ⟨e1, .inl h⟩
   ·rintro (h|⟨_,h|⟨h,_⟩⟩)
    ·exact absurd h n1
    ·exact h
    ·exact absurd h e2
 ·rw [if_pos h1,Er]
  have e1:a.name≠b.name:=fun e=>h1 (Hh.2 e)
  constructor
  ·intro h;exact .inl h
  ·rintro (h|⟨h,_⟩)
   ·exact h
   ·exact absurd h e1
theorem dl {a b:Rec} (ha:L6 a=true) (hb:L6 b=true):Mr a b=0↔Ew6 a=Ew6 b:=by
 unfold Mr Ew6
 by_cases h1:Ig a.name b.name=0
 ·rw [if_neg (by simp [h1])]
  have e1:=Hh.1 h1
  by_cases h2:dh a.typ b.typ=0
  ·rw [if_neg (by simp [h2])]
   have e2:=(Hl _ _).1 h2
   have ha':=Nj ha
   have hb':=Nj hb
   rw [e2] at ha' ⊢
   rw [Fg6 ha' hb',If]
   simp [e1]
  ·rw [if_pos h2]
   have e2:a.typ≠b.typ:=fun e=>h2 ((Hl _ _).2 e)
   constructor
   ·intro h;exact absurd h h2
   ·intro h;injection h with _ h;injection h with h _;exact absurd h e2
 ·rw [if_pos h1]
  have e1:a.name≠b.name:=fun e=>h1 (Hh.2 e)
  constructor
  ·intro h;exact absurd h h1
  ·intro h;injection h with h _;exact absurd h e1
theorem R9 {x:Rec} (hx:L6 x=true):∀(l:List Rec),(∀r∈l,L6 r=true)→l.Pairwise ltR→(Sj x l).Pairwise ltR
 |[],_,_=>by simp [Sj]
 |y::r,hv,h=>by
  obtain ⟨h1,h2⟩:=Ar.1 h
  have hy:=hv y (.head _)
  have ih:=R9 hx r (fun w hw=>hv w (.tail _ hw)) h2
  simp only [Sj]
  by_cases c:Mr y x<0
  ·rw [if_pos c]
   refine Ar.2 ⟨fun w hw=> ?_,ih⟩
   rcases insR_mem x r w hw with rfl|hw
   ·exact (u6 hy hx).1 c
   ·exact h1 w hw
  ·rw [if_neg c]
   by_cases e:Mr y x=0
   ·rw [if_pos e]
    split
    ·have ke:=(dl hy hx).1 e
     refine Ar.2 ⟨fun w hw=> ?_,h2⟩
     have:=h1 w hw
     show ltK (Ew6 x) (Ew6 w)
     rw [←ke];exact this
    ·exact h
   ·rw [if_neg e]
    have hxy:ltR x y:=by
     rcases to_K.tri (Ew6 x) (Ew6 y) with q|q|q
     ·exact q
     ·exact absurd ((dl hy hx).2 q.symm) e
     ·exact absurd ((u6 hy hx).2 q) c
    refine Ar.2 ⟨fun w hw=> ?_,h⟩
    rcases Ah.1 hw with rfl|hw
    ·exact hxy
    ·exact to_K.tr _ _ _ hxy (h1 w hw)
theorem Y9 (l:List Rec) (hv:∀r∈l,L6 r=true):(sortR l).Pairwise ltR∧∀r∈sortR l,r∈l:=by
 have:∀(l a:List Rec),(∀r∈l,L6 r=true)→(∀r∈a,L6 r=true)→a.Pairwise ltR→(l.foldl (fun acc x=>Sj x acc) a).Pairwise ltR∧∀r∈l.foldl (fun acc x=>Sj x acc) a,r∈a∨r∈l:=by
  intro l
  induction l with
  |nil=>intro a _ _ h;exact ⟨h,fun r hr=> .inl hr⟩
  |cons x r ih=>
   intro a h1 h2 h3
   have hx:=h1 x (.head _)
   obtain ⟨g1,g2⟩:=ih (Sj x a) (fun w hw=>h1 w (.tail _ hw)) (fun w hw=>by
    rcases insR_mem x a w hw with rfl|hw
    ·exact hx
    ·exact h2 w hw) (R9 hx a h2 h3)
   refine ⟨g1,fun w hw=> ?_⟩
   rcases g2 w hw with hw|hw
   ·rcases insR_mem x a w hw with rfl|hw
    ·exact .inr (.head _)
    ·exact .inl hw
   ·exact .inr (.tail _ hw)
 obtain ⟨h1,h2⟩:=this l [] hv (fun r hr=>by cases hr) .nil
 exact ⟨h1,fun r hr=>(h2 r hr).resolve_left (by simp)⟩
structure ZOk (z:Zone):Prop where
 origin:vld z.origin=true
 small:z.recs.length≤2048
 valid:∀r∈z.recs,L6 r=true
 rising:z.recs.Pairwise ltR
 soa:(findR z.recs z.origin 6).length=1
 ns:S8 z.recs z.origin 2=true
 recs:∀r∈z.recs,Ky z r=true
theorem ZOk.beside {z:Zone} (h:ZOk z) {r x:Rec} (hr:r∈z.recs) (hx:x∈z.recs):G1 r x=true:=by
 have:=h.recs r hr
 unfold Ky at this
 simp only [Av] at this
 have h2:=this.1.2
 unfold K9 at h2
 exact By.1 h2 x hx
theorem ZOk.under {z:Zone} (h:ZOk z) {r:Rec} (hr:r∈z.recs):under r.name z.origin=true:=by
 have:=h.recs r hr
 unfold Ky at this
 simp only [Av] at this
 exact this.1.1.1
theorem ZOk.single {z:Zone} (h:ZOk z) (n:List UInt8) (t:Int) (ht:t=6∨t=5∨t=39):(findR z.recs n t).length≤1:=by
 have hp:(findR z.recs n t).Pairwise ltR:=h.rising.filter _
 have hm:∀x∈findR z.recs n t,x∈z.recs∧x.name=n∧x.typ=t:=fun x hx=>by
  obtain ⟨h1,h2⟩:=Bs.1 hx
  simp only [isK,Av,decide_eq_true_eq] at h2
  exact ⟨h1,h2.1,h2.2⟩
 generalize findR z.recs n t=l at*
 match l,hp,hm with
 |[],_,_=>simp
 |[_],_,_=>simp
 |a::b::r,hp,hm=>
  exfalso
  have hab:ltR a b:=(Ar.1 hp).1 b (.head _)
  obtain ⟨a1,a2,a3⟩:=hm a (.head _)
  obtain ⟨b1,b2,b3⟩:=hm b (.tail _ (.head _))
  have hb:=h.beside a1 b1
  have e:b=a:=by
   unfold G1 at hb
   rw [a2,a3,b2,b3] at hb
   have ht':(decide (t=6)||decide (t=5)||decide (t=39))=true:=by rcases ht with h|h|h<;>simp [h]
   rw [ht'] at hb
   simp only [decide_true,J8,J9,Oz,Bool.true_and,Av,A9,decide_eq_false_iff_not,ne_eq,M3] at hb
   exact hb.1.2
  rw [e] at hab
  exact to_K.irr _ hab
end Go.X.G
/- Sorted lists of names, each once. -/
namespace Go.X.G
open Go Go.X
def P4 {α:Type} (e:α→α→Bool):α→List α→List α
 |_,[]=>[]
 |p,c::r=>if e c p=true then P4 e c r else c::P4 e c r
def cpt {α:Type} (e:α→α→Bool):List α→List α
 |[]=>[]
 |x::r=>x::P4 e x r
theorem df {α:Type} (e:α→α→Bool) (c:α):∀(r:List α) (p:α),P4 e p (r++[c])=P4 e p r++(if e c ((p::r).getLast (by simp))=true then [] else [c])
 |[],p=>by
  simp only [Cd,P4,List.getLast_singleton]
  rfl
 |x::r,p=>by
  have ih:=df e c r x
  simp only [B3,P4,List.getLast_cons_cons]
  split
  ·exact ih
  ·rw [ih];rfl
theorem Ls {α:Type} (e:α→α→Bool) (c:α) (l:List α) (h:l≠[]):cpt e (l++[c])=cpt e l++(if e c (l.getLast h)=true then [] else [c]):=by
 cases l with
 |nil=>exact absurd rfl h
 |cons x r=>
  show x::P4 e x (r++[c])=_
  rw [df];rfl
theorem ug {α:Type} (e:α→α→Bool):∀(r:List α) (p:α),(P4 e p r).length≤r.length
 |[],_=>by simp [P4]
 |c::r,p=>by
  have:=ug e r c
  simp only [P4]
  split<;>simp<;>omega
theorem Sg {α:Type} (e:α→α→Bool) (l:List α):(cpt e l).length≤l.length:=by
 cases l with
 |nil=>simp [cpt]
 |cons x r=>have:=ug e r x;simp [cpt];exact this
theorem Xz {α:Type} (e:α→α→Bool):∀(r:List α) (p:α),∀x∈P4 e p r,x∈r
 |[],_,x,h=>by simp [P4] at h
 |c::r,p,x,h=>by
  simp only [P4] at h
  split at h
  ·exact .tail _ (Xz e r c x h)
  ·rcases Ah.1 h with rfl|h
   ·exact .head _
   ·exact .tail _ (Xz e r c x h)
theorem Hd6 {α:Type} (e:α→α→Bool) (l:List α):∀x∈cpt e l,x∈l:=by
 cases l with
 |nil=>intro x h;simp [cpt] at h
 |cons y r=>
  intro x h
  rcases Ah.1 (show x∈y::P4 e y r from h) with rfl|h
  ·exact .head _
  ·exact .tail _ (Xz e r y x h)
abbrev eqs {α:Type} [DecidableEq α]:α→α→Bool:=fun a b=>decide (a=b)
theorem cptG_mem {α:Type} [DecidableEq α]:∀(r:List α) (p x:α),x∈r→x=p∨x∈P4 eqs p r
 |[],_,x,h=>by simp at h
 |c::r,p,x,h=>by
  simp only [P4]
  by_cases hc:c=p
  ·subst hc
   rw [if_pos (by simp [eqs])]
   rcases Ah.1 h with rfl|h
   ·exact .inl rfl
   ·exact cptG_mem r c x h
  ·rw [if_neg (by simp [eqs,hc])]
   right
   rcases Ah.1 h with rfl|h
   ·exact .head _
   ·rcases cptG_mem r c x h with rfl|h
    ·exact .head _
    ·exact .tail _ h
theorem Hd7 {α:Type} [DecidableEq α] (l:List α) (x:α):x∈cpt eqs l↔x∈l:=by
 refine ⟨Hd6 _ l x,fun h=> ?_⟩
 cases l with
 |nil=>simp at h
 |cons y r=>
  rcases Ah.1 h with rfl|h
  ·exact .head _
  ·rcases cptG_mem r y x h with rfl|h
   ·exact .head _
   ·exact .tail _ h
theorem Sl {α:Type} [DecidableEq α] {lt:α→α→Prop} (ht:TO lt):∀(r:List α) (p:α),(p::r).Pairwise (fun a b=>¬lt b a)→(p::P4 eqs p r).Pairwise lt
 |[],p,_=>by simp [P4]
 |c::r,p,h=>by
  rw [Ar] at h
  have ih:=Sl ht r c h.2
  simp only [P4]
  by_cases hc:c=p
  ·subst hc
   rw [if_pos (by simp [eqs])]
   exact ih
  ·rw [if_neg (by simp [eqs,hc])]
   rw [Ar]
   refine ⟨fun x hx=> ?_,ih⟩
   have hpc:lt p c:=by
    rcases ht.tri p c with h1|h1|h1
    ·exact h1
    ·exact absurd h1.symm hc
    ·exact absurd h1 (h.1 c (.head _))
   rcases Ah.1 hx with rfl|hx
   ·exact hpc
   ·exact ht.tr _ _ _ hpc ((Ar.1 ih).1 x hx)
theorem An5 {α:Type} [DecidableEq α] {lt:α→α→Prop} (ht:TO lt) (l:List α) (h:l.Pairwise (fun a b=>¬lt b a)):(cpt eqs l).Pairwise lt:=by
 cases l with
 |nil=>simp [cpt]
 |cons x r=>exact Sl ht r x h
theorem Rk {α:Type} {lt:α→α→Prop} (ht:TO lt):∀(a b:List α),a.Pairwise lt→b.Pairwise lt→(∀x,x∈a↔x∈b)→a=b
 |[],[],_,_,_=>rfl
 |[],y::b,_,_,h=>absurd ((h y).2 (.head _)) (by simp)
 |x::a,[],_,_,h=>absurd ((h x).1 (.head _)) (by simp)
 |x::a,y::b,ha,hb,h=>by
  rw [Ar] at ha hb
  have hxy:x=y:=by
   rcases Ah.1 ((h x).1 (.head _)) with h1|h1
   ·exact h1
   ·rcases Ah.1 ((h y).2 (.head _)) with h2|h2
    ·exact h2.symm
    ·exact absurd (hb.1 x h1) (ht.asym (ha.1 y h2))
  subst hxy
  rw [Rk ht a b ha.2 hb.2 fun z=> ?_]
  constructor
  ·intro hz
   rcases Ah.1 ((h z).1 (.tail _ hz)) with rfl|h1
   ·exact absurd (ha.1 z hz) (ht.irr z)
   ·exact h1
  ·intro hz
   rcases Ah.1 ((h z).2 (.tail _ hz)) with rfl|h1
   ·exact absurd (hb.1 z hz) (ht.irr z)
   ·exact h1
def setN (l:List (List UInt8)):List (List UInt8):=cpt eqs (l.mergeSort fun x y=> !decide (Ig y x<0))
theorem Hx2 (l:List (List UInt8)):(l.mergeSort fun x y=> !decide (Ig y x<0)).Pairwise (fun a b=>¬ltN b a):=by
 have:=List.pairwise_mergeSort (le:=fun x y:List UInt8=> !decide (Ig y x<0)) (fun a b c h1 h2=>by
  simp only [A9,decide_eq_false_iff_not,Er] at h1 h2 ⊢
  exact to_N.ntr h2 h1) (fun a b=>by
  simp only [Am,A9,decide_eq_false_iff_not,Er]
  rcases to_N.tri a b with h|h|h
  ·exact .inl (to_N.asym h)
  ·subst h;exact .inl (to_N.irr a)
  ·exact .inr (to_N.asym h)) l
 refine this.imp fun {a b} h=> ?_
 simpa only [A9,decide_eq_false_iff_not,Er] using h
theorem Mf (l:List (List UInt8)):(setN l).Pairwise ltN:=An5 to_N _ (Hx2 l)
theorem Jr (l:List (List UInt8)) (x:List UInt8):x∈setN l↔x∈l:=by
 unfold setN
 rw [Hd7]
 exact (List.mergeSort_perm _ _).mem_iff
theorem Wx (l:List (List UInt8)):(setN l).length≤l.length:=by
 have:=Sg eqs (l.mergeSort fun x y=> !decide (Ig y x<0))
 rw [fq] at this
 exact this
end Go.X.G
/- Names on the way up; delegations above a name. -/
namespace Go.X.G
open Go Go.X
def upN (o n:List UInt8):List (List UInt8):=(List.range ((lbl n).length - (lbl o).length+1)).map fun k=>jn ((lbl n).drop k)
theorem Qs {o n x:List UInt8} (h:under n o=true):x∈upN o n↔under n x=true∧under x o=true:=by
 obtain ⟨hn,ho,hs⟩:=C7.1 h
 have hle:=hs.length_le
 rw [Ip] at hs
 unfold upN
 rw [D3]
 constructor
 ·rintro ⟨k,hk,rfl⟩
  rw [E3] at hk
  obtain ⟨v1,v2⟩:=P8 hn k
  refine ⟨C7.2 ⟨hn,v1,by rw [v2];exact List.drop_suffix _ _⟩,C7.2 ⟨v1,ho,?_⟩⟩
  rw [v2,hs]
  have:(lbl n).length - (lbl o).length=k+((lbl n).length - (lbl o).length - k):=by omega
  rw [this,←C4]
  exact List.drop_suffix _ _
 ·rintro ⟨h1,h2⟩
  obtain ⟨_,hx,h3⟩:=C7.1 h1
  obtain ⟨_,_,h4⟩:=C7.1 h2
  have l1:=h3.length_le
  have l2:=h4.length_le
  rw [Ip] at h3
  refine ⟨(lbl n).length - (lbl x).length,?_,?_⟩
  ·rw [E3];omega
  ·rw [←h3];exact (Qr hx).symm
theorem fp (o n:List UInt8):(upN o n).length≤256:=by
 have:=Gs n
 simp [upN];omega
theorem V6 {o n:List UInt8} {k:Nat} (hk:k≤(lbl n).length - (lbl o).length):(upN o n)[k]? =some (jn ((lbl n).drop k)):=by
 unfold upN
 rw [Bh,Cq (by omega)];rfl
theorem Cj5 {n:List UInt8} (h:vld n=true):jn ((lbl n).drop 0)=n:=by rw [Dp];exact (Qr h).symm
theorem nr {o n:List UInt8} (h:under n o=true) {k:Nat} (hk:k≤(lbl n).length - (lbl o).length):jn ((lbl n).drop k)=o↔k=(lbl n).length - (lbl o).length:=by
 obtain ⟨hn,ho,hs⟩:=C7.1 h
 have hle:=hs.length_le
 rw [Ip] at hs
 obtain ⟨v1,v2⟩:=P8 hn k
 constructor
 ·intro e
  have:=congrArg (fun x=>(lbl x).length) e
  simp only [v2,Bt] at this
  omega
 ·rintro rfl
  rw [←hs];exact (Qr ho).symm
theorem Fy1 {o n:List UInt8} (h:under n o=true) {k:Nat} (hk:k<(lbl n).length - (lbl o).length):Wr (jn ((lbl n).drop k))=jn ((lbl n).drop (k+1))∧t8 (jn ((lbl n).drop k))=true:=by
 obtain ⟨hn,ho,hs⟩:=C7.1 h
 obtain ⟨v1,v2⟩:=P8 hn k
 have hne:jn ((lbl n).drop k)≠[46]:=by
  intro e
  have:=(Hy5 v1).2 e
  rw [v2] at this
  have:=congrArg List.length this
  simp at this
  omega
 unfold Wr t8
 rw [if_pos ⟨v1,hne⟩,v2,C4]
 exact ⟨rfl,by simp [v1,hne]⟩
theorem Xv (l:List (List UInt8)) (i j:Nat) (h:i<j) (hj:j≤l.length):(flat (l.drop j)).length<(flat (l.drop i)).length:=by
 have e:l.drop i=(l.drop i).take (j - i)++l.drop j:=by
  have:=(Bl (j - i) (l.drop i)).symm
  rw [C4,show i+(j - i)=j by omega] at this
  exact this
 rw [e,Xw,Az]
 have:0<(flat ((l.drop i).take (j - i))).length:=by
  cases hc:(l.drop i).take (j - i) with
  |nil=>
   have:=congrArg List.length hc
   simp at this;omega
  |cons x r=>simp [flat];omega
 omega
theorem Eq6 {n a b:List UInt8} (ha:under n a=true) (hb:under n b=true):a.length<b.length↔(lbl a).length<(lbl b).length:=by
 have key:∀{a b:List UInt8},under n a=true→under n b=true→(lbl a).length<(lbl b).length→a.length<b.length:=by
  intro a b ha hb hl
  obtain ⟨hn,va,sa⟩:=C7.1 ha
  obtain ⟨_,vb,sb⟩:=C7.1 hb
  have la:=sa.length_le
  have lb:=sb.length_le
  rw [Ip] at sa sb
  rw [Qr va,Qr vb]
  have hbne:lbl b≠[]:=fun e=>by rw [e] at hl;simp at hl
  have e2:jn (lbl b)=flat (lbl b):=by unfold jn;rw [if_neg hbne]
  rw [e2]
  by_cases ha0:lbl a=[]
  ·have e1:jn (lbl a)=[46]:=by unfold jn;rw [if_pos ha0]
   rw [e1]
   have:=I7 (nn vb) hbne
   simp;omega
  ·have e1:jn (lbl a)=flat (lbl a):=by unfold jn;rw [if_neg ha0]
   rw [e1,sa,sb]
   exact Xv _ _ _ (by omega) (by omega)
 constructor
 ·intro h
  rcases Nat.lt_or_ge (lbl a).length (lbl b).length with h1|h1
  ·exact h1
  ·rcases Nat.lt_or_eq_of_le h1 with h2|h2
   ·have:=key hb ha h2;omega
   ·obtain ⟨_,va,sa⟩:=C7.1 ha
    obtain ⟨_,vb,sb⟩:=C7.1 hb
    rw [Ip] at sa sb
    have:a=b:=R5 va vb (by rw [sa,sb,h2])
    subst this;omega
 ·exact key ha hb
def D2 (z:Zone) (r:Rec):Bool:=decide (r.typ=2) && Dr r.name z.origin
def Hs0 (z:Zone) (n:List UInt8):List UInt8→List Rec→List UInt8
 |b,[]=>b
 |b,r::rs=>Hs0 z n (if D2 z r && under n r.name && (decide (b=[])||decide ((lbl r.name).length<(lbl b).length)) then r.name else b) rs
def Fq4 (z:Zone) (n:List UInt8):List UInt8:=Hs0 z n [] z.recs
def et (z:Zone) (n:List UInt8):Bool:=z.recs.any fun r=>D2 z r && decide (r.name≠n) && under n r.name
def Hs2 (z:Zone):List (List UInt8):=(z.recs.filter fun r=>under r.name z.origin && !et z r.name).flatMap fun r=>upN z.origin r.name
def namesN (z:Zone):List (List UInt8):=setN (Hs2 z)
def Fg1 (z:Zone) (x:List UInt8):Prop:=∃r∈z.recs,under r.name z.origin=true∧et z r.name=false∧under r.name x=true∧under x z.origin=true
theorem Ax5 (z:Zone) (x:List UInt8):x∈Hs2 z↔Fg1 z x:=by
 unfold Hs2 Fg1
 simp only [List.mem_flatMap,Bs,Av,A9]
 constructor
 ·rintro ⟨r,⟨hr,h1,h2⟩,h3⟩
  obtain ⟨h4,h5⟩:=(Qs h1).1 h3
  exact ⟨r,hr,h1,h2,h4,h5⟩
 ·rintro ⟨r,hr,h1,h2,h4,h5⟩
  exact ⟨r,⟨hr,h1,h2⟩,(Qs h1).2 ⟨h4,h5⟩⟩
theorem Es3 (z:Zone) (l:List (List UInt8)) (h:∀x,x∈l↔Fg1 z x):setN l=namesN z:=
 Rk to_N _ _ (Mf _) (Mf _) fun x=>by rw [Jr,h,namesN,Jr,Ax5]
theorem Ag0 (z:Zone) (x:List UInt8):x∈namesN z↔Fg1 z x:=by
 unfold namesN;rw [Jr,Ax5]
end Go.X.G
/- Zones by the names of their records: groups of a sorted list, in plain words. -/
namespace Go.X.G
open Go Go.X
theorem Bp6 {α:Type} {lt:α→α→Prop}:∀(p q:List α),p<+:q→p≠q→lex lt p q
 |[],[],_,h=>absurd rfl h
 |[],_::_,_,_=>trivial
 |a::p,[],h,_=>by simp at h
 |a::p,b::q,h,hne=>by
  obtain ⟨rfl,hpq⟩:=Ly.1 h
  exact .inr ⟨rfl,Bp6 p q hpq fun e=>hne (by rw [e])⟩
theorem Bp7 {α:Type} {lt:α→α→Prop} (ht:TO lt):∀(p q x:List α),p<+:q→¬lex lt x p→¬lex lt q x→p<+:x
 |[],_,_,_,_,_=>List.nil_prefix
 |a::p,[],_,h,_,_=>by simp at h
 |a::p,b::q,[],_,h,_=>absurd trivial h
 |a::p,b::q,c::x,h,h1,h2=>by
  obtain ⟨rfl,hpq⟩:=Ly.1 h
  simp only [lex,not_or,not_and] at h1 h2
  have e:a=c:=by
   rcases ht.tri a c with k|k|k
   ·exact absurd k h2.1
   ·exact k
   ·exact absurd k h1.1
  subst e
  exact Ly.2 ⟨rfl,Bp7 ht p q x hpq (h1.2 rfl) (h2.2 rfl)⟩
theorem Hx7 {a b:List UInt8} (ha:vld a=true) (hb:vld b=true):ltN a b↔ltL (lbl a).reverse (lbl b).reverse:=by
 unfold ltN;rw [if_pos ha,if_pos hb]
theorem Yl {n top:List UInt8} (h:under n top=true):(lbl top).reverse<+:(lbl n).reverse:=List.reverse_prefix.2 (C7.1 h).2.2
theorem Ey3 {n top:List UInt8} (h:under n top=true) (hne:n≠top):ltN top n:=by
 obtain ⟨h1,h2,h3⟩:=C7.1 h
 rw [Hx7 h2 h1]
 refine Bp6 _ _ (Yl h) fun e=>hne ?_
 exact (R5 h2 h1 (List.reverse_inj.1 e)).symm
theorem Bj8 {d x n:List UInt8} (hx:vld x=true) (h:under n d=true) (h1:¬ltN x d) (h2:¬ltN n x):under x d=true:=by
 obtain ⟨k1,k2,k3⟩:=C7.1 h
 rw [Hx7 hx k2] at h1
 rw [Hx7 k1 hx] at h2
 exact C7.2 ⟨hx,k2,List.reverse_prefix.1 (Bp7 Ew5 _ _ _ (Yl h) h1 h2)⟩
theorem As0 {a b c:List UInt8} (h1:under a b=true) (h2:under b c=true):under a c=true:=by
 obtain ⟨a1,a2,a3⟩:=C7.1 h1
 obtain ⟨b1,b2,b3⟩:=C7.1 h2
 exact C7.2 ⟨a1,b2,b3.trans a3⟩
def Tc (p:List Rec):List Rec→List (List Rec)
 |[]=>[]
 |x::r=>if (match r with|[]=>true|y::_=> !decide (y.name=x.name))=true then (p++[x])::Tc [] r else Tc (p++[x]) r
def grp (l:List Rec):List (List Rec):=Tc [] l
def nmG (g:List Rec):List UInt8:=match g with|[]=>[]|x::_=>x.name
theorem c5 (n:List UInt8):∀(r p:List Rec) (x:Rec),x.name=n→(∀y∈p,y.name=n)→∃g l',x::r=g++l'∧g≠[]∧(∀y∈g,y.name=n)∧(∀y,l'.head? =some y→y.name≠n)∧Tc p (x::r)=(p++g)::grp l'
 |[],p,x,hx,hp=>⟨[x],[],rfl,by simp,by simpa using hx,by simp,rfl⟩
 |y::r,p,x,hx,hp=>by
  by_cases h:y.name=x.name
  ·obtain ⟨g,l',h1,h2,h3,h4,h5⟩:=c5 n r (p++[x]) y (by rw [h,hx]) (fun w hw=>by
    rcases Br.1 hw with hw|hw
    ·exact hp w hw
    ·have:w=x:=by simpa using hw
     rw [this,hx])
   refine ⟨x::g,l',by rw [h1];rfl,by simp,fun w hw=> ?_,h4,?_⟩
   ·rcases Ah.1 hw with rfl|hw
    ·exact hx
    ·exact h3 w hw
   ·rw [Tc,if_neg (by simp [h]),h5]
    simp
  ·refine ⟨[x],y::r,rfl,by simp,by simpa using hx,fun w hw=> ?_,?_⟩
   ·simp at hw;subst hw;rw [←hx];exact h
   ·rw [Tc,if_pos (by simp [h])]
    rfl
theorem Qy (x:Rec) (r:List Rec):∃g l',x::r=g++l'∧g≠[]∧(∀y∈g,y.name=x.name)∧(∀y,l'.head? =some y→y.name≠x.name)∧grp (x::r)=g::grp l':=by
 obtain ⟨g,l',h1,h2,h3,h4,h5⟩:=c5 x.name r [] x rfl (by simp)
 exact ⟨g,l',h1,h2,h3,h4,by rw [grp,h5];rfl⟩
theorem Fb4 {g:List Rec} {n:List UInt8} (h:g≠[]) (h2:∀y∈g,y.name=n):nmG g=n:=by
 cases g with
 |nil=>exact absurd rfl h
 |cons x r=>exact h2 x (.head _)
abbrev Ig2 (l:List Rec):Prop:=l.Pairwise fun a b=>¬ltN b.name a.name
def F0 (g:List Rec) (t:Int):Bool:=g.any fun r=>decide (r.typ=t)
def Im (g:List Rec) (ts:List Int):Bool:=g.all fun r=>decide (r.typ∈ts)
def Tr (p:Rec):List Rec→Bool
 |[]=>true
 |x::r=>(!decide (x.typ=p.typ)||(!(decide (x.typ=6)||decide (x.typ=5)||decide (x.typ=39)) && (decide (x.typ=46)||decide (x.ttl=p.ttl)))) && Tr x r
def Ew4 (g:List Rec):Bool:=match g with|[]=>true|x::r=>Tr x r
def propG (o:List UInt8) (g:List Rec) (cut red:Bool):Bool:=
 under (nmG g) o && (decide (F0 g 6=decide (nmG g=o))) && Ew4 g && (!decide (nmG g=o)||F0 g 2) && (!F0 g 5||Im g [5,46,47]) && !red && (!cut||Im g [1,28]) &&
  (if (!decide (nmG g=o) && F0 g 2)=true then Im g [2,43,47,46,1,28] else !F0 g 43) && (!decide ((nmG g)[0]? =some 42)||(!F0 g 2 && !F0 g 39))
def Dl (n c:List UInt8):List UInt8:=if c≠[]∧under n c=false then [] else c
def j9 (o:List UInt8):List (List Rec)→List UInt8→List UInt8→Bool→Bool
 |[],_,_,soa=>soa
 |g::gs,cut,red,soa=>
  if propG o g (decide (Dl (nmG g) cut≠[])) (decide (Dl (nmG g) red≠[]))=true then
   j9 o gs (if Dl (nmG g) cut=[]∧nmG g≠o∧F0 g 2=true then nmG g else Dl (nmG g) cut) (if F0 g 39=true then nmG g else Dl (nmG g) red) (soa||decide (nmG g=o))
  else false
def Hv1 (z:Zone) (n:List UInt8):Bool:=z.recs.any fun r=>decide (r.typ=39) && Dr n r.name
def Zf (z:Zone) (g:List Rec):Bool:=propG z.origin g (et z (nmG g)) (Hv1 z (nmG g))
theorem fx {n:List UInt8} (h:vld n=true):n≠[]:=fun e=>by
 subst e
 have:vld []=false:=by decide
 rw [this] at h;cases h
structure GInv (z:Zone) (done l:List Rec) (cut red:List UInt8):Prop where
 cut1:cut≠[]→∃r∈done,D2 z r=true∧r.name=cut
 cut2:∀m∈l,∀r∈done,D2 z r=true→under m.name r.name=true→cut≠[]∧under m.name cut=true
 red1:red≠[]→∃r∈done,r.typ=39∧r.name=red
 red2:∀m∈l,∀r∈done,r.typ=39→under m.name r.name=true→red≠[]∧under m.name red=true
theorem gt {o:List UInt8} {g:List Rec} {c r:Bool} (h:propG o g c r=true):under (nmG g) o=true∧r=false:=by
 unfold propG at h
 simp only [Av,A9] at h
 exact ⟨h.1.1.1.1.1.1.1.1,h.1.1.1.2⟩
theorem u9 (z:Zone) (hv:∀r∈z.recs,vld r.name=true) (hs:Ig2 z.recs):∀(n:Nat) (done l:List Rec) (cut red:List UInt8) (soa:Bool),l.length≤n→z.recs=done++l→(∀a∈done,∀b∈l,ltN a.name b.name)→GInv z done l cut red→
  (j9 z.origin (grp l) cut red soa=true↔(∀g∈grp l,Zf z g=true)∧(soa=true∨∃r∈l,r.name=z.origin))
 |n,done,[],cut,red,soa,_,_,_,_=>by simp [grp,Tc,j9]
 |0,done,x::r,cut,red,soa,hn,_,_,_=>by simp at hn
 |n+1,done,x::r,cut,red,soa,hn,hz,hlt,hI=>by
  obtain ⟨g,l',h1,h2,h3,h4,h5⟩:=Qy x r
  have hnm:nmG g=x.name:=Fb4 h2 h3
  have hmem:∀y∈g,y∈x::r:=fun y hy=>by rw [h1];exact Cf _ hy
  have hmem':∀y∈l',y∈x::r:=fun y hy=>by rw [h1];exact Bg _ hy
  have hzx:∀y∈x::r,y∈z.recs:=fun y hy=>by rw [hz];exact Bg _ hy
  have hvx:vld x.name=true:=hv x (hzx x (.head _))
  have hgl:∀b∈l',ltN x.name b.name:=by
   have hs2:Ig2 (g++l'):=by
    rw [←h1];have:=hs;rw [hz] at this;exact (E2.1 this).2.1
   have hs3:=E2.1 hs2
   cases l' with
   |nil=>intro b hb;cases hb
   |cons y l''=>
    have hy:ltN x.name y.name:=by
     obtain ⟨w,hw⟩:=Fw g h2
     have k:=hs3.2.2 w hw y (.head _)
     rw [h3 w hw] at k
     rcases to_N.tri x.name y.name with q|q|q
     ·exact q
     ·exact absurd q.symm (h4 y rfl)
     ·exact absurd q k
    intro b hb
    rcases Ah.1 hb with rfl|hb
    ·exact hy
    ·have k:=(Ar.1 hs3.2.1).1 b hb
     rcases to_N.tri y.name b.name with q|q|q
     ·exact to_N.tr _ _ _ hy q
     ·rw [←q];exact hy
     ·exact absurd q k
  have habove:∀w∈z.recs,under x.name w.name=true→x.name≠w.name→w∈done:=fun w hw hu hne=>by
   rw [hz] at hw
   rcases Br.1 hw with hw|hw
   ·exact hw
   ·exfalso
    have k:=Ey3 hu hne
    rw [h1] at hw
    rcases Br.1 hw with hw|hw
    ·exact hne (h3 w hw).symm
    ·exact to_N.asym k (hgl w hw)
  have hcut:decide (Dl x.name cut≠[])=et z x.name:=by
   rw [Ch,decide_eq_true_eq]
   unfold et Dl
   rw [B7]
   constructor
   ·intro k
    have c0:cut≠[]:=fun e=>by rw [e] at k;simp at k
    have c1:under x.name cut=true:=by
     rcases Ak (under x.name cut) with q|q
     ·exact q
     ·rw [if_pos ⟨c0,q⟩] at k;exact absurd rfl k
    obtain ⟨w,w1,w2,w3⟩:=hI.cut1 c0
    refine ⟨w,by rw [hz];exact Cf _ w1,?_⟩
    have:w.name≠x.name:=fun e=>to_N.irr _ (by have:=hlt w w1 x (.head _);rw [e] at this;exact this)
    rw [w2,w3]
    rw [w3] at this
    simp [this,c1]
   ·rintro ⟨w,w1,w2⟩
    simp only [Av,decide_eq_true_eq] at w2
    have wd:=habove w w1 w2.2 (fun e=>w2.1.2 e.symm)
    obtain ⟨c0,c1⟩:=hI.cut2 x (.head _) w wd w2.1.1 w2.2
    rw [if_neg (by simp [c1])]
    exact c0
  have hred:decide (Dl x.name red≠[])=Hv1 z x.name:=by
   rw [Ch,decide_eq_true_eq]
   unfold Hv1 Dl Dr
   rw [B7]
   constructor
   ·intro k
    have c0:red≠[]:=fun e=>by rw [e] at k;simp at k
    have c1:under x.name red=true:=by
     rcases Ak (under x.name red) with q|q
     ·exact q
     ·rw [if_pos ⟨c0,q⟩] at k;exact absurd rfl k
    obtain ⟨w,w1,w2,w3⟩:=hI.red1 c0
    refine ⟨w,by rw [hz];exact Cf _ w1,?_⟩
    have:x.name≠w.name:=fun e=>to_N.irr _ (by have:=hlt w w1 x (.head _);rw [e] at this;exact this)
    rw [w3] at this ⊢
    simp [this,c1,w2]
   ·rintro ⟨w,w1,w2⟩
    simp only [Av,decide_eq_true_eq] at w2
    have wd:=habove w w1 w2.2.2 w2.2.1
    obtain ⟨c0,c1⟩:=hI.red2 x (.head _) w wd w2.1 w2.2.2
    rw [if_neg (by simp [c1])]
    exact c0
  have hex:(∃w∈x::r,w.name=z.origin)↔(x.name=z.origin∨∃w∈l',w.name=z.origin):=by
   rw [h1]
   constructor
   ·rintro ⟨w,w1,w2⟩
    rcases Br.1 w1 with w1|w1
    ·exact .inl (by rw [←h3 w w1];exact w2)
    ·exact .inr ⟨w,w1,w2⟩
   ·rintro (k|⟨w,w1,w2⟩)
    ·obtain ⟨w,hw⟩:=Fw g h2
     exact ⟨w,Cf _ hw,by rw [h3 w hw];exact k⟩
    ·exact ⟨w,Bg _ w1,w2⟩
  rw [h5,hex]
  simp only [j9,hnm,Ah,forall_eq_or_imp]
  have hp0:Zf z g=propG z.origin g (et z x.name) (Hv1 z x.name):=by unfold Zf;rw [hnm]
  rw [hp0]
  rw [hcut,hred]
  by_cases hp:propG z.origin g (et z x.name) (Hv1 z x.name)=true
  ·rw [if_pos hp]
   obtain ⟨pu,pr⟩:=gt hp
   rw [hnm] at pu
   have hlen:=congrArg List.length h1
   have hg0:0<g.length:=Bw.2 h2
   simp only [Az,A0] at hlen hn
   have hmid:∀m∈l',∀w∈done,under m.name w.name=true→under x.name w.name=true:=fun m hm w hw hu=>
    Bj8 hvx hu (fun k=>to_N.asym (hlt w hw x (.head _)) k) (fun k=>to_N.asym (hgl m hm) k)
   have hredE:Dl x.name red=[]:=by
    have:=hred;rw [pr] at this;simpa using this
   have ih:=u9 z hv hs n (done++g) l' (if Dl x.name cut=[]∧x.name≠z.origin∧F0 g 2=true then x.name else Dl x.name cut) (if F0 g 39=true then x.name else Dl x.name red) (soa||decide (x.name=z.origin)) (by omega) (by rw [hz,h1,Ap])
    (fun a ha b hb=>by
     rcases Br.1 ha with ha|ha
     ·exact hlt a ha b (hmem' b hb)
     ·rw [h3 a ha];exact hgl b hb)
    ⟨?_,?_,?_,?_⟩
   ·rw [ih]
    simp only [Am,decide_eq_true_eq,hp,true_and]
    constructor
    ·rintro ⟨k1,(k2|k2)|k2⟩
     ·exact ⟨k1, .inl k2⟩
     ·exact ⟨k1, .inr (.inl k2)⟩
     ·exact ⟨k1, .inr (.inr k2)⟩
    ·rintro ⟨k1,k2|k2|k2⟩
     ·exact ⟨k1, .inl (.inl k2)⟩
     ·exact ⟨k1, .inl (.inr k2)⟩
     ·exact ⟨k1, .inr k2⟩
   ·-- the cut is one
    intro k
    by_cases c:Dl x.name cut=[]∧x.name≠z.origin∧F0 g 2=true
    ·rw [if_pos c]
     obtain ⟨w,w1,w2⟩:=B7.1 c.2.2
     simp only [decide_eq_true_eq] at w2
     refine ⟨w,Bg _ w1,?_,h3 w w1⟩
     unfold D2 Dr
     rw [h3 w w1]
     simp [w2,pu,c.2.1]
    ·rw [if_neg c] at k ⊢
     have c0:cut≠[]:=fun e=>by rw [e] at k;simp [Dl] at k
     have c1:Dl x.name cut=cut:=by
      unfold Dl at k ⊢
      by_cases q:cut≠[]∧under x.name cut=false
      ·rw [if_pos q] at k;exact absurd rfl k
      ·rw [if_neg q]
     rw [c1]
     obtain ⟨w,w1,w2⟩:=hI.cut1 c0
     exact ⟨w,Cf _ w1,w2⟩
   ·intro m hm w hw hc hu
    rcases Br.1 hw with hw|hw
    ·have hxu:=hmid m hm w hw hu
     obtain ⟨c0,c1⟩:=hI.cut2 x (.head _) w hw hc hxu
     obtain ⟨_,c2⟩:=hI.cut2 m (hmem' m hm) w hw hc hu
     have c3:Dl x.name cut=cut:=by unfold Dl;rw [if_neg (by simp [c1])]
     rw [c3,if_neg (by simp [c0])]
     exact ⟨c0,c2⟩
    ·rw [h3 w hw] at hu
     have hc':=hc
     unfold D2 Dr at hc'
     rw [h3 w hw] at hc'
     simp only [Av,decide_eq_true_eq] at hc'
     have hns:F0 g 2=true:=B7.2 ⟨w,hw,by simp [hc'.1]⟩
     by_cases c:Dl x.name cut=[]
     ·rw [if_pos ⟨c,hc'.2.1,hns⟩]
      exact ⟨fx hvx,hu⟩
     ·rw [if_neg (by simp [c])]
      have q:¬(cut≠[]∧under x.name cut=false):=fun q=>c (by unfold Dl;rw [if_pos q])
      have c1:Dl x.name cut=cut:=by unfold Dl;rw [if_neg q]
      rw [c1] at c ⊢
      have c2:under x.name cut=true:=by
       rcases Ak (under x.name cut) with k|k
       ·exact k
       ·exact absurd ⟨c,k⟩ q
      exact ⟨c,As0 hu c2⟩
   ·intro k
    rw [hredE] at k ⊢
    by_cases c:F0 g 39=true
    ·rw [if_pos c]
     obtain ⟨w,w1,w2⟩:=B7.1 c
     simp only [decide_eq_true_eq] at w2
     exact ⟨w,Bg _ w1,w2,h3 w w1⟩
    ·rw [if_neg c] at k;exact absurd rfl k
   ·intro m hm w hw hc hu
    rcases Br.1 hw with hw|hw
    ·exfalso
     have hxu:=hmid m hm w hw hu
     obtain ⟨c0,c1⟩:=hI.red2 x (.head _) w hw hc hxu
     have:Dl x.name red=red:=by unfold Dl;rw [if_neg (by simp [c1])]
     rw [this] at hredE
     exact c0 hredE
    ·rw [h3 w hw] at hu
     have hd:F0 g 39=true:=B7.2 ⟨w,hw,by simp [hc]⟩
     rw [if_pos hd]
     exact ⟨fx hvx,hu⟩
  ·rw [if_neg hp]
   simp [hp]
end Go.X.G
