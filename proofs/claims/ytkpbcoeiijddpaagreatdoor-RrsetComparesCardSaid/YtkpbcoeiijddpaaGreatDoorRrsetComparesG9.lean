/- Names: what the reference's functions give. -/
import Derived.Test.YtkpbcoeiijddpaaGreatDoorRrsetComparesG7
import Derived.Test.YtkpbcoeiijddpaaGreatDoorRrsetComparesG8
open Bool renaming and_eq_true→Ax,false_eq_true→Az,eq_false_or_eq_true→Ad,not_eq_true'→Bp,eq_iff_iff→Gl,and_true→J4,not_true→Tg
open List renaming getElem?_eq_some_iff→Aw,getElem?_eq_getElem→Ab,length_append→Al,getD_eq_getElem?_getD→A4,all_eq_true→B3,length_cons→Cz,mem_of_getElem?→Cp,mem_cons→Cs,length_pos_iff→C4,drop_eq_getElem_cons→D1,mem_filter→Ek,drop_eq_nil_of_le→Es,take_length→Fc,drop_zero→F6,cons_append→Hb,filter_cons_of_pos→Lf,flatMap_cons→Wc
open Nat renaming le_refl→Ag,zero_le→Cw
open Option renaming map_eq_some_iff→Aq,map_some→Ap
set_option maxHeartbeats 1000000
set_option linter.unusedVariables false
set_option linter.unusedSimpArgs false
namespace Go.X.G
open Go Go.X
def Kf (c:UInt8):Bool:=decide (97≤(c.toNat:Int)) && decide ((c.toNat:Int)≤122)||decide (48≤(c.toNat:Int)) && decide ((c.toNat:Int)≤57)||decide ((c.toNat:Int)=45)||decide ((c.toNat:Int)=95)
theorem bc (c:UInt8):(decide (97≤(c.toNat:Int)) && decide ((c.toNat:Int)≤122)||decide (48≤(c.toNat:Int)) && decide ((c.toNat:Int)≤57)||decide ((c.toNat:Int)=45)||decide ((c.toNat:Int)=95))=Kf c:=rfl
def Hc (s:List UInt8):Bool:=decide (s=[42])||(decide (1≤s.length) && decide (s.length≤63) && s.all Kf)
theorem bg (s:List UInt8) (N:Nat) (hN:s.length<N) (hs:s.length≤4294967296):
  Bc8.ev S N [.s s]=some (if s.all Kf=true then .yld 0 [] else .ret [.b false]):=by
 refine Gt s (fun i=>[.i .i64 (i:Int)]) (fun i r=>if r.all Kf=true then .yld 0 [] else .ret [.b false]) rfl hN (fun i c r hd hi hc=> ?_) ?_
 ·simp (disch:=omega) only [Cz6,xe,EV,simprocAttr,hc,bc];cases h:Kf c<;>simp [h,Out.goes]
 ·simp (disch:=omega) [Cz6,xe,EV,simprocAttr,Out.goes]
theorem bf (s:List UInt8) (hs:s.length≤4294967296):S jk 1 [.s s]=some [.b (Hc s)]:=by
 refine Fx0 (N:=s.length+1) rfl ?_;simp (disch:=omega) only [Cz6,bg,xe,EV,simprocAttr];unfold Hc
 grind
end Go.X.G
/- Names: what the reference's functions give. -/
namespace Go.X.G
open Go Go.X
def spl (first:Bool) (cur:List UInt8):List UInt8→Option (List (List UInt8))
 |[]=>some []
 |c::r=>if c=46 then (if Hc cur=true∧(cur=[42]→first=true) then (spl false [] r).map (cur::·) else none) else spl first (cur++[c]) r
def nm (n:List UInt8):Option (List (List UInt8)):=
 if n=[46] then some [] else if 2≤n.length∧n.length≤254∧n[n.length - 1]? =some 46 then spl true [] n else none
def lbl (n:List UInt8):List (List UInt8):=(nm n).getD []
def vld (n:List UInt8):Bool:=(nm n).isSome
theorem Cc4 {α:Type} (n:List α) (i j:Nat) (c:α) (h:n[i]? =some c) (hj:j≤i):(n.take (i+1)).drop j=(n.take i).drop j++[c]:=by have hi:i<n.length:=(Aw.1 h).1;rw [List.take_add_one,h,List.drop_append_of_le_length (by simp;omega)];rfl
theorem Cc5 {α:Type} (n:List α) (i:Nat):(n.take i).drop i=[]:=by rw [List.drop_eq_nil_iff];simp;omega
def Nm (l:List (List UInt8)):Option (List (List UInt8))→Out
 |some ls=> .yld 0 [.l 1 ((l++ls).map .s)]
 |none=> .ret [.l 1 [], .b false]
theorem An0 (n:List UInt8) (N:Nat) (hN:n.length<N) (hs:n.length≤1000):
  Bd0.ev S N [.s n]=some (Nm [] (spl true [] n)):=by
 refine Pt n (fun i (g:List (List UInt8)×Nat)=>[.l 1 (g.1.map .s), .i .i64 (g.2:Int), .i .i64 (i:Int)]) (fun i g r=>Nm g.1 (spl (decide (g.2=0)) ((n.take i).drop g.2) r)) (fun i g=>g.1.length≤i∧g.2≤i) ([],0) rfl ⟨Ag _,Ag _⟩ hN (fun i g c r hd hi hc hI=> ?_) (fun g hI=> ?_)
 ·obtain ⟨l,st⟩:=g;obtain ⟨h1,h2⟩:=hI;simp only at h1 h2 ⊢;have hl:((n.take i).drop st).length≤4294967296:=by simp;omega
  have hm:(l.map PV.s).length=l.length:=List.length_map ..;have hd':=Cb7 c 46 (by omega);by_cases hdot:c=46
  ·have hdi:=hd'.2 hdot;simp (disch:=omega) only [Qp,xe,EV,simprocAttr,hc,bf];simp only [spl,if_pos hdot];by_cases h:Hc ((n.take i).drop st)=true∧((n.take i).drop st=[42]→st=0)
   ·obtain ⟨h3,h4⟩:=h;left;refine ⟨(l++[(n.take i).drop st],i+1),?_,?_,?_⟩
    ·rw [if_neg (by simp only [h3];intro h;simp at h;have:=h4 h.1;omega)];simp
    ·simp;omega
    ·simp only [Cc5];rw [if_pos ⟨h3,by simpa using h4⟩];cases h9:spl false [] r<;>simp [h9,Nm]
   ·right;have h':¬(Hc ((n.take i).drop st)=true∧((n.take i).drop st=[42]→decide (st=0)=true)):=by simpa using h
    rw [if_neg h'];refine ⟨?_,rfl⟩;rw [if_pos]
    ·rfl
    ·cases h5:Hc ((n.take i).drop st)
     ·simp
     ·simp only [h5,true_and] at h;have ⟨h6,h7⟩:=Classical.not_imp.1 h;simp [h6];omega
  ·have hdi:¬(c.toNat:Int)=46:=fun h=>hdot (hd'.1 h);left;refine ⟨(l,st),?_,?_,?_⟩
   ·simp (disch:=omega) only [Qp,xe,EV,simprocAttr,hc]
   ·simp only;omega
   ·simp only [spl];rw [if_neg hdot,Cc4 n i st c hc h2]
 ·simp (disch:=omega) [Qp,xe,EV,simprocAttr,Out.goes,spl,Nm]
theorem split_ok (n:List UInt8) (hs:n.length≤9223372036854775807):S R0 1 [.s n]=some [Cj (lbl n), .b (vld n)]:=by
 refine Fz0 (N:=n.length+1) rfl ?_;unfold Cj lbl vld nm;by_cases h1:n=[46]
 ·simp (disch:=omega) [Qp,xe,EV,simprocAttr,h1]
 ·rw [if_neg h1];by_cases h2:n.length<2
  ·simp (disch:=omega) only [Qp,xe,EV,simprocAttr,h1];have h3:¬(2≤n.length∧n.length≤254∧n[n.length - 1]? =some 46):=by omega
   rw [if_neg h3];rfl
  ·by_cases h3:254<n.length
   ·simp (disch:=omega) only [Qp,xe,EV,simprocAttr,h1];have h3:¬(2≤n.length∧n.length≤254∧n[n.length - 1]? =some 46):=by omega
    rw [if_neg h3];rfl
   ·have h4:=Ab (l:=n) (i:=n.length - 1) (by omega);have h5:((n.length:Int) - 1).toNat=n.length - 1:=by omega
    have h6:=Cb7 (n[n.length - 1]'(by omega)) 46 (by omega);simp (disch:=omega) only [Qp,xe,EV,simprocAttr,h1,h4,h5,An0];by_cases h7:n[n.length - 1]'(by omega)=46
    ·rw [if_pos (show 2≤n.length∧n.length≤254∧some (n[n.length - 1]'(by omega))=some 46 from ⟨by omega,by omega,by rw [h7]⟩),if_neg (fun h=>h (h6.2 h7))];cases h8:spl true [] n
     ·simp [Nm,Az8]
     ·simp (disch:=omega) [Qp,Nm,xe,EV,simprocAttr]
    ·rw [if_neg (show¬(2≤n.length∧n.length≤254∧some (n[n.length - 1]'(by omega))=some 46) from fun h=>h7 (by simpa using h.2.2)),if_pos (show (((n[n.length - 1]'(by omega)).toNat:Int)≠46) from fun h=>h7 (h6.1 h))];rfl
end Go.X.G
/- Names: what the reference's functions give, ctd. -/
namespace Go.X.G
open Go Go.X
theorem Uq:∀(r:List UInt8) (f:Bool) (cur:List UInt8) (l:List (List UInt8)),spl f cur r=some l→l.length≤r.length
 |[],f,cur,l,h=>by simp [spl] at h;simp [←h]
 |c::r,f,cur,l,h=>by
  simp only [spl] at h;split at h
  ·split at h
   ·obtain ⟨m,hm,rfl⟩:=Aq.1 h;have:=Uq r _ _ _ hm;simp;omega
   ·cases h
  ·have:=Uq r _ _ _ h;simp;omega
theorem Ek0 {n:List UInt8} {l:List (List UInt8)} (h:nm n=some l):l.length≤254:=by
 unfold nm at h;split at h
 ·injection h with h;subst h;simp
 ·split at h
  ·rename_i h2;have:=Uq _ _ _ _ h;omega
  ·cases h
theorem Hs (n:List UInt8):(lbl n).length≤254:=by
 unfold lbl;cases h:nm n with
 |none=>simp
 |some l=>exact Ek0 h
theorem J2 (n:List UInt8) (hs:n.length≤9223372036854775807):S Us 1 [.s n]=some [.b (vld n)]:=by refine Fb9 (N:=1) rfl ?_;simp (disch:=omega) only [Fv0,split_ok,xe,EVP,EV,simprocAttr]
theorem dk (n:List UInt8) (hs:n.length≤9223372036854775807):S R5 1 [.s n]=some [Cj (lbl n)]:=by refine Dp4 (N:=1) rfl ?_;simp (disch:=omega) only [Df9,split_ok,xe,EVP,EV,simprocAttr]
def P9 {α:Type} [DecidableEq α]:List α→List α→Nat
 |x::xs,y::ys=>if x=y then P9 xs ys+1 else 0
 |_,_=>0
def G1 (a b:List (List UInt8)):Nat:=P9 a.reverse b.reverse
theorem m8 {α:Type} [DecidableEq α]:∀(a b:List α),P9 a b≤a.length∧P9 a b≤b.length
 |[],b=>by simp [P9]
 |x::xs,[]=>by simp [P9]
 |x::xs,y::ys=>by have:=m8 xs ys;simp only [P9];split<;>simp<;>omega
theorem An5 (a b:List (List UInt8)):G1 a b≤a.length∧G1 a b≤b.length:=by have:=m8 a.reverse b.reverse;simpa [G1] using this
theorem Cd9 (a b:List (List UInt8)) (N:Nat) (hN:a.length<N) (ha:a.length≤1000000) (hb:b.length≤1000000):
  lj.ev S N [Cj a,Cj b]=some (.yld 0 [.i .i64 (G1 a b:Int)]):=by
 have key:=F8 (fn:=S) (N:=N) (η:=[Cj a,Cj b]) (id:=1) (init:=[(.c (.i .i64 (0)))]) (body:=Ay6) (α:=Nat) (fun k=>[.i .i64 (k:Int)]) (fun k=> .yld 0 [.i .i64 ((k+P9 (a.reverse.drop k) (b.reverse.drop k):Nat):Int)]) (fun k=>k≤a.length∧k≤b.length) (fun k=>a.length - k) 0 rfl ⟨Cw _,Cw _⟩ (by omega) ?_
 ·simpa [G1,lj] using key
 ·rintro k ⟨h1,h2⟩;by_cases h3:k<a.length
  ·by_cases h4:k<b.length
   ·have e1:((a.length:Int) - 1 - k).toNat=a.length - 1 - k:=by omega
    have e2:((b.length:Int) - 1 - k).toNat=b.length - 1 - k:=by omega
    have g1:a[a.length - 1 - k]? =some (a[a.length - 1 - k]'(by omega)):=Ab (by omega);have g2:b[b.length - 1 - k]? =some (b[b.length - 1 - k]'(by omega)):=Ab (by omega);have d1:a.reverse.drop k=(a[a.length - 1 - k]'(by omega))::a.reverse.drop (k+1):=by rw [D1 (by simpa using h3)];simp
    have d2:b.reverse.drop k=(b[b.length - 1 - k]'(by omega))::b.reverse.drop (k+1):=by rw [D1 (by simpa using h4)];simp
    simp (disch:=omega) only [Ad0,xe,EVP,EV,simprocAttr,e1,e2,g1,g2];rw [d1,d2];simp only [P9];by_cases h:a[a.length - 1 - k]'(by omega)=b[b.length - 1 - k]'(by omega)
    ·left;refine ⟨k+1,by simp [h],⟨by omega,by omega⟩,by omega,?_⟩;rw [if_pos h];congr 3
     push_cast
     omega
    ·right;simp [h,Out.goes]
   ·right;have d2:b.reverse.drop k=[]:=Es (by simp;omega);have z:P9 (a.reverse.drop k) []=0:=by cases a.reverse.drop k<;>rfl
    rw [d2,z];simp (disch:=omega) [Ad0,xe,EVP,EV,simprocAttr,Out.goes]
  ·right;have d1:a.reverse.drop k=[]:=Es (by simp;omega);have z:P9 [] (b.reverse.drop k)=0:=rfl;rw [d1,z];simp (disch:=omega) [Ad0,xe,EVP,EV,simprocAttr,Out.goes]
theorem fg (a b:List (List UInt8)) (ha:a.length≤1000000) (hb:b.length≤1000000):S jx 2 [Cj a,Cj b]=some [.i .i64 (G1 a b:Int)]:=by refine Fx5 (N:=a.length+1) rfl ?_;simp (disch:=omega) only [Ad0,Cd9,xe,EVP,EV,simprocAttr]
def under (n top:List UInt8):Bool:=vld n && vld top && decide (G1 (lbl n) (lbl top)=(lbl top).length)
def cmpS (a b:List UInt8):Int:=if Op.bytesLess a b then -1 else if a=b then 0 else 1
theorem Jy (a b:List UInt8):S ab 2 [.s a, .s b]=some [.i .i64 (cmpS a b)]:=by
 refine Fx6 (N:=1) rfl ?_;unfold cmpS;simp (disch:=omega) only [Fk4,xe,EVP,EV,simprocAttr];cases h:Op.bytesLess a b
 ·by_cases h2:a=b<;>simp [h2]
 ·simp
def nj (a b:List UInt8):Int:=
 if vld a && vld b then
  let k:=G1 (lbl a) (lbl b)
  if k<(lbl a).length∧k<(lbl b).length then cmpS ((lbl a).getD ((lbl a).length - 1 - k) []) ((lbl b).getD ((lbl b).length - 1 - k) [])
  else if (lbl a).length<(lbl b).length then -1 else if (lbl b).length<(lbl a).length then 1 else 0
 else if vld a then -1 else if vld b then 1 else cmpS a b
theorem Wz (a b:List UInt8) (hn:a.length≤9223372036854775807) (ht:b.length≤9223372036854775807):S jp 2 [.s a, .s b]=some [.i .i64 (nj a b)]:=by
 refine Fb1 (N:=1) rfl ?_;have h1:=Hs a;have h2:=Hs b;have h5:=An5 (lbl a) (lbl b);unfold nj;cases h3:vld a<;>cases h4:vld b
 ·simp (disch:=omega) [d3,split_ok,Jy,h3,h4,xe,EVP,EV,simprocAttr]
 ·simp (disch:=omega) [d3,split_ok,Jy,h3,h4,xe,EVP,EV,simprocAttr]
 ·simp (disch:=omega) [d3,split_ok,Jy,h3,h4,xe,EVP,EV,simprocAttr]
 ·by_cases h6:G1 (lbl a) (lbl b)<(lbl a).length∧G1 (lbl a) (lbl b)<(lbl b).length
  ·obtain ⟨h7,h8⟩:=h6;have e1:(((lbl a).length:Int) - 1 - (G1 (lbl a) (lbl b):Int)).toNat=(lbl a).length - 1 - G1 (lbl a) (lbl b):=by omega
   have e2:(((lbl b).length:Int) - 1 - (G1 (lbl a) (lbl b):Int)).toNat=(lbl b).length - 1 - G1 (lbl a) (lbl b):=by omega
   have g1:=Ab (l:=lbl a) (i:=(lbl a).length - 1 - G1 (lbl a) (lbl b)) (by omega);have g2:=Ab (l:=lbl b) (i:=(lbl b).length - 1 - G1 (lbl a) (lbl b)) (by omega);simp (disch:=omega) only [d3,split_ok,fg,Jy,h3,h4,e1,e2,g1,g2,xe,EVP,EV,simprocAttr];simp [h7,h8,g1,g2]
  ·simp (disch:=omega) only [d3,split_ok,fg,Jy,h3,h4,xe,EVP,EV,simprocAttr];simp only [h6]
   grind
end Go.X.G
/- The library's functions on strings. -/
namespace Go.X.G
open Go Go.X
theorem Cs1 (x:List UInt8) (c:UInt8):S Xp 2 [.s x, .i .u8 (c.toNat:Int)]=some [.i .i64 (x.count c:Int)]:=
 Dp9 (args:=[.s x, .i .u8 (c.toNat:Int)]) (by simp [XK.run,Y8,Lib.countByte])
theorem Cn7 (x:List UInt8) (c:UInt8):S Xn 2 [.s x, .i .u8 (c.toNat:Int)]=some [.i .i64 (Lib.indexByte x c)]:=
 Dp1 (args:=[.s x, .i .u8 (c.toNat:Int)]) (by simp [XK.run,Y8])
theorem Cs2 (x y:List UInt8):S Xt 2 [.s x, .s y]=some [.i .i64 (Lib.compareBytes x y)]:=
 Dr0 (args:=[.s x, .s y]) (by simp [XK.run,An6])
theorem Qx (x:List UInt8) (c:UInt8):S R3 2 [.s x, .i .u8 (c.toNat:Int)]=some [.i .i64 (Lib.indexByte x c)]:=by refine Dp3 (N:=1) rfl ?_;simp (disch:=omega) only [Df8,Cn7,xe,EVP,EV,simprocAttr]
theorem I0 (c:UInt8):∀(x:List UInt8),c∉x→Lib.indexByte x c= -1
 |[],_=>rfl
 |b::l,h=>by have h1:b≠c:=fun e=>h (by simp [e]);have h2:=I0 c l (fun e=>h (by simp [e]));simp [Lib.indexByte,h1,h2]
theorem It (c:UInt8) (post:List UInt8):∀(pre:List UInt8),c∉pre→Lib.indexByte (pre++c::post) c=(pre.length:Int)
 |[],_=>by simp [Lib.indexByte]
 |b::l,h=>by
  have h1:b≠c:=fun e=>h (by simp [e]);have h2:=It c post l (fun e=>h (by simp [e]));simp only [Hb,Lib.indexByte,h2];simp [h1]
  try omega
theorem dot_split (c:UInt8):∀(s:List UInt8),c∉s∨∃pre post,s=pre++c::post∧c∉pre
 |[]=> .inl (by simp)
 |b::l=>by
  by_cases h:b=c
  ·exact .inr ⟨[],l,by simp [h],by simp⟩
  ·rcases dot_split c l with h1|⟨pre,post,rfl,h2⟩
   ·exact .inl (by simp [h1,Ne.symm h])
   ·exact .inr ⟨b::pre,post,by simp,by simp [h2,Ne.symm h]⟩
def pcs (cur:List UInt8):List UInt8→List (List UInt8)
 |[]=>[cur]
 |c::r=>if c=46 then cur::pcs [] r else pcs (cur++[c]) r
def cut (s:List UInt8):List (List UInt8):=pcs [] s
theorem im (post:List UInt8):∀(pre cur:List UInt8),(46:UInt8)∉pre→pcs cur (pre++46::post)=(cur++pre)::pcs [] post
 |[],cur,_=>by simp [pcs]
 |b::l,cur,h=>by have h1:b≠46:=fun e=>h (by simp [e]);have h2:=im post l (cur++[b]) (fun e=>h (by simp [e]));simp [pcs,h1,h2]
theorem Pw:∀(s cur:List UInt8),(46:UInt8)∉s→pcs cur s=[cur++s]
 |[],cur,_=>by simp [pcs]
 |b::l,cur,h=>by have h1:b≠46:=fun e=>h (by simp [e]);have h2:=Pw l (cur++[b]) (fun e=>h (by simp [e]));simp [pcs,h1,h2]
theorem m7 (s:List UInt8):(cut s).length=s.count 46+1:=by
 have:∀(s cur:List UInt8),(pcs cur s).length=s.count 46+1:=by
  intro s
  induction s with
  |nil=>intro cur;rfl
  |cons c r ih=>
   intro cur;by_cases h:c=46<;>simp [pcs,h,ih]
 exact this s []
theorem dq (s:List UInt8) (hs:s.length≤9223372036854775807):S R7 2 [.s s, .s [46]]=some [.i .i64 (Lib.indexByte s 46)]:=by
 refine Dp8 (N:=1) rfl ?_;have h1:=Qx s 46;have e:(((46:UInt8).toNat:Nat):Int)=46:=rfl;rw [e] at h1;by_cases h:[46]=s
 ·subst h;simp (disch:=omega) only [Bz0,xe,EVP,EV,simprocAttr];rfl
 ·simp (disch:=omega) only [Bz0,h,h1,e,xe,EVP,EV,simprocAttr]
theorem Tc (s:List UInt8) (hs:s.length≤9223372036854775807):S N4 2 [.s s, .s [46]]=some [.i .i64 (Lib.indexByte s 46)]:=by refine Ds0 (N:=1) rfl ?_;simp (disch:=omega) only [Dg1,dq,xe,EVP,EV,simprocAttr]
theorem Ab8 (s:List UInt8):S Sv 2 [.s s, .s [46]]=some [.i .i64 (s.count 46:Int)]:=by refine Ds1 (N:=1) rfl ?_;have h1:=Cs1 s 46;have e:(((46:UInt8).toNat:Nat):Int)=46:=rfl;rw [e] at h1;simp (disch:=omega) only [Dg3,h1,e,xe,EVP,EV,simprocAttr]
def l8 (done rest:List (List UInt8)):Out:=
 .yld 0 [.s ((done++rest).getLastD []),Cj ((done++rest).dropLast++[[]]), .i .i64 (((done++rest).length:Int) - 1)]
theorem Vq (s:List UInt8) (N:Nat) (hN:s.length<N) (hs:s.length≤1000000) (p q:PV):
  kt.ev S N [.s s, .s [46], .i .i64 0,p, .i .i64 ((s.count 46:Int)+1)]=some (l8 [] (cut s)):=by
 have hc0:s.count 46≤s.length:=List.count_le_length;have key:=F8 (fn:=S) (N:=N) (η:=[.s s, .s [46], .i .i64 0,p, .i .i64 ((s.count 46:Int)+1)]) (id:=1) (init:=[(.v 0),(.rep 1 (.mn (.v 4) (.bin .add (.slen (.v 0)) (.c (.i .i64 (1))))) (.c (.s []))),(.c (.i .i64 (0)))]) (body:=Ay5) (α:=List (List UInt8)×List UInt8)
  (fun a=>[.s a.2,Cj (a.1++List.replicate (a.2.count 46+1) []), .i .i64 (a.1.length:Int)]) (fun a=>l8 a.1 (cut a.2)) (fun a=>a.1.length+a.2.count 46=s.count 46∧a.2.length≤s.length) (fun a=>a.2.length) ([],s) ?_ ⟨by simp,Ag _⟩ hN ?_
 ·simpa [kt] using key
 ·have e:((s.count 46:Int)+1).toNat=s.count 46+1:=by omega
  simp (disch:=omega) only [e,xe,EVP,EV,simprocAttr]
 ·rintro ⟨done,rest⟩ ⟨h1,h2⟩;simp only at h1 h2 ⊢;rcases dot_split 46 rest with h|⟨pre,post,rfl,h⟩
  ·right;have c0:rest.count 46=0:=List.count_eq_zero.2 h;have i0:=I0 46 rest h;have cu:cut rest=[rest]:=by simpa [cut] using Pw rest [] h
   refine ⟨?_,rfl⟩;rw [c0];rw [c0] at h1;simp (disch:=omega) only [Cz7,Tc,i0,xe,EVP,EV,simprocAttr];simp [l8,cu,List.getLastD_eq_getLast?]
  ·left;have c0:(pre++46::post).count 46=post.count 46+1:=by rw [List.count_append,List.count_eq_zero.2 h];simp
   have i0:=It 46 post pre h;have cu:cut (pre++46::post)=pre::cut post:=by simpa [cut] using im post pre [] h
   have hl:(pre++46::post).length=pre.length+post.length+1:=by simp;omega
   have sl1:List.drop (0:Int).toNat (List.take ((pre.length:Int)+0).toNat (pre++46::post))=pre:=by simp
   have sl2:List.drop ((pre.length:Int)+1).toNat (List.take (pre++46::post).length (pre++46::post))=post:=by
    have:((pre.length:Int)+1).toNat=pre.length+1:=by omega
    rw [this,Fc,List.drop_append];simp
   have sl3:(done++[]::[]::List.replicate (post.count 46) ([]:List UInt8)).length=done.length+post.count 46+2:=by simp;omega
   refine ⟨(done++[pre],post),?_,⟨by simp;omega,by simp only;omega⟩,by simp;omega,by simp [l8,cu]⟩;rw [c0];rw [c0] at h1;simp (disch:=omega) only [Cz7,Tc,i0,sl1,sl2,xe,EVP,EV,simprocAttr];simp [List.replicate_succ,List.set_append]
theorem Vk (s:List UInt8) (hs:s.length≤1000000):S jv 4 [.s s, .s [46], .i .i64 0, .i .i64 (-1)]=some [Cj (cut s)]:=by
 refine Fx3 (N:=s.length+1) rfl ?_;have h1:=m7 s;have h2:s.count 46≤s.length:=List.count_le_length;obtain ⟨l,x,hx⟩:∃l x,cut s=l++[x]:=⟨(cut s).dropLast,(cut s).getLast (by intro e;simp [e] at h1),(List.dropLast_concat_getLast _).symm⟩;have h3:l.length=s.count 46:=by rw [hx] at h1;simpa using h1
 have h4:((l.length:Int)+1 - 1)=(l.length:Int):=by omega
 have h5:((l++[([]:List UInt8)]).length:Int)=l.length+1:=by simp
 have h6:((l++[x]).length:Int)=l.length+1:=by simp
 have g1:(l++[([]:List UInt8)])[l.length]? =some []:=by simp
 have g2:(l++[x]).getLastD []=x:=by simp [List.getLastD_eq_getLast?]
 have g3:(l++[([]:List UInt8)]).set l.length x=l++[x]:=by simp
 have hk:=Vq s (s.length+1) (by omega) hs (.i .i64 (-1)) .u;rw [hx] at hk ⊢;simp only [l8,List.nil_append,List.dropLast_concat] at hk;simp (disch:=omega) only [Cz7,Ab8,hk,h4,h6,g1,g2,g3,xe,EVP,EV,simprocAttr];have g4:((l.length:Int)+1).toNat=(l++[x]).length:=by simp
 rw [g4,Fc];rfl
theorem Ty (s:List UInt8) (hs:s.length≤1000000):S bj 2 [.s s, .s [46]]=some [Cj (cut s)]:=by refine Fz9 (N:=1) rfl ?_;simp (disch:=omega) only [Fq5,Vk,xe,EVP,EV,simprocAttr]
theorem Qy (s t:List UInt8) (hs:s.length≤9223372036854775807):S jw 2 [.s s, .s t]=some [.b (t.isSuffixOf s)]:=by
 refine Fx4 (N:=1) rfl ?_;by_cases h:t.length≤s.length
 ·have e:((s.length:Int) - (t.length:Int)).toNat=s.length - t.length:=by omega
  simp (disch:=omega) only [Df0,e,xe,EVP,EV,simprocAttr];simp only [Fc];congr 4;rw [Gl,List.isSuffixOf_iff_suffix,decide_eq_true_eq];refine ⟨fun h=>h▸List.drop_suffix _ _,fun h=> ?_⟩;obtain ⟨p,rfl⟩:=h;simp
 ·have h2:t.isSuffixOf s=false:=by rw [Bool.eq_false_iff,ne_eq,List.isSuffixOf_iff_suffix];exact fun h'=>h h'.length_le
  simp (disch:=omega) only [Df0,h2,xe,EVP,EV,simprocAttr]
theorem K8 (s t:List UInt8) (hs:s.length≤9223372036854775807):S jm 2 [.s s, .s t]=some [.b (t.isSuffixOf s)]:=by refine Fb0 (N:=1) rfl ?_;simp (disch:=omega) only [Fq6,Qy,xe,EVP,EV,simprocAttr]
theorem Wv (x y:List UInt8):S Sw 2 [.s x, .s y]=some [.i .i64 (Lib.compareBytes x y)]:=by refine Ds2 (N:=1) rfl ?_;simp (disch:=omega) only [Dg4,Cs2,xe,EVP,EV,simprocAttr]
theorem V9 (x y:List UInt8):S Rt 2 [.s x, .s y]=some [.i .i64 (Lib.compareBytes x y)]:=by refine Fx8 (N:=1) rfl ?_;simp (disch:=omega) only [Fk5,Wv,xe,EVP,EV,simprocAttr]
end Go.X.G
/- Names and their labels. -/
namespace Go.X.G
open Go Go.X
def flat (l:List (List UInt8)):List UInt8:=l.flatMap fun x=>x++[46]
def jn (l:List (List UInt8)):List UInt8:=if l=[] then [46] else flat l
def Jr (first:Bool):List (List UInt8)→Bool
 |[]=>true
 |p::r=>Hc p && (!decide (p=[42])||first) && Jr false r
theorem Cm0:Kf 46=false:=by decide
theorem l4 {p:List UInt8} (h:Hc p=true):(46:UInt8)∉p:=by
 unfold Hc at h;simp at h;rcases h with rfl|⟨_,h⟩
 ·decide
 ·intro h2;have:=h 46 h2;rw [Cm0] at this;cases this
theorem Sp {p:List UInt8}:∀{f:Bool} {l:List (List UInt8)},Jr f l=true→p∈l→Hc p=true
 |f,q::r,h,hp=>by
  simp only [Jr,Ax] at h;rcases Cs.1 hp with rfl|hp
  ·exact h.1.1
  ·exact Sp h.2 hp
theorem O7:∀(m:List UInt8) (f:Bool) (cur:List UInt8),spl f cur (m++[46])=if Jr f (pcs cur m)=true then some (pcs cur m) else none
 |[],f,cur=>by simp only [List.nil_append,spl,if_true,pcs,Jr,Ap,J4];by_cases h:Hc cur=true<;>by_cases h2:cur=[42]<;>cases f<;>simp [h,h2]
 |c::r,f,cur=>by
  simp only [Hb,spl,pcs];by_cases hc:c=46
  ·simp only [if_pos hc];rw [O7 r false []];simp only [Jr];by_cases h:Hc cur=true<;>by_cases h2:cur=[42]<;>cases f<;>by_cases h3:Jr false (pcs [] r)=true<;>simp [h,h2,h3]
  ·simp only [if_neg hc];exact O7 r f (cur++[c])
theorem Py (b:List UInt8):∀(a cur:List UInt8),pcs cur (a++46::b)=pcs cur a++cut b
 |[],cur=>by simp [pcs,cut]
 |c::r,cur=>by
  simp only [Hb,pcs];split
  ·rw [Py b r []];rfl
  ·exact Py b r _
theorem Lz:∀(m cur:List UInt8),flat (pcs cur m)=cur++m++[46]
 |[],cur=>by simp [pcs,flat]
 |c::r,cur=>by
  simp only [pcs];split
  ·rename_i h;have:=Lz r [];simp only [flat,Wc] at this ⊢;rw [this,h];simp
  ·rw [Lz r (cur++[c])];simp
theorem Dt6 (cur m:List UInt8):pcs cur m≠[]:=by
 cases m with
 |nil=>simp [pcs]
 |cons c r=>
  simp only [pcs];split
  ·simp
  ·intro h;have:=Lz r (cur++[c]);rw [h] at this;simp [flat] at this
theorem Yb:∀(l:List (List UInt8)),(∀p∈l,(46:UInt8)∉p)→cut (flat l)=l++[[]]
 |[],_=>rfl
 |p::l,h=>by
  have h1:flat (p::l)=p++46::flat l:=by simp [flat]
  rw [h1];show pcs [] _=_;rw [Py,Pw p [] (h p (by simp)),Yb l (fun q hq=>h q (by simp [hq]))];simp
theorem Mp:∀(l:List (List UInt8)),l≠[]→∃m,flat l=m++[46]
 |[p],_=>⟨p,by simp [flat]⟩
 |p::q::r,_=>by obtain ⟨m,hm⟩:=Mp (q::r) (by simp);exact ⟨p++[46]++m,by simp only [flat,Wc] at hm ⊢;rw [hm];simp⟩
theorem Bq5 {l:List (List UInt8)} (hl:l≠[]) (h:∀p∈l,(46:UInt8)∉p) {m:List UInt8} (hm:flat l=m++[46]):cut m=l:=by
 have h1:=Yb l h;rw [hm] at h1;have h2:cut (m++[46])=cut m++[[]]:=by show pcs [] (m++46::[])=_;rw [Py];rfl
 rw [h2] at h1;exact List.append_cancel_right h1
theorem Cg5 {n:List UInt8} {l:List (List UInt8)} (h:nm n=some l):(n=[46]∧l=[])∨(l≠[]∧Jr true l=true∧n=flat l∧n.length≤254):=by
 unfold nm at h;split at h
 ·rename_i e;injection h with h;exact .inl ⟨e,h.symm⟩
 ·split at h
  ·rename_i h1;right;obtain ⟨h2,h3,h4⟩:=h1;obtain ⟨m,hm⟩:∃m,n=m++[46]:=by
    refine ⟨n.dropLast,?_⟩;have:n≠[]:=by intro e;simp [e] at h2
    have h5:=List.dropLast_concat_getLast this;rw [←h5];congr 1
    ·simp
    ·have h6:n[n.length - 1]? =some (n.getLast this):=by rw [List.getLast_eq_getElem];exact Ab _
     rw [h6] at h4;injection h4 with h4;simp [h4]
   rw [hm,O7] at h;split at h
   ·rename_i h5;injection h with h;subst h;refine ⟨Dt6 _ _,h5,?_,by omega⟩;rw [Lz,hm];simp
   ·cases h
  ·cases h
theorem Cb5 {n:List UInt8}:vld n=true↔nm n=some (lbl n):=by unfold vld lbl;cases nm n<;>simp
theorem vld_cases {n:List UInt8} (h:vld n=true):(n=[46]∧lbl n=[])∨(lbl n≠[]∧Jr true (lbl n)=true∧n=flat (lbl n)∧n.length≤254):=Cg5 (Cb5.1 h)
theorem Bz2 {n:List UInt8} (h:vld n=true):n=jn (lbl n):=by
 unfold jn;rcases vld_cases h with ⟨h1,h2⟩|⟨h1,_,h2,_⟩
 ·rw [h2,if_pos rfl];exact h1
 ·rw [if_neg h1];exact h2
theorem ew {n:List UInt8} (h:vld n=true):n.length≤254:=by
 rcases vld_cases h with ⟨h1,_⟩|⟨_,_,_,h⟩
 ·simp [h1]
 ·exact h
theorem At9:lbl [46]=[]:=rfl
theorem Cm1 {a b:List UInt8} (ha:vld a=true) (hb:vld b=true) (h:lbl a=lbl b):a=b:=by rw [Bz2 ha,Bz2 hb,h]
end Go.X.G
/- Names: what the program's functions give. -/
namespace Go.X.G
open Go Go.X
def ord (s:List UInt8):Bool:=decide (1≤s.length) && decide (s.length≤63) && s.all Kf
theorem l0 (s:List UInt8):Hc s=(decide (s=[42])||ord s):=rfl
theorem Ar3:ord [42]=false:=by decide
theorem Ud (s:List UInt8) (N:Nat) (hN:s.length<N) (hs:s.length≤9223372036854775807):
  Bd3.ev S N [.s s]=some (if s.all Kf=true then .yld 0 [] else .ret [.b false]):=by
 refine Gt s (fun i=>[.i .i64 (i:Int)]) (fun i r=>if r.all Kf=true then .yld 0 [] else .ret [.b false]) rfl hN (fun i c r hd hi hc=> ?_) ?_
 ·have key:Ay7.ev S N ([.s s]++[.i .i64 (i:Int)])=some (if Kf c=true then .yld 1 [.i .i64 ((i:Int)+1)] else .ret [.b false]):=by
   simp (disch:=omega) only [dt,hc,xe,EVP,EV,simprocAttr];unfold Kf
   grind
  rw [key];rcases Ad (Kf c) with h|h<;>simp [h,Out.goes]
 ·simp (disch:=omega) [dt,xe,EVP,EV,simprocAttr,Out.goes]
theorem G3 (s:List UInt8) (hs:s.length≤9223372036854775807):S jl 1 [.s s]=some [.b (ord s)]:=by
 refine Fz8 (N:=s.length+1) rfl ?_;unfold ord;by_cases h1:s=[]
 ·subst h1;simp (disch:=omega) [dt,xe,EVP,EV,simprocAttr]
 ·have h2:1≤s.length:=C4.2 h1;by_cases h3:s.length≤63
  ·simp (disch:=omega) only [dt,Ud,h1,xe,EVP,EV,simprocAttr];cases s.all Kf<;>simp [h2,h3]
  ·simp (disch:=omega) only [dt,h1,xe,EVP,EV,simprocAttr];simp [h3]
def okP (i:Nat) (p:List UInt8):Bool:=ord p||(decide (i=0) && decide (p=[42]))
def As2:Nat→List (List UInt8)→Bool
 |_,[]=>true
 |i,p::r=>okP i p && As2 (i+1) r
theorem Rp:∀(l:List (List UInt8)) (i:Nat),As2 i l=Jr (decide (i=0)) l
 |[],_=>rfl
 |p::r,i=>by
  have h1:=Rp r (i+1);simp only [As2,Jr,h1,okP,l0];by_cases h2:p=[42]
  ·subst h2;by_cases h3:i=0<;>simp [Ar3,h3]
  ·simp [h2]
theorem Ab0 (p q:PV) (l:List (List UInt8)) (hl:l.length≤1000000) (hw:∀x∈l,x.length≤9223372036854775807) (N:Nat) (hN:l.length<N):
  Bd4.ev S N [p,q,Cj l]=some (if As2 0 l=true then .yld 0 [] else .ret [.b false]):=by
 refine Gt l (fun i=>[.i .i64 (i:Int)]) (fun i r=>if As2 i r=true then .yld 0 [] else .ret [.b false]) rfl hN (fun i c r hd hi hc=> ?_) ?_
 ·have hcw:=hw c (Cp hc);have key:Ay9.ev S N ([p,q,Cj l]++[.i .i64 (i:Int)])=some (if okP i c=true then .yld 1 [.i .i64 ((i:Int)+1)] else .ret [.b false]):=by
   rcases Ad (ord c) with h1|h1
   ·simp (disch:=omega) only [Or,G3,hc,h1,xe,EVP,EV,simprocAttr];simp [okP,h1]
   ·by_cases h2:i=0
    ·subst h2;by_cases h3:c=[42]
     ·subst h3;simp (disch:=omega) only [Or,G3,hc,h1,xe,EVP,EV,simprocAttr];simp [okP]
     ·simp (disch:=omega) only [Or,G3,hc,h1,h3,xe,EVP,EV,simprocAttr];simp [okP,h1,h3]
    ·simp (disch:=omega) only [Or,G3,hc,h1,xe,EVP,EV,simprocAttr];simp [okP,h1,h2]
  rw [key];rcases Ad (okP i c) with h|h<;>simp [h,As2,Out.goes]
 ·simp (disch:=omega) only [Or,xe,EVP,EV,simprocAttr];simp [Out.goes,As2]
theorem Px:∀(m cur:List UInt8) (x:List UInt8),x∈pcs cur m→x.length≤cur.length+m.length
 |[],cur,x,h=>by simp [pcs] at h;subst h;simp
 |c::r,cur,x,h=>by
  simp only [pcs] at h;split at h
  ·rcases Cs.1 h with rfl|h
   ·omega
   ·have:=Px r [] x h;simp at this ⊢;omega
  ·have:=Px r _ x h;simp at this ⊢;omega
theorem Bq6 (m x:List UInt8) (h:x∈cut m):x.length≤m.length:=by simpa using Px m [] x h
theorem Ed1 (m:List UInt8):(cut m).length≤m.length+1:=by have:=m7 m;have:m.count 46≤m.length:=List.count_le_length;omega
theorem fj (n:List UInt8):([46]:List UInt8).isSuffixOf n=true↔∃m,n=m++[46]:=by rw [List.isSuffixOf_iff_suffix];exact ⟨fun ⟨m,h⟩=>⟨m,h.symm⟩,fun ⟨m,h⟩=>⟨m,h.symm⟩⟩
theorem Ad3 (m:List UInt8) (hm:m≠[]) (hl:m.length≤253):vld (m++[46])=As2 0 (cut m):=by have h1:m++[46]≠[46]:=fun e=>hm (List.append_cancel_right (bs:=[46]) (by simpa using e));have h2:0<m.length:=C4.2 hm;unfold vld nm;rw [if_neg h1,if_pos ⟨by simp;omega,by simp;omega,by simp⟩,O7,Rp];have e:pcs [] m=cut m:=rfl;have e2:Jr (decide ((0:Nat)=0)) (cut m)=Jr true (cut m):=rfl;rw [e,e2];cases Jr true (cut m)<;>rfl
theorem At8 (m:List UInt8) (h:vld (m++[46])=true) (hm:m≠[]):lbl (m++[46])=cut m:=by
 rcases vld_cases h with ⟨h1,_⟩|⟨h1,h2,h3,_⟩
 ·exact absurd (List.append_cancel_right (bs:=[46]) (by simpa using h1)) hm
 ·exact (Bq5 h1 (fun p hp=>l4 (Sp h2 hp)) h3.symm).symm
theorem Bz (n:List UInt8) (hn:n.length≤9223372036854775807):S Ny 1 [.s n]=some [.b (vld n)]:=by
 refine Fc1 (N:=300) rfl ?_;by_cases h0:n=[46]
 ·subst h0;simp (disch:=omega) only [Or,xe,EVP,EV,simprocAttr];rfl
 ·by_cases h1:255≤n.length
  ·have hv:vld n=false:=by rw [Bool.eq_false_iff];intro h;have:=ew h;omega
   simp (disch:=omega) only [Or,h0,hv,xe,EVP,EV,simprocAttr]
  ·rcases Ad (([46]:List UInt8).isSuffixOf n) with h2|h2
   ·obtain ⟨m,rfl⟩:=(fj n).1 h2;have hm:m≠[]:=fun e=>h0 (by simp [e]);have hl:(m++[46]).length=m.length+1:=by simp
    have hml:m.length≤1000000:=by omega
    have e:List.drop 0 (List.take (((m++[46]).length:Int) - 1).toNat (m++[46]))=m:=by
     have:(((m++[46]).length:Int) - 1).toNat=m.length:=by omega
     rw [this];simp
    have hc:=Ed1 m;have hv:=Ad3 m hm (by omega);have hk:=Ab0 (.s (m++[46])) (.b true) (cut m) (by omega) (fun x hx=>by have:=Bq6 m x hx;omega) 300 (by omega);simp (disch:=omega) only [Or,K8,Ty,e,hk,h0,h2,xe,EVP,EV,simprocAttr];rw [hv];cases As2 0 (cut m)<;>simp
   ·have hv:vld n=false:=by
     rw [Bool.eq_false_iff];intro h;rcases vld_cases h with ⟨h3,_⟩|⟨h3,_,h5,_⟩
     ·exact h0 h3
     ·obtain ⟨m,hm⟩:=Mp _ h3;have:=(fj n).2 ⟨m,h5.trans hm⟩;rw [h2] at this;cases this
    simp (disch:=omega) only [Or,K8,h0,h2,hv,xe,EVP,EV,simprocAttr]
theorem Kp (n:List UInt8) (hn:n.length≤9223372036854775807):S Um 1 [.s n]=some [Cj (lbl n)]:=by
 refine Fx7 (N:=1) rfl ?_;by_cases h0:n=[46]
 ·subst h0;simp (disch:=omega) only [Cz8,At9,xe,EVP,EV,simprocAttr]
 ·rcases Ad (vld n) with h1|h1
  ·obtain ⟨m,hm,rfl⟩:∃m,m≠[]∧n=m++[46]:=by
    rcases vld_cases h1 with ⟨h3,_⟩|⟨h3,_,h5,_⟩
    ·exact absurd h3 h0
    ·obtain ⟨m,hm⟩:=Mp _ h3;exact ⟨m,fun e=>h0 (by rw [h5,hm,e];rfl),h5.trans hm⟩
   have hl:(m++[46]).length=m.length+1:=by simp
   have e:List.drop 0 (List.take (((m++[46]).length:Int) - 1).toNat (m++[46]))=m:=by
    have:(((m++[46]).length:Int) - 1).toNat=m.length:=by omega
    rw [this];simp
   have hl2:=ew h1;have e2:=At8 m h1 hm;simp (disch:=omega) only [Cz8,Bz,Ty,e,e2,h0,h1,xe,EVP,EV,simprocAttr]
  ·have e:lbl n=[]:=by
    unfold lbl;unfold vld at h1;cases h:nm n with
    |none=>rfl
    |some l=>rw [h] at h1;cases h1
   simp (disch:=omega) only [Cz8,Bz,h0,h1,e,xe,EVP,EV,simprocAttr]
end Go.X.G
/- Names: order, common ancestors, wildcards. -/
namespace Go.X.G
open Go Go.X
theorem K5:∀(a:List UInt8),Op.bytesLess a a=false
 |[]=>rfl
 |a::x=>by simp [Op.bytesLess,K5 x]
theorem H4:∀(a b:List UInt8),Lib.compareBytes a b=cmpS a b
 |[],[]=>rfl
 |[],_::_=>rfl
 |_::_,[]=>rfl
 |a::x,b::y=>by
  have ih:=H4 x y;unfold cmpS at ih ⊢;simp only [Lib.compareBytes,Op.bytesLess,ih];by_cases h1:a<b
  ·simp [h1]
  ·by_cases h2:b<a
   ·have h3:a≠b:=fun e=>by subst e;exact h1 h2
    simp [h1,h2,h3]
   ·have h3:a=b:=UInt8.le_antisymm (UInt8.not_lt.1 h2) (UInt8.not_lt.1 h1);subst h3;simp [h1]
theorem Tq {a b:List UInt8}:cmpS a b=0↔a=b:=by
 unfold cmpS;by_cases h:a=b
 ·subst h;simp [K5]
 ·cases h2:Op.bytesLess a b<;>simp [h]
theorem G8 (x y:List UInt8):S Rt 2 [.s x, .s y]=some [.i .i64 (cmpS x y)]:=by rw [V9,H4]
def df:List (List UInt8)→List (List UInt8)→Option Int
 |x::xs,y::ys=>if x=y then df xs ys else some (cmpS x y)
 |_,_=>none
theorem nk:∀(a b:List (List UInt8)),df a b=if P9 a b<a.length∧P9 a b<b.length then some (cmpS (a.getD (P9 a b) []) (b.getD (P9 a b) [])) else none
 |[],b=>by simp [df,P9]
 |x::xs,[]=>by simp [df,P9]
 |x::xs,y::ys=>by
  have ih:=nk xs ys;simp only [df,P9];by_cases h:x=y
  ·simp only [if_pos h,ih];simp
  ·simp [h]
def Cs4 (a b:List (List UInt8)):Int:=match df a.reverse b.reverse with
 |some c=>c
 |none=>if a.length<b.length then -1 else if b.length<a.length then 1 else 0
theorem Yv (a:List (List UInt8)) (k:Nat) (h:k<a.length):a.reverse.getD k []=a.getD (a.length - 1 - k) []:=by simp [A4,List.getElem?_reverse h]
theorem Cs3 {a b:List UInt8} (ha:vld a=true) (hb:vld b=true):nj a b=Cs4 (lbl a) (lbl b):=by
 unfold nj Cs4;rw [nk];have e:P9 (lbl a).reverse (lbl b).reverse=G1 (lbl a) (lbl b):=rfl;rw [e,ha,hb];simp only [List.length_reverse,Bool.and_self,if_true];by_cases h:G1 (lbl a) (lbl b)<(lbl a).length∧G1 (lbl a) (lbl b)<(lbl b).length
 ·rw [if_pos h,if_pos h,Yv _ _ h.1,Yv _ _ h.2]
 ·rw [if_neg h,if_neg h]
theorem Wq (a b:List (List UInt8)) (p1 p2 p3 p4:PV) (ha:a.length≤1000) (hb:b.length≤1000) (N:Nat) (hN:1001<N):
  lq.ev S N [p1,p2,p3,p4,Cj a,Cj b]=some (match df a.reverse b.reverse with|some c=> .ret [.i .i64 c]|none=> .yld 0 []):=by
 have key:=F8 (fn:=S) (N:=N) (η:=[p1,p2,p3,p4,Cj a,Cj b]) (id:=1) (init:=[(.c (.i .i64 (1)))]) (body:=Ay8) (α:=Nat) (fun k=>[.i .i64 ((k:Int)+1)])
  (fun k=>match df (a.reverse.drop k) (b.reverse.drop k) with|some c=> .ret [.i .i64 c]|none=> .yld 0 []) (fun k=>k≤a.length∧k≤b.length) (fun k=>a.length - k) 0 rfl ⟨Cw _,Cw _⟩ (by omega) ?_
 ·simpa [lq] using key
 ·rintro k ⟨h1,h2⟩;by_cases h3:k<a.length
  ·by_cases h4:k<b.length
   ·have e1:((a.length:Int) - ((k:Int)+1)).toNat=a.length - 1 - k:=by omega
    have e2:((b.length:Int) - ((k:Int)+1)).toNat=b.length - 1 - k:=by omega
    have g1:a[a.length - 1 - k]? =some (a[a.length - 1 - k]'(by omega)):=Ab (by omega);have g2:b[b.length - 1 - k]? =some (b[b.length - 1 - k]'(by omega)):=Ab (by omega);have d1:a.reverse.drop k=(a[a.length - 1 - k]'(by omega))::a.reverse.drop (k+1):=by rw [D1 (by simpa using h3)];simp
    have d2:b.reverse.drop k=(b[b.length - 1 - k]'(by omega))::b.reverse.drop (k+1):=by rw [D1 (by simpa using h4)];simp
    rw [d1,d2];generalize (a[a.length - 1 - k]'(by omega))=x at g1;generalize (b[b.length - 1 - k]'(by omega))=y at g2;simp only [df];by_cases h:x=y
    ·left;have h5:cmpS x y=0:=Tq.2 h;refine ⟨k+1,?_,⟨by omega,by omega⟩,by omega,by rw [if_pos h]⟩;simp (disch:=omega) only [T3,G8,e1,e2,g1,g2,h5,xe,EVP,EV,simprocAttr]
    ·right;have h5:¬cmpS x y=0:=fun e=>h (Tq.1 e);rw [if_neg h];simp (disch:=omega) only [T3,G8,e1,e2,g1,g2,h5,xe,EVP,EV,simprocAttr];simp [Out.goes]
   ·right;have d2:b.reverse.drop k=[]:=Es (by simp;omega);have z:df (a.reverse.drop k) []=none:=by cases a.reverse.drop k<;>rfl
    rw [d2,z];simp (disch:=omega) [T3,xe,EVP,EV,simprocAttr,Out.goes]
  ·right;have d1:a.reverse.drop k=[]:=Es (by simp;omega);have z:df [] (b.reverse.drop k)=none:=rfl;rw [d1,z];simp (disch:=omega) [T3,xe,EVP,EV,simprocAttr,Out.goes]
theorem Wk (a b:List UInt8) (hn:a.length≤9223372036854775807) (ht:b.length≤9223372036854775807):S jr 2 [.s a, .s b]=some [.i .i64 (nj a b)]:=by
 refine Fb2 (N:=1002) rfl ?_;have h1:=Hs a;have h2:=Hs b;rcases Ad (vld a) with h3|h3<;>rcases Ad (vld b) with h4|h4
 ·rw [Cs3 h3 h4];unfold Cs4;have hk:=Wq (lbl a) (lbl b) (.s a) (.s b) (.b true) (.b true) (by omega) (by omega) 1002 (by omega);cases h5:df (lbl a).reverse (lbl b).reverse with
  |some c=>
   rw [h5] at hk;simp (disch:=omega) only [T3,Bz,Kp,hk,h3,h4,xe,EVP,EV,simprocAttr]
  |none=>
   rw [h5] at hk;simp (disch:=omega) only [T3,Bz,Kp,hk,h3,h4,xe,EVP,EV,simprocAttr]
   grind
 all_goals unfold nj
 all_goals simp (disch:=omega) only [T3,Bz,G8,h3,h4,xe,EVP,EV,simprocAttr]
 all_goals simp
end Go.X.G
/- The canonical order of names is a total order. -/
namespace Go.X.G
open Go Go.X
structure TO {α:Type} (lt:α→α→Prop):Prop where
 irr:∀a,¬lt a a
 tr:∀a b c,lt a b→lt b c→lt a c
 tri:∀a b,lt a b∨a=b∨lt b a
theorem TO.ntr {α:Type} {lt:α→α→Prop} (h:TO lt) {a b c:α} (h1:¬lt a b) (h2:¬lt b c):¬lt a c:=by
 intro h3;rcases h.tri b a with h4|h4|h4
 ·exact h2 (h.tr _ _ _ h4 h3)
 ·subst h4;exact h2 h3
 ·exact h1 h4
def lex {α:Type} (lt:α→α→Prop):List α→List α→Prop
 |[],[]=>False
 |[],_::_=>True
 |_::_,[]=>False
 |a::x,b::y=>lt a b∨(a=b∧lex lt x y)
theorem kf {α:Type} {lt:α→α→Prop} (h:TO lt):∀x:List α,¬lex lt x x
 |[]=>by simp [lex]
 |a::x=>by simp only [lex,true_and,not_or];exact ⟨h.irr a,kf h x⟩
theorem Bc6 {α:Type} {lt:α→α→Prop} (h:TO lt):∀x y z:List α,lex lt x y→lex lt y z→lex lt x z
 |[],[],_,h1,_=>by simp [lex] at h1
 |[],_::_,[],_,h2=>by simp [lex] at h2
 |[],_::_,_::_,_,_=>by simp [lex]
 |_::_,[],_,h1,_=>by simp [lex] at h1
 |_::_,_::_,[],_,h2=>by simp [lex] at h2
 |a::x,b::y,c::z,h1,h2=>by
  simp only [lex] at h1 h2 ⊢;rcases h1 with h1|⟨rfl,h1⟩
  ·rcases h2 with h2|⟨rfl,h2⟩
   ·exact .inl (h.tr _ _ _ h1 h2)
   ·exact .inl h1
  ·rcases h2 with h2|⟨rfl,h2⟩
   ·exact .inl h2
   ·exact .inr ⟨rfl,Bc6 h x y z h1 h2⟩
theorem lex_tri {α:Type} {lt:α→α→Prop} (h:TO lt):∀x y:List α,lex lt x y∨x=y∨lex lt y x
 |[],[]=> .inr (.inl rfl)
 |[],_::_=> .inl (by simp [lex])
 |_::_,[]=> .inr (.inr (by simp [lex]))
 |a::x,b::y=>by
  simp only [lex];rcases h.tri a b with h1|rfl|h1
  ·exact .inl (.inl h1)
  ·rcases lex_tri h x y with h2|rfl|h2
   ·exact .inl (.inr ⟨rfl,h2⟩)
   ·exact .inr (.inl rfl)
   ·exact .inr (.inr (.inr ⟨rfl,h2⟩))
  ·exact .inr (.inr (.inl h1))
theorem TO.lex {α:Type} {lt:α→α→Prop} (h:TO lt):TO (G.lex lt):=⟨kf h,Bc6 h,lex_tri h⟩
theorem Fw5:TO (fun a b:UInt8=>a<b):=⟨fun a=>UInt8.lt_irrefl a,fun a b c h1 h2=>UInt8.lt_trans h1 h2,fun a b=>by
 rcases UInt8.lt_or_le a b with h|h
 ·exact .inl h
 ·rcases UInt8.lt_or_le b a with h2|h2
  ·exact .inr (.inr h2)
  ·exact .inr (.inl (UInt8.le_antisymm h2 h))⟩
abbrev ltB:List UInt8→List UInt8→Prop:=lex fun a b:UInt8=>a<b
theorem Dl2:TO ltB:=Fw5.lex
abbrev ltL:List (List UInt8)→List (List UInt8)→Prop:=lex ltB
theorem to_L:TO ltL:=Dl2.lex
def ltN (a b:List UInt8):Prop:=if vld a=true then (if vld b=true then ltL (lbl a).reverse (lbl b).reverse else True) else (if vld b=true then False else ltB a b)
theorem Ft4:TO ltN:=by
 refine ⟨fun a h=> ?_,fun a b c h1 h2=> ?_,fun a b=> ?_⟩
 ·unfold ltN at h;split at h
  ·exact to_L.irr _ h
  ·exact Dl2.irr _ h
 ·unfold ltN at*;rcases Ad (vld a) with ha|ha<;>rcases Ad (vld b) with hb|hb<;>rcases Ad (vld c) with hc|hc<;>
   simp only [ha,hb,hc,if_true,Az,if_false] at h1 h2 ⊢
  ·exact to_L.tr _ _ _ h1 h2
  ·exact Dl2.tr _ _ _ h1 h2
 ·unfold ltN;rcases Ad (vld a) with ha|ha<;>rcases Ad (vld b) with hb|hb<;>simp only [ha,hb,if_true,Az,if_false]
  ·rcases to_L.tri (lbl a).reverse (lbl b).reverse with h|h|h
   ·exact .inl h
   ·exact .inr (.inl (Cm1 ha hb (List.reverse_inj.1 h)))
   ·exact .inr (.inr h)
  ·simp
  ·simp
  ·exact Dl2.tri a b
end Go.X.G
/- Stable sorting, in plain words: what is sorted and keeps the order of what is alike is one list alone. -/
namespace Go.X.G
open Go Go.X
structure TP {α:Type} (le:α→α→Bool):Prop where
 tr:∀a b c,le a b=true→le b c=true→le a c=true
 tot:∀a b,le a b=true∨le b a=true
theorem TP.refl {α:Type} {le:α→α→Bool} (h:TP le) (a:α):le a a=true:=by rcases h.tot a a with q|q<;>exact q
def eqv {α:Type} (le:α→α→Bool) (a b:α):Bool:=le a b && le b a
structure Stab {α:Type} (le:α→α→Bool) (r l:List α):Prop where
 sorted:r.Pairwise fun a b=>le a b=true
 cls:∀x,r.filter (eqv le x)=l.filter (eqv le x)
theorem Stab.mem {α:Type} {le:α→α→Bool} (ht:TP le) {r l:List α} (h:Stab le r l) (x:α):x∈r↔x∈l:=by
 have e:eqv le x x=true:=by unfold eqv;rw [ht.refl];rfl
 have h1:x∈r↔x∈r.filter (eqv le x):=by rw [Ek];simp [e]
 have h2:x∈l↔x∈l.filter (eqv le x):=by rw [Ek];simp [e]
 rw [h1,h.cls,←h2]
theorem Xz {α:Type} {le:α→α→Bool} (ht:TP le):∀(r s:List α),(r.Pairwise fun a b=>le a b=true)→(s.Pairwise fun a b=>le a b=true)→(∀x,r.filter (eqv le x)=s.filter (eqv le x))→r=s
 |[],s,_,_,h=>by
  cases s with
  |nil=>rfl
  |cons y t=>
   have:=h y;rw [List.filter_nil,Lf (by unfold eqv;rw [ht.refl];rfl)] at this;cases this
 |x::r,[],_,_,h=>by have:=h x;rw [List.filter_nil,Lf (by unfold eqv;rw [ht.refl];rfl)] at this;cases this
 |x::r,y::s,hr,hs,h=>by
  obtain ⟨r1,r2⟩:=List.pairwise_cons.1 hr;obtain ⟨s1,s2⟩:=List.pairwise_cons.1 hs;have hmem:∀z,z∈x::r↔z∈y::s:=fun z=>by
   have e:eqv le z z=true:=by unfold eqv;rw [ht.refl];rfl
   have a1:z∈x::r↔z∈(x::r).filter (eqv le z):=by rw [Ek];simp [e]
   have a2:z∈y::s↔z∈(y::s).filter (eqv le z):=by rw [Ek];simp [e]
   rw [a1,h,←a2]
  have hxy:le x y=true:=by
   rcases Cs.1 ((hmem y).2 (.head _)) with q|q
   ·rw [q];exact ht.refl x
   ·exact r1 y q
  have hyx:le y x=true:=by
   rcases Cs.1 ((hmem x).1 (.head _)) with q|q
   ·rw [q];exact ht.refl y
   ·exact s1 x q
  have e:x=y:=by have:=h x;rw [Lf (by unfold eqv;rw [ht.refl];rfl),Lf (by unfold eqv;rw [hxy,hyx];rfl)] at this;injection this
  subst e;have:r=s:=Xz ht r s r2 s2 fun z=>by
   have:=h z;simp only [List.filter_cons] at this;split at this
   ·injection this
   ·exact this
  rw [this]
theorem Stab.one {α:Type} {le:α→α→Bool} (ht:TP le) {r s l:List α} (h1:Stab le r l) (h2:Stab le s l):r=s:=
 Xz ht r s h1.sorted h2.sorted fun x=>by rw [h1.cls,h2.cls]
end Go.X.G
/- Sorted lists of names, each once. -/
namespace Go.X.G
open Go Go.X
def Fr7 {α:Type} (e:α→α→Bool):α→List α→List α
 |_,[]=>[]
 |p,c::r=>if e c p=true then Fr7 e c r else c::Fr7 e c r
def cpt {α:Type} (e:α→α→Bool):List α→List α
 |[]=>[]
 |x::r=>x::Fr7 e x r
abbrev eqs {α:Type} [DecidableEq α]:α→α→Bool:=fun a b=>decide (a=b)
def setN (l:List (List UInt8)):List (List UInt8):=cpt eqs (l.mergeSort fun x y=> !decide (nj y x<0))
end Go.X.G
/- Data of records: what the reference's functions give. -/
namespace Go.X.G
open Go Go.X
def Et8 (t:Int):List UInt8:=
 if t=1 then [65] else if t=2 then [78,83] else if t=5 then [67,78,65,77,69] else if t=6 then [83,79,65] else if t=12 then [80,84,82]
 else if t=15 then [77,88] else if t=16 then [84,88,84] else if t=28 then [65,65,65,65] else if t=33 then [83,82,86] else if t=39 then [68,78,65,77,69]
 else if t=43 then [68,83] else if t=46 then [82,82,83,73,71] else if t=47 then [78,83,69,67] else if t=48 then [68,78,83,75,69,89] else []
theorem t15 (t:Int):t=1∨t=2∨t=5∨t=6∨t=12∨t=15∨t=16∨t=28∨t=33∨t=39∨t=43∨t=46∨t=47∨t=48∨(t≠1∧t≠2∧t≠5∧t≠6∧t≠12∧t≠15∧t≠16∧t≠28∧t≠33∧t≠39∧t≠43∧t≠46∧t≠47∧t≠48):=by omega
theorem V8 (t:Int):S jf 1 [.i .i64 t]=some [.s (Et8 t)]:=by
 refine Fy9 (N:=1) rfl ?_;rcases t15 t with rfl|rfl|rfl|rfl|rfl|rfl|rfl|rfl|rfl|rfl|rfl|rfl|rfl|rfl|⟨h0,h1,h2,h3,h4,h5,h6,h7,h8,h9,h10,h11,h12,h13⟩
 all_goals simp (disch:=omega) only [Fq2,xe,EVP,EV,simprocAttr]
 all_goals first|rfl|(unfold Et8;simp only [if_neg, *];rfl)
def knw (t:Int):Bool:=decide (t=1)||decide (t=2)||decide (t=5)||decide (t=6)||decide (t=12)||decide (t=15)||decide (t=16)||decide (t=28)||decide (t=33)||decide (t=39)||decide (t=43)||decide (t=46)||decide (t=47)||decide (t=48)
theorem Bj0 (t:Int):decide (Et8 t≠[])=knw t:=by
 unfold Et8 knw;rcases t15 t with rfl|rfl|rfl|rfl|rfl|rfl|rfl|rfl|rfl|rfl|rfl|rfl|rfl|rfl|⟨h0,h1,h2,h3,h4,h5,h6,h7,h8,h9,h10,h11,h12,h13⟩
 all_goals simp [*]
theorem Bd (t:Int):S Pp 1 [.i .i64 t]=some [.b (knw t)]:=by refine Fb8 (N:=1) rfl ?_;simp (disch:=omega) only [Fq9,V8,Bj0,xe,EVP,EV,simprocAttr]
def Cg (d:Dat):Bool:=d.v6||(decide (d.hi=0) && decide (d.lo<4294967296))
theorem Tx (d:Dat):S ah 1 [Gh d]=some [.b (Cg d)]:=by refine Fy7 (N:=1) rfl ?_;unfold Cg;cases h:d.v6<;>by_cases h2:d.hi=0<;>simp (disch:=omega) [Fq0,h,h2,xe,EVP,EV,simprocAttr]
def inB (n most:Int):Bool:=decide (0≤n) && decide (n≤most)
theorem bh (n m:Int):S Gn 2 [.i .i64 n, .i .i64 m]=some [.b (inB n m)]:=by refine Fy4 (N:=1) rfl ?_;simp (disch:=omega) only [Fk8,inB,xe,EVP,EV,simprocAttr]
theorem Ab2 (n:Int):S jc 1 [.i .i64 n]=some [.b (inB n 4294967295)]:=by refine Fy5 (N:=1) rfl ?_;simp (disch:=omega) only [Fk9,inB,xe,EVP,EV,simprocAttr];congr 5;simp;omega
def Ev (s:List UInt8):Bool:=decide (1≤s.length) && decide (s.length≤255)
theorem O4 (s:List UInt8):S Un 1 [.s s]=some [.b (Ev s)]:=by refine Fy3 (N:=1) rfl ?_;simp (disch:=omega) only [Fk7,Ev,xe,EVP,EV,simprocAttr];congr 5<;>simp<;>omega
theorem eq {n:List UInt8} (h:vld n=true):0<n.length:=by
 unfold vld nm at h;split at h
 ·rename_i e;simp [e]
 ·split at h
  ·omega
  ·cases h
def D5 (n:List UInt8):Bool:=vld n && decide (n[0]? ≠some 42)
theorem Fq (n:List UInt8) (hn:n.length≤9223372036854775807):S Nw 1 [.s n]=some [.b (D5 n)]:=by
 refine Fy6 (N:=1) rfl ?_;unfold D5;cases h:vld n
 ·simp (disch:=omega) only [Df3,J2,h,xe,EVP,EV,simprocAttr];rfl
 ·have h0:=Ab (eq h);have h1:=Cb7 (n[0]'(eq h)) 42 (by omega);simp (disch:=omega) only [Df3,J2,h,h0,xe,EVP,EV,simprocAttr];simp;exact h1
def bit (set:Int) (t:Nat):Int:=set / 2 ^ t % 2
theorem Es7 (x:Int):IntKind.u64.wrap ((BitVec.ofInt IntKind.u64.bits x &&& BitVec.ofInt IntKind.u64.bits 1).toNat:Int)=x % 2:=by
 have h2:(BitVec.ofInt 64 x &&& BitVec.ofInt 64 1).toNat=(BitVec.ofInt 64 x).toNat % 2:=by rw [BitVec.toNat_and];show (BitVec.ofInt 64 x).toNat &&& 1=_;exact Nat.and_one_is_mod _
 show IntKind.u64.wrap (((BitVec.ofInt 64 x &&& BitVec.ofInt 64 1).toNat:Nat):Int)=_;rw [h2,BitVec.toNat_ofInt];rw [Fv1]<;>omega
end Go.X.G
/- Data of records: bytes. -/
namespace Go.X.G
open Go Go.X
def Yt (set:Int) (i:Nat):Nat→Bool
 |0=>true
 |k+1=>(!decide (bit set i=1)||knw (i:Int)) && Yt set (i+1) k
theorem Es9 (set:Int) (N:Nat) (hN:64<N):
  Bc9.ev S N [.i .u64 set]=some (if Yt set 0 64=true then .yld 0 [] else .ret [.b false]):=by
 refine Fs 64 (fun i=>[.i .i64 (i:Int)]) (fun i=>if Yt set i (64 - i)=true then .yld 0 [] else .ret [.b false]) rfl hN (fun i hi=> ?_) ?_
 ·obtain ⟨k,hk⟩:∃k,64 - i=k+1:=⟨63 - i,by omega⟩;have hk':64 - (i+1)=k:=by omega
  have hb:IntKind.u64.bits=64:=rfl;have hi':i<IntKind.u64.bits:=by rw [hb];exact hi
  have h0:X.bin .shr (.i .u64 set) (.i .u64 (i:Int))=some (.i .u64 (set / 2 ^ i)):=Y6 _ _ _ _ hi';have h1:set / 2 ^ i % 2=bit set i:=rfl;rw [hk,hk'];simp only [Yt];by_cases h2:bit set i=1<;>rcases Ad (knw (i:Int)) with h3|h3<;>simp (disch:=omega) only [Cz9,Bd,M6,Es7,h0,h1,h2,h3,xe,EVP,EV,simprocAttr]
  all_goals simp [Out.goes]
 ·simp (disch:=omega) [Cz9,xe,EVP,EV,simprocAttr,Out.goes,Yt]
theorem Es8 (set:Int):S jb 1 [.i .u64 set]=some [.b (Yt set 0 64)]:=by refine Fy2 (N:=65) rfl ?_;simp (disch:=omega) only [Cz9,Es9,xe,EVP,EV,simprocAttr];cases Yt set 0 64<;>rfl
def be (v:Int):Nat→List UInt8
 |0=>[]
 |n+1=>UInt8.ofNat (v / 256 ^ n % 256).toNat::be v n
theorem Cd (v:Int):∀n,(be v n).length=n
 |0=>rfl
 |n+1=>by simp [be,Cd v n]
theorem Mx (z:Int) (h1:0≤z) (h2:z<256):((UInt8.ofNat z.toNat).toNat:Int)=z:=by simp;omega
theorem Vn (v:Int) (j:Nat):v / 256 ^ j / 256=v / 256 ^ (j+1):=by rw [Int.pow_succ,Int.ediv_ediv_of_nonneg (Int.le_of_lt (Int.pow_pos (by decide)))]
theorem S8 (v:Int) (j:Nat) (h:0≤v):0≤v / 256 ^ j:=Int.ediv_nonneg h (Int.le_of_lt (Int.pow_pos (by decide)))
theorem S9 (v:Int) (j:Nat) (h:0≤v):v / 256 ^ j≤v:=Int.ediv_le_self _ h
theorem i9 (v:Int) (n i:Nat) (p q:PV) (N:Nat) (hN:i<N) (hi:i≤1000) (h0:0≤v) (h1:v≤18446744073709551615):
  kg.ev S N [.i .u64 v,p,q, .i .i64 (i:Int)]=some (.yld 2 [.i .u64 (v / 256 ^ i)]):=by
 refine Fs i (fun j=>[.i .u64 (v / 256 ^ j), .i .i64 (j:Int)]) (fun j=> .yld 2 [.i .u64 (v / 256 ^ i)]) (by simp [P4,Vb,Fp2,Fp6]) hN (fun j hj=> ?_) ?_
 ·left;have h2:=S8 v j h0;have h3:=S9 v j h0;have h4:=Vn v j;simp (disch:=omega) only [Qr,h4,xe,EVP,EV,simprocAttr];simp
 ·simp (disch:=omega) only [Qr,xe,EVP,EV,simprocAttr];simp [Out.goes]
theorem jj (v:Int) (n:Nat) (N:Nat) (hN:n+1<N) (hn:n≤1000) (h0:0≤v) (h1:v≤18446744073709551615):
  U5.ev S N [.i .u64 v, .i .i64 (n:Int)]=some (.yld 0 [.l 1 (A8 (be v n))]):=by
 have key:=F8 (fn:=S) (N:=N) (η:=[.i .u64 v, .i .i64 (n:Int)]) (id:=1) (init:=[(.c (.l 1 [])),(.bin .sub (.v 1) (.c (.i .i64 (1))))]) (body:=V2) (α:=Nat×List UInt8) (fun a=>[.l 1 (A8 a.2), .i .i64 ((a.1:Int) - 1)]) (fun a=> .yld 0 [.l 1 (A8 (a.2++be v a.1))]) (fun a=>a.1+a.2.length=n) (fun a=>a.1) (n,[]) (by simp (disch:=omega) only [xe,EVP,EV,simprocAttr];rfl) rfl (by simp only;omega) ?_
 ·simpa [U5] using key
 ·rintro ⟨m,acc⟩ hm;simp only at hm ⊢;cases m with
  |zero=>
   right;simp (disch:=omega) only [Qr,xe,EVP,EV,simprocAttr];simp [be,Out.goes]
  |succ m=>
   left;have h2:=S8 v m h0;have h3:=S9 v m h0;have e:((m+1:Nat):Int) - 1=(m:Int):=by omega
   have e2:=Mx (v / 256 ^ m % 256) (by omega) (by omega);have e3:=H5 acc;refine ⟨(m,acc++[UInt8.ofNat (v / 256 ^ m % 256).toNat]),?_,by simp;omega,by simp,by simp [be]⟩;rw [e];have hin:=i9 v n m (.i .i64 (n:Int)) (.l 1 (A8 acc)) N (by omega) (by omega) h0 h1;simp (disch:=omega) only [Qr,hin,xe,EVP,EV,simprocAttr];rw [←Km,e2]
theorem My (v:Int) (n:Nat) (hn:n≤1000) (h0:0≤v) (h1:v≤18446744073709551615):S Mz 2 [.i .u64 v, .i .i64 (n:Int)]=some [.s (be v n)]:=by refine Dp5 (N:=n+2) rfl ?_;simp (disch:=omega) only [Qr,jj,xe,EVP,EV,simprocAttr]
theorem Ab3 (v:Int) (n i:Nat) (p q:PV) (N:Nat) (hN:i<N) (hi:i≤1000) (h0:0≤v) (h1:v≤9223372036854775807):
  kr.ev S N [.i .i64 v,p,q, .i .i64 (i:Int)]=some (.yld 2 [.i .i64 (v / 256 ^ i)]):=by
 refine Fs i (fun j=>[.i .i64 (v / 256 ^ j), .i .i64 (j:Int)]) (fun j=> .yld 2 [.i .i64 (v / 256 ^ i)]) (by simp [P4,Vb,Fp2,Fp6]) hN (fun j hj=> ?_) ?_
 ·left;have h2:=S8 v j h0;have h3:=S9 v j h0;have h4:=Vn v j;simp (disch:=omega) only [Qs,h4,xe,EVP,EV,simprocAttr];simp
 ·simp (disch:=omega) only [Qs,xe,EVP,EV,simprocAttr];simp [Out.goes]
theorem Ab4 (v:Int) (n:Nat) (N:Nat) (hN:n+1<N) (hn:n≤1000) (h0:0≤v) (h1:v≤9223372036854775807):
  U6.ev S N [.i .i64 v, .i .i64 (n:Int)]=some (.yld 0 [.l 1 (A8 (be v n))]):=by
 have key:=F8 (fn:=S) (N:=N) (η:=[.i .i64 v, .i .i64 (n:Int)]) (id:=1) (init:=[(.c (.l 1 [])),(.bin .sub (.v 1) (.c (.i .i64 (1))))]) (body:=V3) (α:=Nat×List UInt8) (fun a=>[.l 1 (A8 a.2), .i .i64 ((a.1:Int) - 1)]) (fun a=> .yld 0 [.l 1 (A8 (a.2++be v a.1))]) (fun a=>a.1+a.2.length=n) (fun a=>a.1) (n,[]) (by simp (disch:=omega) only [xe,EVP,EV,simprocAttr];rfl) rfl (by simp only;omega) ?_
 ·simpa [U6] using key
 ·rintro ⟨m,acc⟩ hm;simp only at hm ⊢;cases m with
  |zero=>
   right;simp (disch:=omega) only [Qs,xe,EVP,EV,simprocAttr];simp [be,Out.goes]
  |succ m=>
   left;have h2:=S8 v m h0;have h3:=S9 v m h0;have e:((m+1:Nat):Int) - 1=(m:Int):=by omega
   have e2:=Mx (v / 256 ^ m % 256) (by omega) (by omega);have e3:=H5 acc;refine ⟨(m,acc++[UInt8.ofNat (v / 256 ^ m % 256).toNat]),?_,by simp;omega,by simp,by simp [be]⟩;rw [e];have hin:=Ab3 v n m (.i .i64 (n:Int)) (.l 1 (A8 acc)) N (by omega) (by omega) h0 h1;simp (disch:=omega) only [Qs,hin,xe,EVP,EV,simprocAttr];rw [←Km,e2]
theorem H8 (v:Int) (n:Nat) (hn:n≤1000) (h0:0≤v) (h1:v≤9223372036854775807):S Dx 2 [.i .i64 v, .i .i64 (n:Int)]=some [.s (be v n)]:=by refine Dr2 (N:=n+2) rfl ?_;simp (disch:=omega) only [Qs,Ab4,xe,EVP,EV,simprocAttr]
end Go.X.G
/- Data of records: the wire form. -/
namespace Go.X.G
open Go Go.X
theorem Mh {s:List UInt8} (h:Hc s=true):s.length≤63:=by
 unfold Hc at h;simp at h;rcases h with h|h
 ·simp [h]
 ·omega
theorem O8:∀(r:List UInt8) (f:Bool) (cur:List UInt8) (l:List (List UInt8)),spl f cur r=some l→∀x∈l,Hc x=true
 |[],f,cur,l,h=>by simp [spl] at h;subst h;simp
 |c::r,f,cur,l,h=>by
  simp only [spl] at h;split at h
  ·split at h
   ·rename_i h2;obtain ⟨m,hm,rfl⟩:=Aq.1 h;intro x hx;simp at hx;rcases hx with rfl|hx
    ·exact h2.1
    ·exact O8 r _ _ _ hm x hx
   ·cases h
  ·exact O8 r _ _ _ h
theorem Jm (n:List UInt8):∀x∈lbl n,Hc x=true:=by
 unfold lbl nm;split
 ·simp
 ·split
  ·cases h:spl true [] n with
   |none=>simp
   |some l=>simpa using O8 _ _ _ _ h
  ·simp
def wireL (l:List (List UInt8)):List UInt8:=l.flatMap fun x=>be (x.length:Int) 1++x
def Fp (n:List UInt8):List UInt8:=wireL (lbl n)++be 0 1
theorem Jv:∀(l:List (List UInt8)),(∀x∈l,Hc x=true)→(wireL l).length≤64*l.length
 |[],_=>by simp [wireL]
 |x::l,h=>by have h1:=Mh (h x (by simp));have h2:=Jv l (fun y hy=>h y (by simp [hy]));simp only [wireL,Wc,Al,Cd,Cz] at h2 ⊢;omega
theorem Jq (n:List UInt8):(Fp n).length≤20000:=by have h1:=Jv (lbl n) (Jm n);have h2:=Hs n;simp only [Fp,Al,Cd];omega
theorem V7 (n:List UInt8) (N:Nat) (hN:254<N):
  U7.ev S N [.s n,Cj (lbl n)]=some (.yld 0 [.s (wireL (lbl n))]):=by
 have hl:=Hs n;have key:=Pt (fn:=S) (N:=N) (η:=[.s n,Cj (lbl n)]) (id:=1) (init:=[(.c (.s [])),(.c (.i .i64 (0)))]) (body:=V4) (lbl n) (fun i (g:List UInt8)=>[.s g, .i .i64 (i:Int)]) (fun i g r=> .yld 0 [.s (g++wireL r)]) (fun i g=>g.length≤64*i) [] rfl (Ag _) (by omega) (fun i g c r hd hi hc hI=> ?_) (fun g hI=> ?_)
 ·simpa [U7] using key
 ·left;have h1:=Mh (Jm n c (Cp hc));have h2:=H8 (c.length:Int) 1 (by omega) (by omega) (by omega);have h3:=Cd (c.length:Int) 1;have h4:(be (c.length:Int) 1++c).length=1+c.length:=by rw [Al,h3]
  refine ⟨g++(be (c.length:Int) 1++c),?_,?_,?_⟩
  ·simp only [Int.natCast_one] at h2;simp (disch:=omega) only [d5,hc,h2,xe,EVP,EV,simprocAttr]
  ·rw [Al,h4];omega
  ·simp [wireL]
 ·simp (disch:=omega) only [d5,xe,EVP,EV,simprocAttr];simp [Out.goes,wireL]
theorem C8 (n:List UInt8) (hn:n.length≤9223372036854775807):S Hp 1 [.s n]=some [.s (Fp n)]:=by refine Dr3 (N:=255) rfl ?_;have h1:=Jv (lbl n) (Jm n);have h2:=Hs n;have h3:=Cd 0 1;have h4:=H8 0 1 (by omega) (by omega) (by omega);simp only [Int.natCast_one] at h4;simp (disch:=omega) only [d5,dk,V7,h4,xe,EVP,EV,simprocAttr];rfl
def bmV (set:Int) (i:Nat):Nat→Int
 |0=>0
 |j+1=>bmV set i j*2+bit set (i*8+j)
theorem Ax8 (set:Int) (t:Nat):0≤bit set t∧bit set t≤1:=by unfold bit;omega
theorem Od (set:Int) (i:Nat):∀j,0≤bmV set i j∧bmV set i j<2 ^ j
 |0=>by simp [bmV]
 |j+1=>by have h1:=Od set i j;have h2:=Ax8 set (i*8+j);simp only [bmV,Int.pow_succ];omega
def bmB (set:Int) (i:Nat):UInt8:=UInt8.ofNat (bmV set i 8).toNat
def bmL (set:Int):Nat→Nat
 |0=>0
 |i+1=>if bmV set i 8≠0 then i+1 else bmL set i
theorem Ax1 (set:Int):∀i,bmL set i≤i
 |0=>Ag _
 |i+1=>by have:=Ax1 set i;simp only [bmL];split<;>omega
def bmap (set:Int):List UInt8:=((List.range 8).map (bmB set)).take (bmL set 8)
theorem Ax5 (set:Int) (p q:PV) (i:Nat) (hi:i<8) (N:Nat) (hN:8<N):
  km.ev S N [.i .u64 set,p,q, .i .i64 (i:Int)]=some (.yld 2 [.i .i64 (bmV set i 8)]):=by
 refine Fs 8 (fun j=>[.i .i64 (bmV set i j), .i .i64 (j:Int)]) (fun j=> .yld 2 [.i .i64 (bmV set i 8)]) rfl hN (fun j hj=> ?_) ?_
 ·left;have hb:IntKind.u64.bits=64:=rfl;have hi':i*8+j<IntKind.u64.bits:=by rw [hb];omega
  have e:((i:Int)*8+(j:Int))=((i*8+j:Nat):Int):=by simp
  have h0:X.bin .shr (.i .u64 set) (.i .u64 ((i*8+j:Nat):Int))=some (.i .u64 (set / 2 ^ (i*8+j))):=Y6 _ _ _ _ hi';have h1:set / 2 ^ (i*8+j) % 2=bit set (i*8+j):=rfl;have h2:=Od set i j;have h3:(2:Int) ^ j≤128:=(by decide:∀j,j<8→(2:Int) ^ j≤128) j hj;have h4:=Ax8 set (i*8+j);simp (disch:=omega) only [Nc,M6,Es7,h0,h1,←e,xe,EVP,EV,simprocAttr];refine ⟨?_,trivial⟩;rw [e,h0];simp (disch:=omega) only [M6,Es7,h0,h1,xe,EVP,EV,simprocAttr];rfl
 ·simp (disch:=omega) only [Nc,xe,EVP,EV,simprocAttr];simp [Out.goes]
theorem Ax6 (set:Int) (N:Nat) (hN:8<N):
  lz.ev S N [.i .u64 set]=some (.yld 0 [.l 1 (A8 ((List.range 8).map (bmB set))), .i .i64 (bmL set 8:Int)]):=by
 refine Fs 8 (fun i=>[.l 1 (A8 ((List.range i).map (bmB set))), .i .i64 (bmL set i:Int), .i .i64 (i:Int)]) (fun _=> .yld 0 [.l 1 (A8 ((List.range 8).map (bmB set))), .i .i64 (bmL set 8:Int)]) rfl hN (fun i hi=> ?_) ?_
 ·left;have h1:=Ax5 set (.l 1 (A8 ((List.range i).map (bmB set)))) (.i .i64 (bmL set i:Int)) i hi N hN;have h2:=Od set i 8;have h3:(2:Int) ^ 8=256:=rfl;have h4:=Mx (bmV set i 8) (by omega) (by omega);have h5:(A8 ((List.range i).map (bmB set))).length=i:=by simp [H5]
  have h6:A8 ((List.range (i+1)).map (bmB set))=A8 ((List.range i).map (bmB set))++[.i .u8 (bmV set i 8)]:=by rw [List.range_succ,List.map_append,←h4];exact (Km _ _).symm
  rw [h6];by_cases h7:bmV set i 8=0
  ·simp (disch:=omega) only [Nc,h1,bmL,h7,xe,EVP,EV,simprocAttr];simp
  ·simp (disch:=omega) only [Nc,h1,bmL,xe,EVP,EV,simprocAttr];simp [h7]
 ·simp (disch:=omega) only [Nc,xe,EVP,EV,simprocAttr];simp [Out.goes]
theorem Ax4 (set:Int):S R8 1 [.i .u64 set]=some [.s (bmap set)]:=by
 refine Dr1 (N:=9) rfl ?_;have h1:=Ax1 set 8;have h2:(A8 ((List.range 8).map (bmB set))).length=8:=by simp [H5]
 have h3:List.drop 0 (List.take (bmL set 8) (A8 ((List.range 8).map (bmB set))))=A8 (bmap set):=by simp only [F6,bmap,A8,List.map_take]
 simp (disch:=omega) only [Nc,Ax6,h3,xe,EVP,EV,simprocAttr]
theorem Qk (set:Int):(bmap set).length≤8:=by simp [bmap];omega
def Jw (d:Dat):List UInt8:=if d.v6 then be d.hi 8++be d.lo 8 else be d.lo 4
theorem Y2 (d:Dat) (h:d.wf):S R9 1 [Gh d]=some (if Cg d=true then [.s (Jw d), .i .i64 0] else [.s [], .i .i64 3]):=by refine Dr4 (N:=1) rfl ?_;have h1:=h.hi;have h2:=h.lo;have a1:=My d.hi 8 (by omega) h1.1 h1.2;have a2:=My d.lo 8 (by omega) h2.1 h2.2;have a3:=My d.lo 4 (by omega) h2.1 h2.2;have b1:=Cd d.hi 8;have b2:=Cd d.lo 8;simp only [Int.cast_ofNat_Int] at a1 a2 a3;unfold Jw;rcases Ad (Cg d) with h3|h3<;>rcases Ad d.v6 with h4|h4<;>simp (disch:=omega) only [Dg0,Tx,h3,h4,a1,a2,a3,xe,EVP,EV,simprocAttr]
def usd (t:Int) (d:Dat):Dat:=
 if t=1∨t=28 then ⟨d.v6,d.hi,d.lo,[],[],[],0,0,0,0,0,0,0⟩
 else if t=2∨t=5∨t=12∨t=39 then ⟨false,0,0,d.host,[],[],0,0,0,0,0,0,0⟩
 else if t=6 then ⟨false,0,0,d.host,d.mail,[],d.a,d.b,d.c,d.d,d.e,0,0⟩
 else if t=15 then ⟨false,0,0,d.host,[],[],d.a,0,0,0,0,0,0⟩
 else if t=16 then ⟨false,0,0,[],[],d.text,0,0,0,0,0,0,0⟩
 else if t=33 then ⟨false,0,0,d.host,[],[],d.a,d.b,d.c,0,0,0,0⟩
 else if t=43∨t=48 then ⟨false,0,0,[],[],d.text,d.a,d.b,d.c,0,0,0,0⟩
 else if t=46 then ⟨false,0,0,d.host,[],d.text,d.a,d.b,d.c,d.d,d.e,d.f,0⟩
 else ⟨false,0,0,d.host,[],[],0,0,0,0,0,0,d.bits⟩
theorem Eh (t:Int) (d:Dat):S jd 2 [.i .i64 t,d.pv]=some [(usd t d).pv]:=by
 refine Fy8 (N:=1) rfl ?_;rcases t15 t with rfl|rfl|rfl|rfl|rfl|rfl|rfl|rfl|rfl|rfl|rfl|rfl|rfl|rfl|⟨h0,h1,h2,h3,h4,h5,h6,h7,h8,h9,h10,h11,h12,h13⟩
 all_goals simp (disch:=omega) only [Fq1,xe,EVP,EV,simprocAttr]
 all_goals first|rfl|(unfold usd;simp [*])
end Go.X.G
/- Data of records: which are valid. -/
namespace Go.X.G
open Go Go.X
def Bl (t:Int) (d:Dat):Bool:=
 if t=1 then Cg d && !d.v6
 else if t=28 then d.v6
 else if t=6 then D5 d.host && D5 d.mail && inB d.a 4294967295 && inB d.b 2147483647 && inB d.c 2147483647 && inB d.d 2147483647 && inB d.e 2147483647
 else if t=15 then D5 d.host && inB d.a 65535
 else if t=16 then decide (d.text.length≤255)
 else if t=33 then D5 d.host && inB d.a 65535 && inB d.b 65535 && inB d.c 65535
 else if t=43 then inB d.a 65535 && inB d.b 255 && inB d.c 255 && Ev d.text
 else if t=46 then knw d.a && decide (d.a≠46) && inB d.b 127 && inB d.c 2147483647 && inB d.d 4294967295 && inB d.e 4294967295 && inB d.f 65535 && D5 d.host && Ev d.text
 else if t=47 then vld d.host && decide (d.bits≠0) && Yt d.bits 0 64
 else if t=48 then (decide (d.a=256)||decide (d.a=257)) && decide (d.b=3) && inB d.c 255 && Ev d.text
 else D5 d.host
def Ch (t:Int) (d:Dat):Bool:=knw t && decide (usd t d=d) && Bl t d
theorem Dk (t:Int) (d:Dat) (h:d.wf):S bw 2 [.i .i64 t,d.pv]=some [.b (Ch t d)]:=by
 refine Fb7 (N:=1) rfl ?_;have g1:=h.host;have g2:=h.mail;have g3:=h.text;unfold Y5 at g1 g2 g3;rcases Ad (knw t) with hk|hk
 ·by_cases hu:usd t d=d
  ·rcases t15 t with rfl|rfl|rfl|rfl|rfl|rfl|rfl|rfl|rfl|rfl|rfl|rfl|rfl|rfl|⟨h0,h1,h2,h3,h4,h5,h6,h7,h8,h9,h10,h11,h12,h13⟩
   ·rcases ch2 (Cg d) (d.v6) with e0|⟨e0,e1⟩|⟨e0,e1⟩
    all_goals simp (disch:=omega) only [Ih,Bd,Eh,Tx,xe,EVP,EV,simprocAttr,hk,hu, *]
    all_goals (unfold Ch Bl;simp [*])
   ·simp (disch:=omega) only [Ih,Bd,Eh,Fq,xe,EVP,EV,simprocAttr,hk,hu];unfold Ch Bl;simp [*]
   ·simp (disch:=omega) only [Ih,Bd,Eh,Fq,xe,EVP,EV,simprocAttr,hk,hu];unfold Ch Bl;simp [*]
   ·rcases ch7 (D5 d.host) (D5 d.mail) (inB d.a 4294967295) (inB d.b 2147483647) (inB d.c 2147483647) (inB d.d 2147483647) (inB d.e 2147483647) with e0|⟨e0,e1⟩|⟨e0,e1,e2⟩|⟨e0,e1,e2,e3⟩|⟨e0,e1,e2,e3,e4⟩|⟨e0,e1,e2,e3,e4,e5⟩|⟨e0,e1,e2,e3,e4,e5,e6⟩|⟨e0,e1,e2,e3,e4,e5,e6⟩
    all_goals simp (disch:=omega) only [Ih,Bd,Eh,Fq,Ab2,bh,xe,EVP,EV,simprocAttr,hk,hu, *]
    all_goals (unfold Ch Bl;simp [*])
   ·simp (disch:=omega) only [Ih,Bd,Eh,Fq,xe,EVP,EV,simprocAttr,hk,hu];unfold Ch Bl;simp [*]
   ·rcases ch2 (D5 d.host) (inB d.a 65535) with e0|⟨e0,e1⟩|⟨e0,e1⟩
    all_goals simp (disch:=omega) only [Ih,Bd,Eh,Fq,bh,xe,EVP,EV,simprocAttr,hk,hu, *]
    all_goals (unfold Ch Bl;simp [*])
   ·simp (disch:=omega) only [Ih,Bd,Eh,Fq,xe,EVP,EV,simprocAttr,hk,hu];unfold Ch Bl;simp [*];omega
   ·simp (disch:=omega) only [Ih,Bd,Eh,Fq,xe,EVP,EV,simprocAttr,hk,hu];unfold Ch Bl;simp [*]
   ·rcases ch4 (D5 d.host) (inB d.a 65535) (inB d.b 65535) (inB d.c 65535) with e0|⟨e0,e1⟩|⟨e0,e1,e2⟩|⟨e0,e1,e2,e3⟩|⟨e0,e1,e2,e3⟩
    all_goals simp (disch:=omega) only [Ih,Bd,Eh,Fq,bh,xe,EVP,EV,simprocAttr,hk,hu, *]
    all_goals (unfold Ch Bl;simp [*])
   ·simp (disch:=omega) only [Ih,Bd,Eh,Fq,xe,EVP,EV,simprocAttr,hk,hu];unfold Ch Bl;simp [*]
   ·rcases ch4 (inB d.a 65535) (inB d.b 255) (inB d.c 255) (Ev d.text) with e0|⟨e0,e1⟩|⟨e0,e1,e2⟩|⟨e0,e1,e2,e3⟩|⟨e0,e1,e2,e3⟩
    all_goals simp (disch:=omega) only [Ih,Bd,Eh,bh,O4,xe,EVP,EV,simprocAttr,hk,hu, *]
    all_goals (unfold Ch Bl;simp [*])
   ·rcases ch9 (knw d.a) (decide (d.a≠46)) (inB d.b 127) (inB d.c 2147483647) (inB d.d 4294967295) (inB d.e 4294967295) (inB d.f 65535) (D5 d.host) (Ev d.text) with e0|⟨e0,e1⟩|⟨e0,e1,e2⟩|⟨e0,e1,e2,e3⟩|⟨e0,e1,e2,e3,e4⟩|⟨e0,e1,e2,e3,e4,e5⟩|⟨e0,e1,e2,e3,e4,e5,e6⟩|⟨e0,e1,e2,e3,e4,e5,e6,e7⟩|⟨e0,e1,e2,e3,e4,e5,e6,e7,e8⟩|⟨e0,e1,e2,e3,e4,e5,e6,e7,e8⟩
    all_goals simp (disch:=omega) only [Ih,Bd,Eh,Fq,bh,O4,xe,EVP,EV,simprocAttr,hk,hu, *]
    all_goals (unfold Ch Bl;simp [*])
   ·rcases ch3 (vld d.host) (decide (d.bits≠0)) (Yt d.bits 0 64) with e0|⟨e0,e1⟩|⟨e0,e1,e2⟩|⟨e0,e1,e2⟩
    all_goals simp (disch:=omega) only [Ih,Bd,Eh,J2,Es8,xe,EVP,EV,simprocAttr,hk,hu, *]
    all_goals (unfold Ch Bl;simp [*])
   ·rcases ch4 (decide (d.a=256)||decide (d.a=257)) (decide (d.b=3)) (inB d.c 255) (Ev d.text) with e0|⟨e0,e1⟩|⟨e0,e1,e2⟩|⟨e0,e1,e2,e3⟩|⟨e0,e1,e2,e3⟩
    all_goals simp (disch:=omega) only [Ih,Bd,Eh,bh,O4,xe,EVP,EV,simprocAttr,hk,hu, *]
    all_goals (unfold Ch Bl;simp [*])
   ·simp [knw, *] at hk
  ·simp (disch:=omega) only [Ih,Bd,Eh,xe,EVP,EV,simprocAttr,hk,hu];unfold Ch;simp [hu]
 ·simp (disch:=omega) only [Ih,Bd,xe,EVP,EV,simprocAttr,hk];unfold Ch;simp [hk]
def Gq (t:Int) (d:Dat):List UInt8:=
 if t=1∨t=28 then Jw d
 else if t=6 then Fp d.host++Fp d.mail++be d.a 4++be d.b 4++be d.c 4++be d.d 4++be d.e 4
 else if t=15 then be d.a 2++Fp d.host
 else if t=16 then be (d.text.length:Int) 1++d.text
 else if t=33 then be d.a 2++be d.b 2++be d.c 2++Fp d.host
 else if t=43∨t=48 then be d.a 2++be d.b 1++be d.c 1++d.text
 else if t=46 then be d.a 2++be 253 1++be d.b 1++be d.c 4++be d.d 4++be d.e 4++be d.f 2++Fp d.host++d.text
 else if t=47 then Fp d.host++be 0 1++be ((bmap d.bits).length:Int) 1++bmap d.bits
 else Fp d.host
theorem knw_cases {t:Int} (h:knw t=true):t=1∨t=2∨t=5∨t=6∨t=12∨t=15∨t=16∨t=28∨t=33∨t=39∨t=43∨t=46∨t=47∨t=48:=by simp [knw] at h;omega
theorem M9 (v:Int) (h0:0≤v) (h1:v≤9223372036854775807):S Dx 2 [.i .i64 v, .i .i64 1]=some [.s (be v 1)]:=H8 v 1 (by omega) h0 h1
theorem M8 (v:Int) (h0:0≤v) (h1:v≤9223372036854775807):S Dx 2 [.i .i64 v, .i .i64 2]=some [.s (be v 2)]:=H8 v 2 (by omega) h0 h1
theorem Ab5 (v:Int) (h0:0≤v) (h1:v≤9223372036854775807):S Dx 2 [.i .i64 v, .i .i64 4]=some [.s (be v 4)]:=H8 v 4 (by omega) h0 h1
theorem Ld (t:Int) (d:Dat) (h:d.wf):S ax 2 [.i .i64 t,d.pv]=some (if Ch t d=true then [.s (Gq t d), .i .i64 0] else if knw t=true then [.s [], .i .i64 5] else [.s [], .i .i64 4]):=by
 refine Fw8 (N:=1) rfl ?_;have g1:=h.host;have g2:=h.mail;have g3:=h.text;unfold Y5 at g1 g2 g3;have g4:=Jq d.host;have g5:=Jq d.mail;have g6:=Qk d.bits;rcases Ad (knw t) with hk|hk
 ·rcases Ad (Ch t d) with hv|hv
  ·rw [if_pos hv];have hv':=hv;rcases knw_cases hk with rfl|rfl|rfl|rfl|rfl|rfl|rfl|rfl|rfl|rfl|rfl|rfl|rfl|rfl
   ·simp [Ch,Bl] at hv';simp (disch:=omega) only [Ig,Bd,Dk _ _ h,Y2 d h,hk,hv,hv'.2.1,xe,EVP,EV,simprocAttr];rfl
   ·simp (disch:=omega) only [Ig,Bd,Dk _ _ h,C8,hk,hv,xe,EVP,EV,simprocAttr];rfl
   ·simp (disch:=omega) only [Ig,Bd,Dk _ _ h,C8,hk,hv,xe,EVP,EV,simprocAttr];rfl
   ·simp [Ch,Bl,inB,Ev] at hv';simp (disch:=first|omega|(simp only [Al,Cd];omega)) only [Ig,Bd,Dk _ _ h,C8,Ab5,hk,hv,xe,EVP,EV,simprocAttr];rfl
   ·simp (disch:=omega) only [Ig,Bd,Dk _ _ h,C8,hk,hv,xe,EVP,EV,simprocAttr];rfl
   ·simp [Ch,Bl,inB,Ev] at hv';simp (disch:=first|omega|(simp only [Al,Cd];omega)) only [Ig,Bd,Dk _ _ h,C8,M8,hk,hv,xe,EVP,EV,simprocAttr];rfl
   ·simp [Ch,Bl,inB,Ev] at hv';simp (disch:=first|omega|(simp only [Al,Cd];omega)) only [Ig,Bd,Dk _ _ h,C8,M9,hk,hv,xe,EVP,EV,simprocAttr];rfl
   ·simp [Ch,Bl] at hv';have ha:Cg d=true:=by simp [Cg,hv'.2]
    simp (disch:=omega) only [Ig,Bd,Dk _ _ h,Y2 d h,hk,hv,ha,xe,EVP,EV,simprocAttr];rfl
   ·simp [Ch,Bl,inB,Ev] at hv';simp (disch:=first|omega|(simp only [Al,Cd];omega)) only [Ig,Bd,Dk _ _ h,C8,M8,hk,hv,xe,EVP,EV,simprocAttr];rfl
   ·simp (disch:=omega) only [Ig,Bd,Dk _ _ h,C8,hk,hv,xe,EVP,EV,simprocAttr];rfl
   ·simp [Ch,Bl,inB,Ev] at hv';simp (disch:=first|omega|(simp only [Al,Cd];omega)) only [Ig,Bd,Dk _ _ h,C8,M9,M8,hk,hv,xe,EVP,EV,simprocAttr];rfl
   ·simp [Ch,Bl,inB,Ev] at hv';have k1:0≤d.a:=by have:=knw_cases hv'.2.1.1.1.1.1.1.1.1;omega
    have k2:=h.a.2;simp (disch:=first|omega|(simp only [Al,Cd];omega)) only [Ig,Bd,Dk _ _ h,C8,M9,M8,Ab5,hk,hv,xe,EVP,EV,simprocAttr];rfl
   ·simp (disch:=first|omega|(simp only [Al,Cd];omega)) only [Ig,Bd,Dk _ _ h,C8,Ax4,M9,hk,hv,xe,EVP,EV,simprocAttr];rfl
   ·simp [Ch,Bl,inB,Ev] at hv';simp (disch:=first|omega|(simp only [Al,Cd];omega)) only [Ig,Bd,Dk _ _ h,C8,M9,M8,hk,hv,xe,EVP,EV,simprocAttr];rfl
  ·simp (disch:=omega) only [Ig,Bd,Dk _ _ h,hk,hv,xe,EVP,EV,simprocAttr]
 ·have hv:Ch t d=false:=by simp [Ch,hk]
  simp (disch:=omega) only [Ig,Bd,hk,hv,xe,EVP,EV,simprocAttr]
def Ed3 (t:Int) (a b:Dat):Int:=
 if Ch t a && Ch t b then cmpS (Gq t a) (Gq t b) else if Ch t a then -1 else if Ch t b then 1 else 0
theorem Wy (t:Int) (a b:Dat) (ha:a.wf) (hb:b.wf):S jy 3 [.i .i64 t,a.pv,b.pv]=some [.i .i64 (Ed3 t a b)]:=by
 refine Fx9 (N:=1) rfl ?_;unfold Ed3 cmpS;rcases Ad (Ch t a) with h1|h1<;>rcases Ad (Ch t b) with h2|h2
 ·simp (disch:=omega) only [Df1,Ld _ _ ha,Ld _ _ hb,h1,h2,xe,EVP,EV,simprocAttr];cases Op.bytesLess (Gq t a) (Gq t b)
  ·by_cases h3:Gq t a=Gq t b<;>simp [h3]
  ·simp
 all_goals rcases Ad (knw t) with h3|h3<;>simp (disch:=omega) [Df1,Ld _ _ ha,Ld _ _ hb,h1,h2,h3,xe,EVP,EV,simprocAttr]
end Go.X.G
/- Lists of records: what the reference's functions give. -/
namespace Go.X.G
open Go Go.X
def Db9 (r:Rec):Bool:=vld r.name && knw r.typ && decide (0≤r.ttl) && decide (r.ttl≤2147483647) && Ch r.typ r.data
theorem Ab1 (r:Rec) (h:r.wf):S Ek2 1 [r.pv]=some [.b (Db9 r)]:=by
 refine Ft7 (N:=1) rfl ?_;have g:=h.name;unfold Y5 at g;unfold Db9;by_cases h0:0≤r.ttl<;>by_cases h1:r.ttl≤2147483647
 all_goals rcases ch3 (vld r.name) (knw r.typ) (Ch r.typ r.data) with e0|⟨e0,e1⟩|⟨e0,e1,e2⟩|⟨e0,e1,e2⟩
 all_goals simp (disch:=omega) [Ft0,J2,Bd,Dk _ _ h.data,xe,EVP,EV,simprocAttr, *]
def Bq7 (a b:Int):Int:=if a<b then -1 else if b<a then 1 else 0
theorem N1 (a b:Int):S bq 2 [.i .i64 a, .i .i64 b]=some [.i .i64 (Bq7 a b)]:=by
 refine Fb3 (N:=1) rfl ?_;unfold Bq7;simp (disch:=omega) only [Fq7,xe,EVP,EV,simprocAttr]
 grind
def cmpF (a b:Rec):Int:=
 if nj a.name b.name≠0 then nj a.name b.name else if Bq7 a.typ b.typ≠0 then Bq7 a.typ b.typ else Ed3 a.typ a.data b.data
theorem mj (a b:Rec) (ha:a.wf) (hb:b.wf):S js 2 [a.pv,b.pv]=some [.i .i64 (cmpF a b)]:=by refine Fb4 (N:=1) rfl ?_;have g1:=ha.name;have g2:=hb.name;unfold Y5 at g1 g2;unfold cmpF;simp (disch:=omega) only [Fq8,Wz,N1,Wy _ _ _ ha.data hb.data,xe,EVP,EV,simprocAttr];by_cases h1:nj a.name b.name=0<;>by_cases h2:Bq7 a.typ b.typ=0<;>simp [h1,h2]
def isK (n:List UInt8) (t:Int) (r:Rec):Bool:=decide (r.name=n) && decide (r.typ=t)
def findR (l:List Rec) (n:List UInt8) (t:Int):List Rec:=l.filter (isK n t)
end Go.X.G
/- Zones: what the reference's check gives. -/
namespace Go.X.G
open Go Go.X
def Yl (n top:List UInt8):Bool:=decide (n≠top) && under n top
def Fs5 (l:List Rec) (n:List UInt8) (t:Int):Bool:=decide (0<(findR l n t).length)
def Qq (r x:Rec):Bool:=
 !decide (x.name=r.name)||(!(decide (x.typ=r.typ) && decide (r.typ≠46) && decide (x.ttl≠r.ttl)) && !(decide (x.typ=r.typ) && (decide (r.typ=6)||decide (r.typ=5)||decide (r.typ=39)) && decide (x≠r)) &&
  !(decide (r.typ=5) && decide (x.typ≠5) && decide (x.typ≠46) && decide (x.typ≠47)))
def Ay0 (z:Zone) (r:Rec):Bool:=z.recs.all (Qq r)
def Ap2 (z:Zone) (r x:Rec):Bool:=
 !(decide (x.typ=39) && Yl r.name x.name) && !(decide (x.typ=2) && Yl x.name z.origin && Yl r.name x.name && decide (r.typ≠1) && decide (r.typ≠28))
def Cf4 (t:Int):Bool:=decide (t=2)||decide (t=43)||decide (t=47)||decide (t=46)||decide (t=1)||decide (t=28)
def Cf5 (z:Zone) (r:Rec):Bool:=
 if (lbl r.name)[0]? =some [42]∧(r.typ=2∨r.typ=39) then false
 else z.recs.all (Ap2 z r) && (if Yl r.name z.origin && Fs5 z.recs r.name 2 then Cf4 r.typ else decide (r.typ≠43))
def Cf3 (z:Zone) (r:Rec):Bool:=under r.name z.origin && !(decide (r.typ=6) && decide (r.name≠z.origin)) && Ay0 z r && Cf5 z r
end Go.X.G
/- The order of records; what a checked zone is like. -/
namespace Go.X.G
open Go Go.X
theorem TO.prod {α β:Type} {l1:α→α→Prop} {l2:β→β→Prop} (h1:TO l1) (h2:TO l2):TO (fun p q:α×β=>l1 p.1 q.1∨(p.1=q.1∧l2 p.2 q.2)) where
 irr:=fun p h=>by
  rcases h with h|⟨_,h⟩
  ·exact h1.irr _ h
  ·exact h2.irr _ h
 tr:=fun p q r a b=>by
  rcases a with a|⟨a,a'⟩<;>rcases b with b|⟨b,b'⟩
  ·exact .inl (h1.tr _ _ _ a b)
  ·exact .inl (b▸a)
  ·exact .inl (a▸b)
  ·exact .inr ⟨a.trans b,h2.tr _ _ _ a' b'⟩
 tri:=fun p q=>by
  rcases h1.tri p.1 q.1 with a|a|a
  ·exact .inl (.inl a)
  ·rcases h2.tri p.2 q.2 with b|b|b
   ·exact .inl (.inr ⟨a,b⟩)
   ·exact .inr (.inl (Prod.ext a b))
   ·exact .inr (.inr (.inr ⟨a.symm,b⟩))
  ·exact .inr (.inr (.inl a))
theorem Ft6:TO (fun a b:Int=>a<b):=⟨fun a h=>by omega,fun a b c h1 h2=>by omega,fun a b=>by omega⟩
abbrev Key:=List UInt8×Int×List UInt8
abbrev ltK:Key→Key→Prop:=fun p q=>ltN p.1 q.1∨(p.1=q.1∧(p.2.1<q.2.1∨(p.2.1=q.2.1∧ltB p.2.2 q.2.2)))
theorem Ft5:TO ltK:=Ft4.prod (Ft6.prod Dl2)
def Fs4 (r:Rec):Key:=(r.name,r.typ,Gq r.typ r.data)
abbrev ltR (a b:Rec):Prop:=ltK (Fs4 a) (Fs4 b)
structure ZOk (z:Zone):Prop where
 origin:vld z.origin=true
 small:z.recs.length≤2048
 valid:∀r∈z.recs,Db9 r=true
 rising:z.recs.Pairwise ltR
 soa:(findR z.recs z.origin 6).length=1
 ns:Fs5 z.recs z.origin 2=true
 recs:∀r∈z.recs,Cf3 z r=true
theorem ZOk.beside {z:Zone} (h:ZOk z) {r x:Rec} (hr:r∈z.recs) (hx:x∈z.recs):Qq r x=true:=by have:=h.recs r hr;unfold Cf3 at this;simp only [Ax] at this;have h2:=this.1.2;unfold Ay0 at h2;exact B3.1 h2 x hx
theorem ZOk.under {z:Zone} (h:ZOk z) {r:Rec} (hr:r∈z.recs):under r.name z.origin=true:=by have:=h.recs r hr;unfold Cf3 at this;simp only [Ax] at this;exact this.1.1.1
theorem ZOk.single {z:Zone} (h:ZOk z) (n:List UInt8) (t:Int) (ht:t=6∨t=5∨t=39):(findR z.recs n t).length≤1:=by
 have hp:(findR z.recs n t).Pairwise ltR:=h.rising.filter _;have hm:∀x∈findR z.recs n t,x∈z.recs∧x.name=n∧x.typ=t:=fun x hx=>by obtain ⟨h1,h2⟩:=Ek.1 hx;simp only [isK,Ax,decide_eq_true_eq] at h2;exact ⟨h1,h2.1,h2.2⟩
 generalize findR z.recs n t=l at*
 match l,hp,hm with
 |[],_,_=>simp
 |[_],_,_=>simp
 |a::b::r,hp,hm=>
  exfalso;have hab:ltR a b:=(List.pairwise_cons.1 hp).1 b (.head _);obtain ⟨a1,a2,a3⟩:=hm a (.head _);obtain ⟨b1,b2,b3⟩:=hm b (.tail _ (.head _));have hb:=h.beside a1 b1;have e:b=a:=by
   unfold Qq at hb;rw [a2,a3,b2,b3] at hb;have ht':(decide (t=6)||decide (t=5)||decide (t=39))=true:=by rcases ht with h|h|h<;>simp [h]
   rw [ht'] at hb;simp only [decide_true,Tg,Bool.false_or,J4,Bool.true_and,Ax,Bp,decide_eq_false_iff_not,ne_eq,Classical.not_not] at hb;exact hb.1.2
  rw [e] at hab;exact Ft5.irr _ hab
end Go.X.G
/- The order of any records; what is sorted stably and made compact is what the reference sorts. -/
namespace Go.X.G
open Go Go.X
def Gj7 (t:Int) (d:Dat):Int×List UInt8:=if Ch t d=true then (0,Gq t d) else (1,[])
abbrev Gj8:=List UInt8×Int×Int×List UInt8
def Fj1 (r:Rec):Gj8:=(r.name,r.typ,Gj7 r.typ r.data)
def cmpR (a b:Rec):Int:=if cmpF a b≠0 then cmpF a b else Bq7 a.ttl b.ttl
def Fs9 (l:List Rec) (z:Rec):Prop:=∃l1 l2,l=l1++z::l2∧(∀y∈l1,Fj1 y=Fj1 z→z.ttl<y.ttl)∧∀y∈l2,Fj1 y=Fj1 z→z.ttl≤y.ttl
theorem Fs9.mem {l:List Rec} {z:Rec} (h:Fs9 l z):z∈l:=by obtain ⟨l1,l2,rfl,_⟩:=h;simp
end Go.X.G
/- Valid data are known by their bytes; records that are alike. -/
namespace Go.X.G
open Go Go.X
end Go.X.G
