/- Names: what the reference's functions give. -/
import Derived.Test.YtkpbcoeiijddpaaGreatDoorRrsetPairsG7
import Derived.Test.YtkpbcoeiijddpaaGreatDoorRrsetPairsG8
open Bool renaming and_eq_true→Ax,false_eq_true→Ac,eq_false_or_eq_true→Ad,or_eq_true→An,not_eq_true'→Cq,eq_iff_iff→Ef,eq_false_iff→Ks,and_true→L1,not_true→W5,false_or→Fz2
open Int renaming le_refl→Hm7
open List renaming getElem?_eq_some_iff→Aq,getElem?_eq_getElem→Ay,length_append→Ab,append_assoc→Ap,mem_of_getElem?→A6,mem_cons→A7,length_cons→Bj,eq_nil_of_length_eq_zero→Bv,getD_eq_getElem?_getD→By,length_pos_iff→Bg,pairwise_cons→Bh,cons_append→Bt,mem_append→B3,all_eq_true→Cv,getElem?_cons_zero→Ch,drop_eq_getElem_cons→Cl,getElem?_cons_succ→C7,nil_append→Dw,drop_eq_nil_of_le→Ds,drop_zero→D1,take_add_one→D7,filter_cons_of_pos→Ek,take_length→Em,mem_filter→E8,filter_append→It,pairwise_append→Kn,filter_cons→Nr,filter_eq_nil_iff→Rj,flatMap_cons→az,length_map→Gd9
open Nat renaming le_refl→Ah,zero_le→Cm
open Option renaming map_eq_some_iff→Av,map_some→A3
set_option maxHeartbeats 1000000
set_option linter.unusedVariables false
set_option linter.unusedSimpArgs false
namespace Go.X.G
open Go Go.X
def Mc (c:UInt8):Bool:=decide (97≤(c.toNat:Int)) && decide ((c.toNat:Int)≤122)||decide (48≤(c.toNat:Int)) && decide ((c.toNat:Int)≤57)||decide ((c.toNat:Int)=45)||decide ((c.toNat:Int)=95)
theorem l5 (c:UInt8):(decide (97≤(c.toNat:Int)) && decide ((c.toNat:Int)≤122)||decide (48≤(c.toNat:Int)) && decide ((c.toNat:Int)≤57)||decide ((c.toNat:Int)=45)||decide ((c.toNat:Int)=95))=Mc c:=rfl
def Is (s:List UInt8):Bool:=decide (s=[42])||(decide (1≤s.length) && decide (s.length≤63) && s.all Mc)
theorem l8 (s:List UInt8) (N:Nat) (hN:s.length<N) (hs:s.length≤4294967296):
  Ct9.ev S N [.s s]=some (if s.all Mc=true then .yld 0 [] else .ret [.b false]):=by
 refine Fg s (fun i=>[.i .i64 (i:Int)]) (fun i r=>if r.all Mc=true then .yld 0 [] else .ret [.b false]) rfl hN (fun i c r hd hi hc=> ?_) ?_
 ·simp (disch:=omega) only [Ez3,xe,EV,simprocAttr,hc,l5];cases h:Mc c<;>simp [h,Out.goes]
 ·simp (disch:=omega) [Ez3,xe,EV,simprocAttr,Out.goes]
theorem l7 (s:List UInt8) (hs:s.length≤4294967296):S vl 1 [.s s]=some [.b (Is s)]:=by
 refine Gr8 (N:=s.length+1) rfl ?_;simp (disch:=omega) only [Ez3,l8,xe,EV,simprocAttr];unfold Is
 grind
end Go.X.G
/- Names: what the reference's functions give. -/
namespace Go.X.G
open Go Go.X
def spl (first:Bool) (cur:List UInt8):List UInt8→Option (List (List UInt8))
 |[]=>some []
 |c::r=>if c=46 then (if Is cur=true∧(cur=[42]→first=true) then (spl false [] r).map (cur::·) else none) else spl first (cur++[c]) r
def nm (n:List UInt8):Option (List (List UInt8)):=
 if n=[46] then some [] else if 2≤n.length∧n.length≤254∧n[n.length - 1]? =some 46 then spl true [] n else none
def lbl (n:List UInt8):List (List UInt8):=(nm n).getD []
def vld (n:List UInt8):Bool:=(nm n).isSome
theorem Ec1 {α:Type} (n:List α) (i j:Nat) (c:α) (h:n[i]? =some c) (hj:j≤i):(n.take (i+1)).drop j=(n.take i).drop j++[c]:=by have hi:i<n.length:=(Aq.1 h).1;rw [D7,h,List.drop_append_of_le_length (by simp;omega)];rfl
theorem Ec2 {α:Type} (n:List α) (i:Nat):(n.take i).drop i=[]:=by rw [List.drop_eq_nil_iff];simp;omega
def Qq (l:List (List UInt8)):Option (List (List UInt8))→Out
 |some ls=> .yld 0 [.l 1 ((l++ls).map .s)]
 |none=> .ret [.l 1 [], .b false]
theorem Cx9 (n:List UInt8) (N:Nat) (hN:n.length<N) (hs:n.length≤1000):
  Dj2.ev S N [.s n]=some (Qq [] (spl true [] n)):=by
 refine Iw n (fun i (g:List (List UInt8)×Nat)=>[.l 1 (g.1.map .s), .i .i64 (g.2:Int), .i .i64 (i:Int)]) (fun i g r=>Qq g.1 (spl (decide (g.2=0)) ((n.take i).drop g.2) r)) (fun i g=>g.1.length≤i∧g.2≤i) ([],0) rfl ⟨Ah _,Ah _⟩ hN (fun i g c r hd hi hc hI=> ?_) (fun g hI=> ?_)
 ·obtain ⟨l,st⟩:=g;obtain ⟨h1,h2⟩:=hI;simp only at h1 h2 ⊢;have hl:((n.take i).drop st).length≤4294967296:=by simp;omega
  have hm:(l.map PV.s).length=l.length:=Gd9 ..;have hd':=Eb4 c 46 (by omega);by_cases hdot:c=46
  ·have hdi:=hd'.2 hdot;simp (disch:=omega) only [T5,xe,EV,simprocAttr,hc,l7];simp only [spl,if_pos hdot];by_cases h:Is ((n.take i).drop st)=true∧((n.take i).drop st=[42]→st=0)
   ·obtain ⟨h3,h4⟩:=h;left;refine ⟨(l++[(n.take i).drop st],i+1),?_,?_,?_⟩
    ·rw [if_neg (by simp only [h3];intro h;simp at h;have:=h4 h.1;omega)];simp
    ·simp;omega
    ·simp only [Ec2];rw [if_pos ⟨h3,by simpa using h4⟩];cases h9:spl false [] r<;>simp [h9,Qq]
   ·right;have h':¬(Is ((n.take i).drop st)=true∧((n.take i).drop st=[42]→decide (st=0)=true)):=by simpa using h
    rw [if_neg h'];refine ⟨?_,rfl⟩;rw [if_pos]
    ·rfl
    ·cases h5:Is ((n.take i).drop st)
     ·simp
     ·simp only [h5,true_and] at h;have ⟨h6,h7⟩:=Classical.not_imp.1 h;simp [h6];omega
  ·have hdi:¬(c.toNat:Int)=46:=fun h=>hdot (hd'.1 h);left;refine ⟨(l,st),?_,?_,?_⟩
   ·simp (disch:=omega) only [T5,xe,EV,simprocAttr,hc]
   ·simp only;omega
   ·simp only [spl];rw [if_neg hdot,Ec1 n i st c hc h2]
 ·simp (disch:=omega) [T5,xe,EV,simprocAttr,Out.goes,spl,Qq]
theorem split_ok (n:List UInt8) (hs:n.length≤9223372036854775807):S U9 1 [.s n]=some [Cr (lbl n), .b (vld n)]:=by
 refine Hj0 (N:=n.length+1) rfl ?_;unfold Cr lbl vld nm;by_cases h1:n=[46]
 ·simp (disch:=omega) [T5,xe,EV,simprocAttr,h1]
 ·rw [if_neg h1];by_cases h2:n.length<2
  ·simp (disch:=omega) only [T5,xe,EV,simprocAttr,h1];have h3:¬(2≤n.length∧n.length≤254∧n[n.length - 1]? =some 46):=by omega
   rw [if_neg h3];rfl
  ·by_cases h3:254<n.length
   ·simp (disch:=omega) only [T5,xe,EV,simprocAttr,h1];have h3:¬(2≤n.length∧n.length≤254∧n[n.length - 1]? =some 46):=by omega
    rw [if_neg h3];rfl
   ·have h4:=Ay (l:=n) (i:=n.length - 1) (by omega);have h5:((n.length:Int) - 1).toNat=n.length - 1:=by omega
    have h6:=Eb4 (n[n.length - 1]'(by omega)) 46 (by omega);simp (disch:=omega) only [T5,xe,EV,simprocAttr,h1,h4,h5,Cx9];by_cases h7:n[n.length - 1]'(by omega)=46
    ·rw [if_pos (show 2≤n.length∧n.length≤254∧some (n[n.length - 1]'(by omega))=some 46 from ⟨by omega,by omega,by rw [h7]⟩),if_neg (fun h=>h (h6.2 h7))];cases h8:spl true [] n
     ·simp [Qq,Bm7]
     ·simp (disch:=omega) [T5,Qq,xe,EV,simprocAttr]
    ·rw [if_neg (show¬(2≤n.length∧n.length≤254∧some (n[n.length - 1]'(by omega))=some 46) from fun h=>h7 (by simpa using h.2.2)),if_pos (show (((n[n.length - 1]'(by omega)).toNat:Int)≠46) from fun h=>h7 (h6.1 h))];rfl
end Go.X.G
/- Names: what the reference's functions give, ctd. -/
namespace Go.X.G
open Go Go.X
theorem Xr:∀(r:List UInt8) (f:Bool) (cur:List UInt8) (l:List (List UInt8)),spl f cur r=some l→l.length≤r.length
 |[],f,cur,l,h=>by simp [spl] at h;simp [←h]
 |c::r,f,cur,l,h=>by
  simp only [spl] at h;split at h
  ·split at h
   ·obtain ⟨m,hm,rfl⟩:=Av.1 h;have:=Xr r _ _ _ hm;simp;omega
   ·cases h
  ·have:=Xr r _ _ _ h;simp;omega
theorem Fr0 {n:List UInt8} {l:List (List UInt8)} (h:nm n=some l):l.length≤254:=by
 unfold nm at h;split at h
 ·injection h with h;subst h;simp
 ·split at h
  ·rename_i h2;have:=Xr _ _ _ _ h;omega
  ·cases h
theorem Jj (n:List UInt8):(lbl n).length≤254:=by
 unfold lbl;cases h:nm n with
 |none=>simp
 |some l=>exact Fr0 h
theorem Pf (n:List UInt8) (hs:n.length≤9223372036854775807):S lm 1 [.s n]=some [.b (vld n)]:=by refine Hq7 (N:=1) rfl ?_;simp (disch:=omega) only [Gm1,split_ok,xe,EVP,EV,simprocAttr]
theorem ny (n:List UInt8) (hs:n.length≤9223372036854775807):S Vy 1 [.s n]=some [Cr (lbl n)]:=by refine Fh1 (N:=1) rfl ?_;simp (disch:=omega) only [Fb5,split_ok,xe,EVP,EV,simprocAttr]
def S4 {α:Type} [DecidableEq α]:List α→List α→Nat
 |x::xs,y::ys=>if x=y then S4 xs ys+1 else 0
 |_,_=>0
def H9 (a b:List (List UInt8)):Nat:=S4 a.reverse b.reverse
theorem Ak0 {α:Type} [DecidableEq α]:∀(a b:List α),S4 a b≤a.length∧S4 a b≤b.length
 |[],b=>by simp [S4]
 |x::xs,[]=>by simp [S4]
 |x::xs,y::ys=>by have:=Ak0 xs ys;simp only [S4];split<;>simp<;>omega
theorem Cy6 (a b:List (List UInt8)):H9 a b≤a.length∧H9 a b≤b.length:=by have:=Ak0 a.reverse b.reverse;simpa [H9] using this
theorem Ed9 (a b:List (List UInt8)) (N:Nat) (hN:a.length<N) (ha:a.length≤1000000) (hb:b.length≤1000000):
  ym.ev S N [Cr a,Cr b]=some (.yld 0 [.i .i64 (H9 a b:Int)]):=by
 have key:=Gd (fn:=S) (N:=N) (η:=[Cr a,Cr b]) (id:=1) (init:=[(.c (.i .i64 (0)))]) (body:=Bl2) (α:=Nat) (fun k=>[.i .i64 (k:Int)]) (fun k=> .yld 0 [.i .i64 ((k+S4 (a.reverse.drop k) (b.reverse.drop k):Nat):Int)]) (fun k=>k≤a.length∧k≤b.length) (fun k=>a.length - k) 0 rfl ⟨Cm _,Cm _⟩ (by omega) ?_
 ·simpa [H9,ym] using key
 ·rintro k ⟨h1,h2⟩;by_cases h3:k<a.length
  ·by_cases h4:k<b.length
   ·have e1:((a.length:Int) - 1 - k).toNat=a.length - 1 - k:=by omega
    have e2:((b.length:Int) - 1 - k).toNat=b.length - 1 - k:=by omega
    have g1:a[a.length - 1 - k]? =some (a[a.length - 1 - k]'(by omega)):=Ay (by omega);have g2:b[b.length - 1 - k]? =some (b[b.length - 1 - k]'(by omega)):=Ay (by omega);have d1:a.reverse.drop k=(a[a.length - 1 - k]'(by omega))::a.reverse.drop (k+1):=by rw [Cl (by simpa using h3)];simp
    have d2:b.reverse.drop k=(b[b.length - 1 - k]'(by omega))::b.reverse.drop (k+1):=by rw [Cl (by simpa using h4)];simp
    simp (disch:=omega) only [Br8,xe,EVP,EV,simprocAttr,e1,e2,g1,g2];rw [d1,d2];simp only [S4];by_cases h:a[a.length - 1 - k]'(by omega)=b[b.length - 1 - k]'(by omega)
    ·left;refine ⟨k+1,by simp [h],⟨by omega,by omega⟩,by omega,?_⟩;rw [if_pos h];congr 3
     push_cast
     omega
    ·right;simp [h,Out.goes]
   ·right;have d2:b.reverse.drop k=[]:=Ds (by simp;omega);have z:S4 (a.reverse.drop k) []=0:=by cases a.reverse.drop k<;>rfl
    rw [d2,z];simp (disch:=omega) [Br8,xe,EVP,EV,simprocAttr,Out.goes]
  ·right;have d1:a.reverse.drop k=[]:=Ds (by simp;omega);have z:S4 [] (b.reverse.drop k)=0:=rfl;rw [d1,z];simp (disch:=omega) [Br8,xe,EVP,EV,simprocAttr,Out.goes]
theorem p7 (a b:List (List UInt8)) (ha:a.length≤1000000) (hb:b.length≤1000000):S v4 2 [Cr a,Cr b]=some [.i .i64 (H9 a b:Int)]:=by refine Gs4 (N:=a.length+1) rfl ?_;simp (disch:=omega) only [Br8,Ed9,xe,EVP,EV,simprocAttr]
def under (n top:List UInt8):Bool:=vld n && vld top && decide (H9 (lbl n) (lbl top)=(lbl top).length)
def cmpS (a b:List UInt8):Int:=if Op.bytesLess a b then -1 else if a=b then 0 else 1
theorem K6 (a b:List UInt8):S lj 2 [.s a, .s b]=some [.i .i64 (cmpS a b)]:=by
 refine Gs5 (N:=1) rfl ?_;unfold cmpS;simp (disch:=omega) only [Gh2,xe,EVP,EV,simprocAttr];cases h:Op.bytesLess a b
 ·by_cases h2:a=b<;>simp [h2]
 ·simp
def M8 (a b:List UInt8):Int:=
 if vld a && vld b then
  let k:=H9 (lbl a) (lbl b)
  if k<(lbl a).length∧k<(lbl b).length then cmpS ((lbl a).getD ((lbl a).length - 1 - k) []) ((lbl b).getD ((lbl b).length - 1 - k) [])
  else if (lbl a).length<(lbl b).length then -1 else if (lbl b).length<(lbl a).length then 1 else 0
 else if vld a then -1 else if vld b then 1 else cmpS a b
theorem av (a b:List UInt8) (hn:a.length≤9223372036854775807) (ht:b.length≤9223372036854775807):S wh 2 [.s a, .s b]=some [.i .i64 (M8 a b)]:=by
 refine Hk5 (N:=1) rfl ?_;have h1:=Jj a;have h2:=Jj b;have h5:=Cy6 (lbl a) (lbl b);unfold M8;cases h3:vld a<;>cases h4:vld b
 ·simp (disch:=omega) [ob,split_ok,K6,h3,h4,xe,EVP,EV,simprocAttr]
 ·simp (disch:=omega) [ob,split_ok,K6,h3,h4,xe,EVP,EV,simprocAttr]
 ·simp (disch:=omega) [ob,split_ok,K6,h3,h4,xe,EVP,EV,simprocAttr]
 ·by_cases h6:H9 (lbl a) (lbl b)<(lbl a).length∧H9 (lbl a) (lbl b)<(lbl b).length
  ·obtain ⟨h7,h8⟩:=h6;have e1:(((lbl a).length:Int) - 1 - (H9 (lbl a) (lbl b):Int)).toNat=(lbl a).length - 1 - H9 (lbl a) (lbl b):=by omega
   have e2:(((lbl b).length:Int) - 1 - (H9 (lbl a) (lbl b):Int)).toNat=(lbl b).length - 1 - H9 (lbl a) (lbl b):=by omega
   have g1:=Ay (l:=lbl a) (i:=(lbl a).length - 1 - H9 (lbl a) (lbl b)) (by omega);have g2:=Ay (l:=lbl b) (i:=(lbl b).length - 1 - H9 (lbl a) (lbl b)) (by omega);simp (disch:=omega) only [ob,split_ok,p7,K6,h3,h4,e1,e2,g1,g2,xe,EVP,EV,simprocAttr];simp [h7,h8,g1,g2]
  ·simp (disch:=omega) only [ob,split_ok,p7,K6,h3,h4,xe,EVP,EV,simprocAttr];simp only [h6]
   grind
end Go.X.G
/- The library's functions on strings. -/
namespace Go.X.G
open Go Go.X
theorem Er3 (x:List UInt8) (c:UInt8):S dc 2 [.s x, .i .u8 (c.toNat:Int)]=some [.i .i64 (x.count c:Int)]:=
 Fh6 (args:=[.s x, .i .u8 (c.toNat:Int)]) (by simp [XK.run,il,Lib.countByte])
theorem Em2 (x:List UInt8) (c:UInt8):S db 2 [.s x, .i .u8 (c.toNat:Int)]=some [.i .i64 (Lib.indexByte x c)]:=
 Fg7 (args:=[.s x, .i .u8 (c.toNat:Int)]) (by simp [XK.run,il])
theorem Er4 (x y:List UInt8):S dl 2 [.s x, .s y]=some [.i .i64 (Lib.compareBytes x y)]:=
 Fh8 (args:=[.s x, .s y]) (by simp [XK.run,Cy7])
theorem Tg (x:List UInt8) (c:UInt8):S Vv 2 [.s x, .i .u8 (c.toNat:Int)]=some [.i .i64 (Lib.indexByte x c)]:=by refine Fg9 (N:=1) rfl ?_;simp (disch:=omega) only [Fb4,Em2,xe,EVP,EV,simprocAttr]
theorem Kx (c:UInt8):∀(x:List UInt8),c∉x→Lib.indexByte x c= -1
 |[],_=>rfl
 |b::l,h=>by have h1:b≠c:=fun e=>h (by simp [e]);have h2:=Kx c l (fun e=>h (by simp [e]));simp [Lib.indexByte,h1,h2]
theorem Kw (c:UInt8) (post:List UInt8):∀(pre:List UInt8),c∉pre→Lib.indexByte (pre++c::post) c=(pre.length:Int)
 |[],_=>by simp [Lib.indexByte]
 |b::l,h=>by
  have h1:b≠c:=fun e=>h (by simp [e]);have h2:=Kw c post l (fun e=>h (by simp [e]));simp only [Bt,Lib.indexByte,h2];simp [h1]
  try omega
theorem dot_split (c:UInt8):∀(s:List UInt8),c∉s∨∃pre post,s=pre++c::post∧c∉pre
 |[]=> .inl (by simp)
 |b::l=>by
  by_cases h:b=c
  ·exact .inr ⟨[],l,by simp [h],by simp⟩
  ·rcases dot_split c l with h1|⟨pre,post,rfl,h2⟩
   ·exact .inl (by simp [h1,Ne.symm h])
   ·exact .inr ⟨b::pre,post,by simp,by simp [h2,Ne.symm h]⟩
def pcs (cur:List UInt8):List UInt8→List (List UInt8)
 |[]=>[cur]
 |c::r=>if c=46 then cur::pcs [] r else pcs (cur++[c]) r
def cut (s:List UInt8):List (List UInt8):=pcs [] s
theorem vq (post:List UInt8):∀(pre cur:List UInt8),(46:UInt8)∉pre→pcs cur (pre++46::post)=(cur++pre)::pcs [] post
 |[],cur,_=>by simp [pcs]
 |b::l,cur,h=>by have h1:b≠46:=fun e=>h (by simp [e]);have h2:=vq post l (cur++[b]) (fun e=>h (by simp [e]));simp [pcs,h1,h2]
theorem R4:∀(s cur:List UInt8),(46:UInt8)∉s→pcs cur s=[cur++s]
 |[],cur,_=>by simp [pcs]
 |b::l,cur,h=>by have h1:b≠46:=fun e=>h (by simp [e]);have h2:=R4 l (cur++[b]) (fun e=>h (by simp [e]));simp [pcs,h1,h2]
theorem Aj8 (s:List UInt8):(cut s).length=s.count 46+1:=by
 have:∀(s cur:List UInt8),(pcs cur s).length=s.count 46+1:=by
  intro s
  induction s with
  |nil=>intro cur;rfl
  |cons c r ih=>
   intro cur;by_cases h:c=46<;>simp [pcs,h,ih]
 exact this s []
theorem nz (s:List UInt8) (hs:s.length≤9223372036854775807):S Vb 2 [.s s, .s [46]]=some [.i .i64 (Lib.indexByte s 46)]:=by
 refine Fh5 (N:=1) rfl ?_;have h1:=Tg s 46;have e:(((46:UInt8).toNat:Nat):Int)=46:=rfl;rw [e] at h1;by_cases h:[46]=s
 ·subst h;simp (disch:=omega) only [Cp8,xe,EVP,EV,simprocAttr];rfl
 ·simp (disch:=omega) only [Cp8,h,h1,e,xe,EVP,EV,simprocAttr]
theorem W2 (s:List UInt8) (hs:s.length≤9223372036854775807):S Qd 2 [.s s, .s [46]]=some [.i .i64 (Lib.indexByte s 46)]:=by refine Fl8 (N:=1) rfl ?_;simp (disch:=omega) only [Fb7,nz,xe,EVP,EV,simprocAttr]
theorem Bp2 (s:List UInt8):S Vn 2 [.s s, .s [46]]=some [.i .i64 (s.count 46:Int)]:=by refine Fl9 (N:=1) rfl ?_;have h1:=Er3 s 46;have e:(((46:UInt8).toNat:Nat):Int)=46:=rfl;rw [e] at h1;simp (disch:=omega) only [Fb8,h1,e,xe,EVP,EV,simprocAttr]
def zl (done rest:List (List UInt8)):Out:=
 .yld 0 [.s ((done++rest).getLastD []),Cr ((done++rest).dropLast++[[]]), .i .i64 (((done++rest).length:Int) - 1)]
theorem Y0 (s:List UInt8) (N:Nat) (hN:s.length<N) (hs:s.length≤1000000) (p q:PV):
  yl.ev S N [.s s, .s [46], .i .i64 0,p, .i .i64 ((s.count 46:Int)+1)]=some (zl [] (cut s)):=by
 have hc0:s.count 46≤s.length:=List.count_le_length;have key:=Gd (fn:=S) (N:=N) (η:=[.s s, .s [46], .i .i64 0,p, .i .i64 ((s.count 46:Int)+1)]) (id:=1) (init:=[(.v 0),(.rep 1 (.mn (.v 4) (.bin .add (.slen (.v 0)) (.c (.i .i64 (1))))) (.c (.s []))),(.c (.i .i64 (0)))]) (body:=Bl0) (α:=List (List UInt8)×List UInt8)
  (fun a=>[.s a.2,Cr (a.1++List.replicate (a.2.count 46+1) []), .i .i64 (a.1.length:Int)]) (fun a=>zl a.1 (cut a.2)) (fun a=>a.1.length+a.2.count 46=s.count 46∧a.2.length≤s.length) (fun a=>a.2.length) ([],s) ?_ ⟨by simp,Ah _⟩ hN ?_
 ·simpa [yl] using key
 ·have e:((s.count 46:Int)+1).toNat=s.count 46+1:=by omega
  simp (disch:=omega) only [e,xe,EVP,EV,simprocAttr]
 ·rintro ⟨done,rest⟩ ⟨h1,h2⟩;simp only at h1 h2 ⊢;rcases dot_split 46 rest with h|⟨pre,post,rfl,h⟩
  ·right;have c0:rest.count 46=0:=List.count_eq_zero.2 h;have i0:=Kx 46 rest h;have cu:cut rest=[rest]:=by simpa [cut] using R4 rest [] h
   refine ⟨?_,rfl⟩;rw [c0];rw [c0] at h1;simp (disch:=omega) only [Ez4,W2,i0,xe,EVP,EV,simprocAttr];simp [zl,cu,List.getLastD_eq_getLast?]
  ·left;have c0:(pre++46::post).count 46=post.count 46+1:=by rw [List.count_append,List.count_eq_zero.2 h];simp
   have i0:=Kw 46 post pre h;have cu:cut (pre++46::post)=pre::cut post:=by simpa [cut] using vq post pre [] h
   have hl:(pre++46::post).length=pre.length+post.length+1:=by simp;omega
   have sl1:List.drop (0:Int).toNat (List.take ((pre.length:Int)+0).toNat (pre++46::post))=pre:=by simp
   have sl2:List.drop ((pre.length:Int)+1).toNat (List.take (pre++46::post).length (pre++46::post))=post:=by
    have:((pre.length:Int)+1).toNat=pre.length+1:=by omega
    rw [this,Em,List.drop_append];simp
   have sl3:(done++[]::[]::List.replicate (post.count 46) ([]:List UInt8)).length=done.length+post.count 46+2:=by simp;omega
   refine ⟨(done++[pre],post),?_,⟨by simp;omega,by simp only;omega⟩,by simp;omega,by simp [zl,cu]⟩;rw [c0];rw [c0] at h1;simp (disch:=omega) only [Ez4,W2,i0,sl1,sl2,xe,EVP,EV,simprocAttr];simp [List.replicate_succ,List.set_append]
theorem Yt (s:List UInt8) (hs:s.length≤1000000):S vn 4 [.s s, .s [46], .i .i64 0, .i .i64 (-1)]=some [Cr (cut s)]:=by
 refine Gs1 (N:=s.length+1) rfl ?_;have h1:=Aj8 s;have h2:s.count 46≤s.length:=List.count_le_length;obtain ⟨l,x,hx⟩:∃l x,cut s=l++[x]:=⟨(cut s).dropLast,(cut s).getLast (by intro e;simp [e] at h1),(List.dropLast_concat_getLast _).symm⟩;have h3:l.length=s.count 46:=by rw [hx] at h1;simpa using h1
 have h4:((l.length:Int)+1 - 1)=(l.length:Int):=by omega
 have h5:((l++[([]:List UInt8)]).length:Int)=l.length+1:=by simp
 have h6:((l++[x]).length:Int)=l.length+1:=by simp
 have g1:(l++[([]:List UInt8)])[l.length]? =some []:=by simp
 have g2:(l++[x]).getLastD []=x:=by simp [List.getLastD_eq_getLast?]
 have g3:(l++[([]:List UInt8)]).set l.length x=l++[x]:=by simp
 have hk:=Y0 s (s.length+1) (by omega) hs (.i .i64 (-1)) .u;rw [hx] at hk ⊢;simp only [zl,Dw,List.dropLast_concat] at hk;simp (disch:=omega) only [Ez4,Bp2,hk,h4,h6,g1,g2,g3,xe,EVP,EV,simprocAttr];have g4:((l.length:Int)+1).toNat=(l++[x]).length:=by simp
 rw [g4,Em];rfl
theorem Wt (s:List UInt8) (hs:s.length≤1000000):S lc 2 [.s s, .s [46]]=some [Cr (cut s)]:=by refine Hj9 (N:=1) rfl ?_;simp (disch:=omega) only [Gl3,Yt,xe,EVP,EV,simprocAttr]
theorem Tl (s t:List UInt8) (hs:s.length≤9223372036854775807):S vt 2 [.s s, .s t]=some [.b (t.isSuffixOf s)]:=by
 refine Gs2 (N:=1) rfl ?_;by_cases h:t.length≤s.length
 ·have e:((s.length:Int) - (t.length:Int)).toNat=s.length - t.length:=by omega
  simp (disch:=omega) only [Fz4,e,xe,EVP,EV,simprocAttr];simp only [Em];congr 4;rw [Ef,List.isSuffixOf_iff_suffix,decide_eq_true_eq];refine ⟨fun h=>h▸List.drop_suffix _ _,fun h=> ?_⟩;obtain ⟨p,rfl⟩:=h;simp
 ·have h2:t.isSuffixOf s=false:=by rw [Ks,ne_eq,List.isSuffixOf_iff_suffix];exact fun h'=>h h'.length_le
  simp (disch:=omega) only [Fz4,h2,xe,EVP,EV,simprocAttr]
theorem Nq (s t:List UInt8) (hs:s.length≤9223372036854775807):S wz 2 [.s s, .s t]=some [.b (t.isSuffixOf s)]:=by refine Hk0 (N:=1) rfl ?_;simp (disch:=omega) only [Gl4,Tl,xe,EVP,EV,simprocAttr]
theorem Z9 (x y:List UInt8):S Vp 2 [.s x, .s y]=some [.i .i64 (Lib.compareBytes x y)]:=by refine Fm1 (N:=1) rfl ?_;simp (disch:=omega) only [Fb9,Er4,xe,EVP,EV,simprocAttr]
theorem Z5 (x y:List UInt8):S U8 2 [.s x, .s y]=some [.i .i64 (Lib.compareBytes x y)]:=by refine Gs7 (N:=1) rfl ?_;simp (disch:=omega) only [Gh3,Z9,xe,EVP,EV,simprocAttr]
end Go.X.G
/- Names and their labels. -/
namespace Go.X.G
open Go Go.X
def flat (l:List (List UInt8)):List UInt8:=l.flatMap fun x=>x++[46]
def jn (l:List (List UInt8)):List UInt8:=if l=[] then [46] else flat l
def Lf (first:Bool):List (List UInt8)→Bool
 |[]=>true
 |p::r=>Is p && (!decide (p=[42])||first) && Lf false r
theorem El5:Mc 46=false:=by decide
theorem zy {p:List UInt8} (h:Is p=true):(46:UInt8)∉p:=by
 unfold Is at h;simp at h;rcases h with rfl|⟨_,h⟩
 ·decide
 ·intro h2;have:=h 46 h2;rw [El5] at this;cases this
theorem V7 {p:List UInt8}:∀{f:Bool} {l:List (List UInt8)},Lf f l=true→p∈l→Is p=true
 |f,q::r,h,hp=>by
  simp only [Lf,Ax] at h;rcases A7.1 hp with rfl|hp
  ·exact h.1.1
  ·exact V7 h.2 hp
theorem Rh:∀(m:List UInt8) (f:Bool) (cur:List UInt8),spl f cur (m++[46])=if Lf f (pcs cur m)=true then some (pcs cur m) else none
 |[],f,cur=>by simp only [Dw,spl,if_true,pcs,Lf,A3,L1];by_cases h:Is cur=true<;>by_cases h2:cur=[42]<;>cases f<;>simp [h,h2]
 |c::r,f,cur=>by
  simp only [Bt,spl,pcs];by_cases hc:c=46
  ·simp only [if_pos hc];rw [Rh r false []];simp only [Lf];by_cases h:Is cur=true<;>by_cases h2:cur=[42]<;>cases f<;>by_cases h3:Lf false (pcs [] r)=true<;>simp [h,h2,h3]
  ·simp only [if_neg hc];exact Rh r f (cur++[c])
theorem R6 (b:List UInt8):∀(a cur:List UInt8),pcs cur (a++46::b)=pcs cur a++cut b
 |[],cur=>by simp [pcs,cut]
 |c::r,cur=>by
  simp only [Bt,pcs];split
  ·rw [R6 b r []];rfl
  ·exact R6 b r _
theorem Nl:∀(m cur:List UInt8),flat (pcs cur m)=cur++m++[46]
 |[],cur=>by simp [pcs,flat]
 |c::r,cur=>by
  simp only [pcs];split
  ·rename_i h;have:=Nl r [];simp only [flat,az] at this ⊢;rw [this,h];simp
  ·rw [Nl r (cur++[c])];simp
theorem Fn6 (cur m:List UInt8):pcs cur m≠[]:=by
 cases m with
 |nil=>simp [pcs]
 |cons c r=>
  simp only [pcs];split
  ·simp
  ·intro h;have:=Nl r (cur++[c]);rw [h] at this;simp [flat] at this
theorem fx:∀(l:List (List UInt8)),(∀p∈l,(46:UInt8)∉p)→cut (flat l)=l++[[]]
 |[],_=>rfl
 |p::l,h=>by
  have h1:flat (p::l)=p++46::flat l:=by simp [flat]
  rw [h1];show pcs [] _=_;rw [R6,R4 p [] (h p (by simp)),fx l (fun q hq=>h q (by simp [hq]))];simp
theorem O6:∀(l:List (List UInt8)),l≠[]→∃m,flat l=m++[46]
 |[p],_=>⟨p,by simp [flat]⟩
 |p::q::r,_=>by obtain ⟨m,hm⟩:=O6 (q::r) (by simp);exact ⟨p++[46]++m,by simp only [flat,az] at hm ⊢;rw [hm];simp⟩
theorem Cl7 {l:List (List UInt8)} (hl:l≠[]) (h:∀p∈l,(46:UInt8)∉p) {m:List UInt8} (hm:flat l=m++[46]):cut m=l:=by
 have h1:=fx l h;rw [hm] at h1;have h2:cut (m++[46])=cut m++[[]]:=by show pcs [] (m++46::[])=_;rw [R6];rfl
 rw [h2] at h1;exact List.append_cancel_right h1
theorem Eg8 {n:List UInt8} {l:List (List UInt8)} (h:nm n=some l):(n=[46]∧l=[])∨(l≠[]∧Lf true l=true∧n=flat l∧n.length≤254):=by
 unfold nm at h;split at h
 ·rename_i e;injection h with h;exact .inl ⟨e,h.symm⟩
 ·split at h
  ·rename_i h1;right;obtain ⟨h2,h3,h4⟩:=h1;obtain ⟨m,hm⟩:∃m,n=m++[46]:=by
    refine ⟨n.dropLast,?_⟩;have:n≠[]:=by intro e;simp [e] at h2
    have h5:=List.dropLast_concat_getLast this;rw [←h5];congr 1
    ·simp
    ·have h6:n[n.length - 1]? =some (n.getLast this):=by rw [List.getLast_eq_getElem];exact Ay _
     rw [h6] at h4;injection h4 with h4;simp [h4]
   rw [hm,Rh] at h;split at h
   ·rename_i h5;injection h with h;subst h;refine ⟨Fn6 _ _,h5,?_,by omega⟩;rw [Nl,hm];simp
   ·cases h
  ·cases h
theorem Eb2 {n:List UInt8}:vld n=true↔nm n=some (lbl n):=by unfold vld lbl;cases nm n<;>simp
theorem vld_cases {n:List UInt8} (h:vld n=true):(n=[46]∧lbl n=[])∨(lbl n≠[]∧Lf true (lbl n)=true∧n=flat (lbl n)∧n.length≤254):=Eg8 (Eb2.1 h)
theorem Cr0 {n:List UInt8} (h:vld n=true):n=jn (lbl n):=by
 unfold jn;rcases vld_cases h with ⟨h1,h2⟩|⟨h1,_,h2,_⟩
 ·rw [h2,if_pos rfl];exact h1
 ·rw [if_neg h1];exact h2
theorem o4 {n:List UInt8} (h:vld n=true):n.length≤254:=by
 rcases vld_cases h with ⟨h1,_⟩|⟨_,_,_,h⟩
 ·simp [h1]
 ·exact h
theorem Cg0:lbl [46]=[]:=rfl
theorem yw {a b:List UInt8} (ha:vld a=true) (hb:vld b=true) (h:lbl a=lbl b):a=b:=by rw [Cr0 ha,Cr0 hb,h]
end Go.X.G
/- Names: what the program's functions give. -/
namespace Go.X.G
open Go Go.X
def ord (s:List UInt8):Bool:=decide (1≤s.length) && decide (s.length≤63) && s.all Mc
theorem zx (s:List UInt8):Is s=(decide (s=[42])||ord s):=rfl
theorem Cc3:ord [42]=false:=by decide
theorem X5 (s:List UInt8) (N:Nat) (hN:s.length<N) (hs:s.length≤9223372036854775807):
  Dj5.ev S N [.s s]=some (if s.all Mc=true then .yld 0 [] else .ret [.b false]):=by
 refine Fg s (fun i=>[.i .i64 (i:Int)]) (fun i r=>if r.all Mc=true then .yld 0 [] else .ret [.b false]) rfl hN (fun i c r hd hi hc=> ?_) ?_
 ·have key:Bl3.ev S N ([.s s]++[.i .i64 (i:Int)])=some (if Mc c=true then .yld 1 [.i .i64 ((i:Int)+1)] else .ret [.b false]):=by
   simp (disch:=omega) only [oz,hc,xe,EVP,EV,simprocAttr];unfold Mc
   grind
  rw [key];rcases Ad (Mc c) with h|h<;>simp [h,Out.goes]
 ·simp (disch:=omega) [oz,xe,EVP,EV,simprocAttr,Out.goes]
theorem Ik (s:List UInt8) (hs:s.length≤9223372036854775807):S wx 1 [.s s]=some [.b (ord s)]:=by
 refine Hj8 (N:=s.length+1) rfl ?_;unfold ord;by_cases h1:s=[]
 ·subst h1;simp (disch:=omega) [oz,xe,EVP,EV,simprocAttr]
 ·have h2:1≤s.length:=Bg.2 h1;by_cases h3:s.length≤63
  ·simp (disch:=omega) only [oz,X5,h1,xe,EVP,EV,simprocAttr];cases s.all Mc<;>simp [h2,h3]
  ·simp (disch:=omega) only [oz,h1,xe,EVP,EV,simprocAttr];simp [h3]
def okP (i:Nat) (p:List UInt8):Bool:=ord p||(decide (i=0) && decide (p=[42]))
def Cd2:Nat→List (List UInt8)→Bool
 |_,[]=>true
 |i,p::r=>okP i p && Cd2 (i+1) r
theorem U5:∀(l:List (List UInt8)) (i:Nat),Cd2 i l=Lf (decide (i=0)) l
 |[],_=>rfl
 |p::r,i=>by
  have h1:=U5 r (i+1);simp only [Cd2,Lf,h1,okP,zx];by_cases h2:p=[42]
  ·subst h2;by_cases h3:i=0<;>simp [Cc3,h3]
  ·simp [h2]
theorem Bm8 (p q:PV) (l:List (List UInt8)) (hl:l.length≤1000000) (hw:∀x∈l,x.length≤9223372036854775807) (N:Nat) (hN:l.length<N):
  Dj9.ev S N [p,q,Cr l]=some (if Cd2 0 l=true then .yld 0 [] else .ret [.b false]):=by
 refine Fg l (fun i=>[.i .i64 (i:Int)]) (fun i r=>if Cd2 i r=true then .yld 0 [] else .ret [.b false]) rfl hN (fun i c r hd hi hc=> ?_) ?_
 ·have hcw:=hw c (A6 hc);have key:Bl6.ev S N ([p,q,Cr l]++[.i .i64 (i:Int)])=some (if okP i c=true then .yld 1 [.i .i64 ((i:Int)+1)] else .ret [.b false]):=by
   rcases Ad (ord c) with h1|h1
   ·simp (disch:=omega) only [Rw,Ik,hc,h1,xe,EVP,EV,simprocAttr];simp [okP,h1]
   ·by_cases h2:i=0
    ·subst h2;by_cases h3:c=[42]
     ·subst h3;simp (disch:=omega) only [Rw,Ik,hc,h1,xe,EVP,EV,simprocAttr];simp [okP]
     ·simp (disch:=omega) only [Rw,Ik,hc,h1,h3,xe,EVP,EV,simprocAttr];simp [okP,h1,h3]
    ·simp (disch:=omega) only [Rw,Ik,hc,h1,xe,EVP,EV,simprocAttr];simp [okP,h1,h2]
  rw [key];rcases Ad (okP i c) with h|h<;>simp [h,Cd2,Out.goes]
 ·simp (disch:=omega) only [Rw,xe,EVP,EV,simprocAttr];simp [Out.goes,Cd2]
theorem R5:∀(m cur:List UInt8) (x:List UInt8),x∈pcs cur m→x.length≤cur.length+m.length
 |[],cur,x,h=>by simp [pcs] at h;subst h;simp
 |c::r,cur,x,h=>by
  simp only [pcs] at h;split at h
  ·rcases A7.1 h with rfl|h
   ·omega
   ·have:=R5 r [] x h;simp at this ⊢;omega
  ·have:=R5 r _ x h;simp at this ⊢;omega
theorem Cl8 (m x:List UInt8) (h:x∈cut m):x.length≤m.length:=by simpa using R5 m [] x h
theorem Gx5 (m:List UInt8):(cut m).length≤m.length+1:=by have:=Aj8 m;have:m.count 46≤m.length:=List.count_le_length;omega
theorem pk (n:List UInt8):([46]:List UInt8).isSuffixOf n=true↔∃m,n=m++[46]:=by rw [List.isSuffixOf_iff_suffix];exact ⟨fun ⟨m,h⟩=>⟨m,h.symm⟩,fun ⟨m,h⟩=>⟨m,h.symm⟩⟩
theorem Bs1 (m:List UInt8) (hm:m≠[]) (hl:m.length≤253):vld (m++[46])=Cd2 0 (cut m):=by have h1:m++[46]≠[46]:=fun e=>hm (List.append_cancel_right (bs:=[46]) (by simpa using e));have h2:0<m.length:=Bg.2 hm;unfold vld nm;rw [if_neg h1,if_pos ⟨by simp;omega,by simp;omega,by simp⟩,Rh,U5];have e:pcs [] m=cut m:=rfl;have e2:Lf (decide ((0:Nat)=0)) (cut m)=Lf true (cut m):=rfl;rw [e,e2];cases Lf true (cut m)<;>rfl
theorem Cf9 (m:List UInt8) (h:vld (m++[46])=true) (hm:m≠[]):lbl (m++[46])=cut m:=by
 rcases vld_cases h with ⟨h1,_⟩|⟨h1,h2,h3,_⟩
 ·exact absurd (List.append_cancel_right (bs:=[46]) (by simpa using h1)) hm
 ·exact (Cl7 h1 (fun p hp=>zy (V7 h2 hp)) h3.symm).symm
theorem B5 (n:List UInt8) (hn:n.length≤9223372036854775807):S P3 1 [.s n]=some [.b (vld n)]:=by
 refine Hq9 (N:=300) rfl ?_;by_cases h0:n=[46]
 ·subst h0;simp (disch:=omega) only [Rw,xe,EVP,EV,simprocAttr];rfl
 ·by_cases h1:255≤n.length
  ·have hv:vld n=false:=by rw [Ks];intro h;have:=o4 h;omega
   simp (disch:=omega) only [Rw,h0,hv,xe,EVP,EV,simprocAttr]
  ·rcases Ad (([46]:List UInt8).isSuffixOf n) with h2|h2
   ·obtain ⟨m,rfl⟩:=(pk n).1 h2;have hm:m≠[]:=fun e=>h0 (by simp [e]);have hl:(m++[46]).length=m.length+1:=by simp
    have hml:m.length≤1000000:=by omega
    have e:List.drop 0 (List.take (((m++[46]).length:Int) - 1).toNat (m++[46]))=m:=by
     have:(((m++[46]).length:Int) - 1).toNat=m.length:=by omega
     rw [this];simp
    have hc:=Gx5 m;have hv:=Bs1 m hm (by omega);have hk:=Bm8 (.s (m++[46])) (.b true) (cut m) (by omega) (fun x hx=>by have:=Cl8 m x hx;omega) 300 (by omega);simp (disch:=omega) only [Rw,Nq,Wt,e,hk,h0,h2,xe,EVP,EV,simprocAttr];rw [hv];cases Cd2 0 (cut m)<;>simp
   ·have hv:vld n=false:=by
     rw [Ks];intro h;rcases vld_cases h with ⟨h3,_⟩|⟨h3,_,h5,_⟩
     ·exact h0 h3
     ·obtain ⟨m,hm⟩:=O6 _ h3;have:=(pk n).2 ⟨m,h5.trans hm⟩;rw [h2] at this;cases this
    simp (disch:=omega) only [Rw,Nq,h0,h2,hv,xe,EVP,EV,simprocAttr]
theorem Mm (n:List UInt8) (hn:n.length≤9223372036854775807):S Yj 1 [.s n]=some [Cr (lbl n)]:=by
 refine Gs6 (N:=1) rfl ?_;by_cases h0:n=[46]
 ·subst h0;simp (disch:=omega) only [Ez5,Cg0,xe,EVP,EV,simprocAttr]
 ·rcases Ad (vld n) with h1|h1
  ·obtain ⟨m,hm,rfl⟩:∃m,m≠[]∧n=m++[46]:=by
    rcases vld_cases h1 with ⟨h3,_⟩|⟨h3,_,h5,_⟩
    ·exact absurd h3 h0
    ·obtain ⟨m,hm⟩:=O6 _ h3;exact ⟨m,fun e=>h0 (by rw [h5,hm,e];rfl),h5.trans hm⟩
   have hl:(m++[46]).length=m.length+1:=by simp
   have e:List.drop 0 (List.take (((m++[46]).length:Int) - 1).toNat (m++[46]))=m:=by
    have:(((m++[46]).length:Int) - 1).toNat=m.length:=by omega
    rw [this];simp
   have hl2:=o4 h1;have e2:=Cf9 m h1 hm;simp (disch:=omega) only [Ez5,B5,Wt,e,e2,h0,h1,xe,EVP,EV,simprocAttr]
  ·have e:lbl n=[]:=by
    unfold lbl;unfold vld at h1;cases h:nm n with
    |none=>rfl
    |some l=>rw [h] at h1;cases h1
   simp (disch:=omega) only [Ez5,B5,h0,h1,e,xe,EVP,EV,simprocAttr]
end Go.X.G
/- Names: order, common ancestors, wildcards. -/
namespace Go.X.G
open Go Go.X
theorem M9:∀(a:List UInt8),Op.bytesLess a a=false
 |[]=>rfl
 |a::x=>by simp [Op.bytesLess,M9 x]
theorem Jz:∀(a b:List UInt8),Lib.compareBytes a b=cmpS a b
 |[],[]=>rfl
 |[],_::_=>rfl
 |_::_,[]=>rfl
 |a::x,b::y=>by
  have ih:=Jz x y;unfold cmpS at ih ⊢;simp only [Lib.compareBytes,Op.bytesLess,ih];by_cases h1:a<b
  ·simp [h1]
  ·by_cases h2:b<a
   ·have h3:a≠b:=fun e=>by subst e;exact h1 h2
    simp [h1,h2,h3]
   ·have h3:a=b:=UInt8.le_antisymm (UInt8.not_lt.1 h2) (UInt8.not_lt.1 h1);subst h3;simp [h1]
theorem H4 {a b:List UInt8}:cmpS a b=0↔a=b:=by
 unfold cmpS;by_cases h:a=b
 ·subst h;simp [M9]
 ·cases h2:Op.bytesLess a b<;>simp [h]
theorem If (x y:List UInt8):S U8 2 [.s x, .s y]=some [.i .i64 (cmpS x y)]:=by rw [Z5,Jz]
def Pn:List (List UInt8)→List (List UInt8)→Option Int
 |x::xs,y::ys=>if x=y then Pn xs ys else some (cmpS x y)
 |_,_=>none
theorem Ak3:∀(a b:List (List UInt8)),Pn a b=if S4 a b<a.length∧S4 a b<b.length then some (cmpS (a.getD (S4 a b) []) (b.getD (S4 a b) [])) else none
 |[],b=>by simp [Pn,S4]
 |x::xs,[]=>by simp [Pn,S4]
 |x::xs,y::ys=>by
  have ih:=Ak3 xs ys;simp only [Pn,S4];by_cases h:x=y
  ·simp only [if_pos h,ih];simp
  ·simp [h]
def mt (a b:List (List UInt8)):Int:=match Pn a.reverse b.reverse with
 |some c=>c
 |none=>if a.length<b.length then -1 else if b.length<a.length then 1 else 0
theorem ez (a:List (List UInt8)) (k:Nat) (h:k<a.length):a.reverse.getD k []=a.getD (a.length - 1 - k) []:=by simp [By,List.getElem?_reverse h]
theorem S6 {a b:List UInt8} (ha:vld a=true) (hb:vld b=true):M8 a b=mt (lbl a) (lbl b):=by
 unfold M8 mt;rw [Ak3];have e:S4 (lbl a).reverse (lbl b).reverse=H9 (lbl a) (lbl b):=rfl;rw [e,ha,hb];simp only [List.length_reverse,Bool.and_self,if_true];by_cases h:H9 (lbl a) (lbl b)<(lbl a).length∧H9 (lbl a) (lbl b)<(lbl b).length
 ·rw [if_pos h,if_pos h,ez _ _ h.1,ez _ _ h.2]
 ·rw [if_neg h,if_neg h]
theorem Z8 (a b:List (List UInt8)) (p1 p2 p3 p4:PV) (ha:a.length≤1000) (hb:b.length≤1000) (N:Nat) (hN:1001<N):
  yn.ev S N [p1,p2,p3,p4,Cr a,Cr b]=some (match Pn a.reverse b.reverse with|some c=> .ret [.i .i64 c]|none=> .yld 0 []):=by
 have key:=Gd (fn:=S) (N:=N) (η:=[p1,p2,p3,p4,Cr a,Cr b]) (id:=1) (init:=[(.c (.i .i64 (1)))]) (body:=Bl5) (α:=Nat) (fun k=>[.i .i64 ((k:Int)+1)])
  (fun k=>match Pn (a.reverse.drop k) (b.reverse.drop k) with|some c=> .ret [.i .i64 c]|none=> .yld 0 []) (fun k=>k≤a.length∧k≤b.length) (fun k=>a.length - k) 0 rfl ⟨Cm _,Cm _⟩ (by omega) ?_
 ·simpa [yn] using key
 ·rintro k ⟨h1,h2⟩;by_cases h3:k<a.length
  ·by_cases h4:k<b.length
   ·have e1:((a.length:Int) - ((k:Int)+1)).toNat=a.length - 1 - k:=by omega
    have e2:((b.length:Int) - ((k:Int)+1)).toNat=b.length - 1 - k:=by omega
    have g1:a[a.length - 1 - k]? =some (a[a.length - 1 - k]'(by omega)):=Ay (by omega);have g2:b[b.length - 1 - k]? =some (b[b.length - 1 - k]'(by omega)):=Ay (by omega);have d1:a.reverse.drop k=(a[a.length - 1 - k]'(by omega))::a.reverse.drop (k+1):=by rw [Cl (by simpa using h3)];simp
    have d2:b.reverse.drop k=(b[b.length - 1 - k]'(by omega))::b.reverse.drop (k+1):=by rw [Cl (by simpa using h4)];simp
    rw [d1,d2];generalize (a[a.length - 1 - k]'(by omega))=x at g1;generalize (b[b.length - 1 - k]'(by omega))=y at g2;simp only [Pn];by_cases h:x=y
    ·left;have h5:cmpS x y=0:=H4.2 h;refine ⟨k+1,?_,⟨by omega,by omega⟩,by omega,by rw [if_pos h]⟩;simp (disch:=omega) only [Xx,If,e1,e2,g1,g2,h5,xe,EVP,EV,simprocAttr]
    ·right;have h5:¬cmpS x y=0:=fun e=>h (H4.1 e);rw [if_neg h];simp (disch:=omega) only [Xx,If,e1,e2,g1,g2,h5,xe,EVP,EV,simprocAttr];simp [Out.goes]
   ·right;have d2:b.reverse.drop k=[]:=Ds (by simp;omega);have z:Pn (a.reverse.drop k) []=none:=by cases a.reverse.drop k<;>rfl
    rw [d2,z];simp (disch:=omega) [Xx,xe,EVP,EV,simprocAttr,Out.goes]
  ·right;have d1:a.reverse.drop k=[]:=Ds (by simp;omega);have z:Pn [] (b.reverse.drop k)=none:=rfl;rw [d1,z];simp (disch:=omega) [Xx,xe,EVP,EV,simprocAttr,Out.goes]
theorem Z7 (a b:List UInt8) (hn:a.length≤9223372036854775807) (ht:b.length≤9223372036854775807):S wl 2 [.s a, .s b]=some [.i .i64 (M8 a b)]:=by
 refine Hk6 (N:=1002) rfl ?_;have h1:=Jj a;have h2:=Jj b;rcases Ad (vld a) with h3|h3<;>rcases Ad (vld b) with h4|h4
 ·rw [S6 h3 h4];unfold mt;have hk:=Z8 (lbl a) (lbl b) (.s a) (.s b) (.b true) (.b true) (by omega) (by omega) 1002 (by omega);cases h5:Pn (lbl a).reverse (lbl b).reverse with
  |some c=>
   rw [h5] at hk;simp (disch:=omega) only [Xx,B5,Mm,hk,h3,h4,xe,EVP,EV,simprocAttr]
  |none=>
   rw [h5] at hk;simp (disch:=omega) only [Xx,B5,Mm,hk,h3,h4,xe,EVP,EV,simprocAttr]
   grind
 all_goals unfold M8
 all_goals simp (disch:=omega) only [Xx,B5,If,h3,h4,xe,EVP,EV,simprocAttr]
 all_goals simp
end Go.X.G
/- The canonical order of names is a total order. -/
namespace Go.X.G
open Go Go.X
structure TO {α:Type} (lt:α→α→Prop):Prop where
 irr:∀a,¬lt a a
 tr:∀a b c,lt a b→lt b c→lt a c
 tri:∀a b,lt a b∨a=b∨lt b a
theorem TO.asym {α:Type} {lt:α→α→Prop} (h:TO lt) {a b:α} (h1:lt a b):¬lt b a:=fun h2=>h.irr a (h.tr _ _ _ h1 h2)
theorem TO.ntr {α:Type} {lt:α→α→Prop} (h:TO lt) {a b c:α} (h1:¬lt a b) (h2:¬lt b c):¬lt a c:=by
 intro h3;rcases h.tri b a with h4|h4|h4
 ·exact h2 (h.tr _ _ _ h4 h3)
 ·subst h4;exact h2 h3
 ·exact h1 h4
def lex {α:Type} (lt:α→α→Prop):List α→List α→Prop
 |[],[]=>False
 |[],_::_=>True
 |_::_,[]=>False
 |a::x,b::y=>lt a b∨(a=b∧lex lt x y)
theorem yv {α:Type} {lt:α→α→Prop} (h:TO lt):∀x:List α,¬lex lt x x
 |[]=>by simp [lex]
 |a::x=>by simp only [lex,true_and,not_or];exact ⟨h.irr a,yv h x⟩
theorem Ct2 {α:Type} {lt:α→α→Prop} (h:TO lt):∀x y z:List α,lex lt x y→lex lt y z→lex lt x z
 |[],[],_,h1,_=>by simp [lex] at h1
 |[],_::_,[],_,h2=>by simp [lex] at h2
 |[],_::_,_::_,_,_=>by simp [lex]
 |_::_,[],_,h1,_=>by simp [lex] at h1
 |_::_,_::_,[],_,h2=>by simp [lex] at h2
 |a::x,b::y,c::z,h1,h2=>by
  simp only [lex] at h1 h2 ⊢;rcases h1 with h1|⟨rfl,h1⟩
  ·rcases h2 with h2|⟨rfl,h2⟩
   ·exact .inl (h.tr _ _ _ h1 h2)
   ·exact .inl h1
  ·rcases h2 with h2|⟨rfl,h2⟩
   ·exact .inl h2
   ·exact .inr ⟨rfl,Ct2 h x y z h1 h2⟩
theorem lex_tri {α:Type} {lt:α→α→Prop} (h:TO lt):∀x y:List α,lex lt x y∨x=y∨lex lt y x
 |[],[]=> .inr (.inl rfl)
 |[],_::_=> .inl (by simp [lex])
 |_::_,[]=> .inr (.inr (by simp [lex]))
 |a::x,b::y=>by
  simp only [lex];rcases h.tri a b with h1|rfl|h1
  ·exact .inl (.inl h1)
  ·rcases lex_tri h x y with h2|rfl|h2
   ·exact .inl (.inr ⟨rfl,h2⟩)
   ·exact .inr (.inl rfl)
   ·exact .inr (.inr (.inr ⟨rfl,h2⟩))
  ·exact .inr (.inr (.inl h1))
theorem TO.lex {α:Type} {lt:α→α→Prop} (h:TO lt):TO (G.lex lt):=⟨yv h,Ct2 h,lex_tri h⟩
theorem Gp2:TO (fun a b:UInt8=>a<b):=⟨fun a=>UInt8.lt_irrefl a,fun a b c h1 h2=>UInt8.lt_trans h1 h2,fun a b=>by
 rcases UInt8.lt_or_le a b with h|h
 ·exact .inl h
 ·rcases UInt8.lt_or_le b a with h2|h2
  ·exact .inr (.inr h2)
  ·exact .inr (.inl (UInt8.le_antisymm h2 h))⟩
abbrev ltB:List UInt8→List UInt8→Prop:=lex fun a b:UInt8=>a<b
theorem Cr1:TO ltB:=Gp2.lex
theorem Wm:∀a b:List UInt8,Op.bytesLess a b=true↔ltB a b
 |[],[]=>by simp [Op.bytesLess,lex]
 |[],_::_=>by simp [Op.bytesLess,lex]
 |_::_,[]=>by simp [Op.bytesLess,lex]
 |a::x,b::y=>by have ih:=Wm x y;simp only [Op.bytesLess,An,decide_eq_true_eq,Ax,beq_iff_eq,lex];rw [ih]
theorem S5 (a b:List UInt8):cmpS a b<0↔ltB a b:=by
 rw [←Wm];unfold cmpS;cases h:Op.bytesLess a b
 ·simp only [Ac,if_false,iff_false];split<;>omega
 ·simp
abbrev ltL:List (List UInt8)→List (List UInt8)→Prop:=lex ltB
theorem to_L:TO ltL:=Cr1.lex
def m7 (a b:List (List UInt8)):Int:=match Pn a b with
 |some c=>c
 |none=>if a.length<b.length then -1 else if b.length<a.length then 1 else 0
theorem fh:∀a b:List (List UInt8),m7 a b<0↔ltL a b
 |[],[]=>by simp [m7,Pn,lex]
 |[],_::_=>by simp [m7,Pn,lex]
 |_::_,[]=>by simp [m7,Pn,lex]
 |x::xs,y::ys=>by
  have ih:=fh xs ys;simp only [m7,Pn,lex] at ih ⊢;by_cases h:x=y
  ·subst h;rw [if_pos rfl];simp only [Bj,Nat.add_lt_add_iff_right,true_and];rw [ih];constructor
   ·exact fun h=> .inr h
   ·rintro (h|h)
    ·exact absurd h (Cr1.irr x)
    ·exact h
  ·rw [if_neg h];simp only;rw [S5];simp [h]
theorem Zx (a b:List (List UInt8)):mt a b=m7 a.reverse b.reverse:=by unfold mt m7;cases Pn a.reverse b.reverse<;>simp
theorem Ak2 (a b:List (List UInt8)):mt a b<0↔ltL a.reverse b.reverse:=by rw [←fh,Zx]
def ltN (a b:List UInt8):Prop:=if vld a=true then (if vld b=true then ltL (lbl a).reverse (lbl b).reverse else True) else (if vld b=true then False else ltB a b)
theorem ff (a b:List UInt8):M8 a b<0↔ltN a b:=by
 unfold ltN;rcases Ad (vld a) with ha|ha
 ·rcases Ad (vld b) with hb|hb
  ·rw [S6 ha hb,Ak2,if_pos ha,if_pos hb]
  ·unfold M8;simp [ha,hb]
 ·rcases Ad (vld b) with hb|hb
  ·unfold M8;simp [ha,hb]
  ·have e:M8 a b=cmpS a b:=by unfold M8;simp [ha,hb]
   rw [e,S5];simp [ha,hb]
theorem Gf1:TO ltN:=by
 refine ⟨fun a h=> ?_,fun a b c h1 h2=> ?_,fun a b=> ?_⟩
 ·unfold ltN at h;split at h
  ·exact to_L.irr _ h
  ·exact Cr1.irr _ h
 ·unfold ltN at*;rcases Ad (vld a) with ha|ha<;>rcases Ad (vld b) with hb|hb<;>rcases Ad (vld c) with hc|hc<;>
   simp only [ha,hb,hc,if_true,Ac,if_false] at h1 h2 ⊢
  ·exact to_L.tr _ _ _ h1 h2
  ·exact Cr1.tr _ _ _ h1 h2
 ·unfold ltN;rcases Ad (vld a) with ha|ha<;>rcases Ad (vld b) with hb|hb<;>simp only [ha,hb,if_true,Ac,if_false]
  ·rcases to_L.tri (lbl a).reverse (lbl b).reverse with h|h|h
   ·exact .inl h
   ·exact .inr (.inl (yw ha hb (List.reverse_inj.1 h)))
   ·exact .inr (.inr h)
  ·simp
  ·simp
  ·exact Cr1.tri a b
theorem Ln {a b:List UInt8}:M8 a b=0↔a=b:=by
 constructor
 ·intro h;rcases Ad (vld a) with ha|ha
  ·rcases Ad (vld b) with hb|hb
   ·rw [S6 ha hb] at h;have key:∀x y:List (List UInt8),m7 x y=0→x=y:=by
     intro x
     induction x with
     |nil=>intro y hy;cases y with
      |nil=>rfl
      |cons=>simp [m7,Pn] at hy
     |cons x xs ih=>intro y hy;cases y with
      |nil=>simp [m7,Pn] at hy
      |cons y ys=>
       simp only [m7,Pn] at hy ih;by_cases e:x=y
       ·subst e;rw [if_pos rfl] at hy;simp only [Bj,Nat.add_lt_add_iff_right] at hy;rw [ih ys hy]
       ·rw [if_neg e] at hy;exact absurd (H4.1 hy) e
    rw [Zx] at h;exact yw ha hb (List.reverse_inj.1 (key _ _ h))
   ·unfold M8 at h;simp [ha,hb] at h
  ·rcases Ad (vld b) with hb|hb
   ·unfold M8 at h;simp [ha,hb] at h
   ·have e:M8 a b=cmpS a b:=by unfold M8;simp [ha,hb]
    rw [e] at h;exact H4.1 h
 ·rintro rfl;have h1:=ff a a;have h2:¬M8 a a<0:=fun h=>Gf1.irr a (h1.1 h);have key:∀x:List (List UInt8),m7 x x=0:=by
   intro x
   induction x with
   |nil=>rfl
   |cons x xs ih=>
    simp only [m7,Pn] at ih ⊢;simp only [if_true,Bj,Nat.add_lt_add_iff_right];exact ih
  rcases Ad (vld a) with ha|ha
  ·rw [S6 ha ha];rw [Zx];exact key _
  ·have e:M8 a a=cmpS a a:=by unfold M8;simp [ha]
   rw [e];exact H4.2 rfl
end Go.X.G
/- Stable sorting, in plain words: what is sorted and keeps the order of what is alike is one list alone. -/
namespace Go.X.G
open Go Go.X
structure TP {α:Type} (le:α→α→Bool):Prop where
 tr:∀a b c,le a b=true→le b c=true→le a c=true
 tot:∀a b,le a b=true∨le b a=true
theorem TP.refl {α:Type} {le:α→α→Bool} (h:TP le) (a:α):le a a=true:=by rcases h.tot a a with q|q<;>exact q
def eqv {α:Type} (le:α→α→Bool) (a b:α):Bool:=le a b && le b a
structure Stab {α:Type} (le:α→α→Bool) (r l:List α):Prop where
 sorted:r.Pairwise fun a b=>le a b=true
 cls:∀x,r.filter (eqv le x)=l.filter (eqv le x)
theorem Stab.mem {α:Type} {le:α→α→Bool} (ht:TP le) {r l:List α} (h:Stab le r l) (x:α):x∈r↔x∈l:=by
 have e:eqv le x x=true:=by unfold eqv;rw [ht.refl];rfl
 have h1:x∈r↔x∈r.filter (eqv le x):=by rw [E8];simp [e]
 have h2:x∈l↔x∈l.filter (eqv le x):=by rw [E8];simp [e]
 rw [h1,h.cls,←h2]
theorem c8 {α:Type} {le:α→α→Bool} (ht:TP le):∀(r s:List α),(r.Pairwise fun a b=>le a b=true)→(s.Pairwise fun a b=>le a b=true)→(∀x,r.filter (eqv le x)=s.filter (eqv le x))→r=s
 |[],s,_,_,h=>by
  cases s with
  |nil=>rfl
  |cons y t=>
   have:=h y;rw [List.filter_nil,Ek (by unfold eqv;rw [ht.refl];rfl)] at this;cases this
 |x::r,[],_,_,h=>by have:=h x;rw [List.filter_nil,Ek (by unfold eqv;rw [ht.refl];rfl)] at this;cases this
 |x::r,y::s,hr,hs,h=>by
  obtain ⟨r1,r2⟩:=Bh.1 hr;obtain ⟨s1,s2⟩:=Bh.1 hs;have hmem:∀z,z∈x::r↔z∈y::s:=fun z=>by
   have e:eqv le z z=true:=by unfold eqv;rw [ht.refl];rfl
   have a1:z∈x::r↔z∈(x::r).filter (eqv le z):=by rw [E8];simp [e]
   have a2:z∈y::s↔z∈(y::s).filter (eqv le z):=by rw [E8];simp [e]
   rw [a1,h,←a2]
  have hxy:le x y=true:=by
   rcases A7.1 ((hmem y).2 (.head _)) with q|q
   ·rw [q];exact ht.refl x
   ·exact r1 y q
  have hyx:le y x=true:=by
   rcases A7.1 ((hmem x).1 (.head _)) with q|q
   ·rw [q];exact ht.refl y
   ·exact s1 x q
  have e:x=y:=by have:=h x;rw [Ek (by unfold eqv;rw [ht.refl];rfl),Ek (by unfold eqv;rw [hxy,hyx];rfl)] at this;injection this
  subst e;have:r=s:=c8 ht r s r2 s2 fun z=>by
   have:=h z;simp only [Nr] at this;split at this
   ·injection this
   ·exact this
  rw [this]
theorem Stab.one {α:Type} {le:α→α→Bool} (ht:TP le) {r s l:List α} (h1:Stab le r l) (h2:Stab le s l):r=s:=
 c8 ht r s h1.sorted h2.sorted fun x=>by rw [h1.cls,h2.cls]
def mrg {α:Type} (le:α→α→Bool):List α→List α→List α
 |[],b=>b
 |x::a,[]=>x::a
 |x::a,y::b=>if le x y=true then x::mrg le a (y::b) else y::mrg le (x::a) b
termination_by a b=>a.length+b.length
theorem I8 {α:Type} (le:α→α→Bool) (a:List α):mrg le a []=a:=by cases a<;>simp [mrg]
theorem mrg_mem {α:Type} (le:α→α→Bool) (z:α):∀(a b:List α),z∈mrg le a b↔z∈a∨z∈b
 |[],b=>by simp [mrg]
 |x::a,[]=>by simp [mrg]
 |x::a,y::b=>by
  unfold mrg;split
  ·rw [A7,mrg_mem le z a (y::b)];simp only [A7];grind
  ·rw [A7,mrg_mem le z (x::a) b];simp only [A7];grind
termination_by a b=>a.length+b.length
theorem Mz {α:Type} {le:α→α→Bool} (ht:TP le):∀(a b:List α),(a.Pairwise fun x y=>le x y=true)→(b.Pairwise fun x y=>le x y=true)→(mrg le a b).Pairwise fun x y=>le x y=true
 |[],b,_,hb=>by simpa [mrg] using hb
 |x::a,[],ha,_=>by simpa [mrg] using ha
 |x::a,y::b,ha,hb=>by
  obtain ⟨a1,a2⟩:=Bh.1 ha;obtain ⟨b1,b2⟩:=Bh.1 hb;unfold mrg;split
  ·rename_i h;refine Bh.2 ⟨fun z hz=> ?_,Mz ht a (y::b) a2 hb⟩;rcases (mrg_mem le z a (y::b)).1 hz with hz|hz
   ·exact a1 z hz
   ·rcases A7.1 hz with rfl|hz
    ·exact h
    ·exact ht.tr _ _ _ h (b1 z hz)
  ·rename_i h;have h':le y x=true:=(ht.tot x y).resolve_left h;refine Bh.2 ⟨fun z hz=> ?_,Mz ht (x::a) b ha b2⟩;rcases (mrg_mem le z (x::a) b).1 hz with hz|hz
   ·rcases A7.1 hz with rfl|hz
    ·exact h'
    ·exact ht.tr _ _ _ h' (a1 z hz)
   ·exact b1 z hz
termination_by a b=>a.length+b.length
theorem Yz {α:Type} {le:α→α→Bool} (ht:TP le) (z:α):∀(a b:List α),(a.Pairwise fun x y=>le x y=true)→(mrg le a b).filter (eqv le z)=a.filter (eqv le z)++b.filter (eqv le z)
 |[],b,_=>by simp [mrg]
 |x::a,[],_=>by simp [mrg]
 |x::a,y::b,ha=>by
  obtain ⟨a1,a2⟩:=Bh.1 ha;unfold mrg;split
  ·simp only [Nr];rw [Yz ht z a (y::b) a2];simp only [Nr];split<;>simp
  ·rename_i h;rw [Nr,Yz ht z (x::a) b ha];by_cases hy:eqv le z y=true
   ·-- then nothing of the first list is like z
    have hno:(x::a).filter (eqv le z)=[]:=by
     rw [Rj];intro w hw hzw;unfold eqv at hy hzw;simp only [Ax] at hy hzw;have hxw:le x w=true:=by
      rcases A7.1 hw with rfl|hw
      ·exact ht.refl _
      ·exact a1 w hw
     exact h (ht.tr _ _ _ hxw (ht.tr _ _ _ hzw.2 hy.1))
    rw [hno,Ek hy,if_pos hy];rfl
   ·rw [if_neg hy,List.filter_cons_of_neg hy]
termination_by a b=>a.length+b.length
theorem Stab.mrg {α:Type} {le:α→α→Bool} (ht:TP le) {r s l m:List α} (h1:Stab le r l) (h2:Stab le s m):Stab le (mrg le r s) (l++m):=
 ⟨Mz ht r s h1.sorted h2.sorted,fun x=>by rw [Yz ht x r s h1.sorted,h1.cls,h2.cls,It]⟩
theorem I7 {α:Type} (le:α→α→Bool) (a2 b2:List α):∀(a1 b1:List α),(∀x∈a1,∀y∈b2,le x y=true)→(∀x∈a2,∀y∈b1,le x y=false)→mrg le (a1++a2) (b1++b2)=mrg le a1 b1++mrg le a2 b2
 |[],[],_,_=>by simp [mrg]
 |x::a1,[],h1,h2=>by
  rw [I8,Dw];have ih:=I7 le a2 b2 a1 [] (fun w hw=>h1 w (.tail _ hw)) h2;rw [I8,Dw] at ih;cases b2 with
  |nil=>rw [I8,I8]
  |cons y b=>
   rw [Bt];have e:mrg le (x::(a1++a2)) (y::b)=x::mrg le (a1++a2) (y::b):=by
    conv=>lhs;unfold mrg
    rw [if_pos (h1 x (.head _) y (.head _))]
   rw [e,ih,Bt]
 |[],y::b1,h1,h2=>by
  have ih:=I7 le a2 b2 [] b1 h1 (fun x hx w hw=>h2 x hx w (.tail _ hw));cases a2 with
  |nil=>simp [mrg]
  |cons x a=>
   rw [Dw] at ih ⊢;rw [Bt];have e:mrg le (x::a) (y::(b1++b2))=y::mrg le (x::a) (b1++b2):=by
    conv=>lhs;unfold mrg
    rw [if_neg (by rw [h2 x (.head _) y (.head _)];simp)]
   rw [e,ih];simp [mrg]
 |x::a1,y::b1,h1,h2=>by
  rw [Bt,Bt];by_cases h:le x y=true
  ·have ih:=I7 le a2 b2 a1 (y::b1) (fun w hw=>h1 w (.tail _ hw)) h2;have e1:mrg le (x::(a1++a2)) (y::(b1++b2))=x::mrg le (a1++a2) (y::(b1++b2)):=by
    conv=>lhs;unfold mrg
    rw [if_pos h]
   have e2:mrg le (x::a1) (y::b1)=x::mrg le a1 (y::b1):=by
    conv=>lhs;unfold mrg
    rw [if_pos h]
   rw [e1,e2,Bt,←ih];rfl
  ·have ih:=I7 le a2 b2 (x::a1) b1 h1 (fun w hw v hv=>h2 w hw v (.tail _ hv));have e1:mrg le (x::(a1++a2)) (y::(b1++b2))=y::mrg le (x::(a1++a2)) (b1++b2):=by
    conv=>lhs;unfold mrg
    rw [if_neg h]
   have e2:mrg le (x::a1) (y::b1)=y::mrg le (x::a1) b1:=by
    conv=>lhs;unfold mrg
    rw [if_neg h]
   rw [e1,e2,Bt,←ih];rfl
termination_by a1 b1=>a1.length+b1.length
end Go.X.G
/- Sorted lists of names, each once. -/
namespace Go.X.G
open Go Go.X
def Xj {α:Type} (e:α→α→Bool):α→List α→List α
 |_,[]=>[]
 |p,c::r=>if e c p=true then Xj e c r else c::Xj e c r
def cpt {α:Type} (e:α→α→Bool):List α→List α
 |[]=>[]
 |x::r=>x::Xj e x r
theorem Wh {α:Type} (e:α→α→Bool) (c:α):∀(r:List α) (p:α),Xj e p (r++[c])=Xj e p r++(if e c ((p::r).getLast (by simp))=true then [] else [c])
 |[],p=>by simp only [Dw,Xj,List.getLast_singleton];rfl
 |x::r,p=>by
  have ih:=Wh e c r x;simp only [Bt,Xj,List.getLast_cons_cons];split
  ·exact ih
  ·rw [ih];rfl
theorem S3 {α:Type} (e:α→α→Bool) (c:α) (l:List α) (h:l≠[]):cpt e (l++[c])=cpt e l++(if e c (l.getLast h)=true then [] else [c]):=by
 cases l with
 |nil=>exact absurd rfl h
 |cons x r=>
  show x::Xj e x (r++[c])=_;rw [Wh];rfl
theorem fy {α:Type} (e:α→α→Bool):∀(r:List α) (p:α),(Xj e p r).length≤r.length
 |[],_=>by simp [Xj]
 |c::r,p=>by have:=fy e r c;simp only [Xj];split<;>simp<;>omega
theorem Er2 {α:Type} (e:α→α→Bool) (l:List α):(cpt e l).length≤l.length:=by
 cases l with
 |nil=>simp [cpt]
 |cons x r=>have:=fy e r x;simp [cpt];exact this
abbrev eqs {α:Type} [DecidableEq α]:α→α→Bool:=fun a b=>decide (a=b)
def setN (l:List (List UInt8)):List (List UInt8):=cpt eqs (l.mergeSort fun x y=> !decide (M8 y x<0))
end Go.X.G
/- Data of records: what the reference's functions give. -/
namespace Go.X.G
open Go Go.X
def Gf6 (t:Int):List UInt8:=
 if t=1 then [65] else if t=2 then [78,83] else if t=5 then [67,78,65,77,69] else if t=6 then [83,79,65] else if t=12 then [80,84,82]
 else if t=15 then [77,88] else if t=16 then [84,88,84] else if t=28 then [65,65,65,65] else if t=33 then [83,82,86] else if t=39 then [68,78,65,77,69]
 else if t=43 then [68,83] else if t=46 then [82,82,83,73,71] else if t=47 then [78,83,69,67] else if t=48 then [68,78,83,75,69,89] else []
theorem t15 (t:Int):t=1∨t=2∨t=5∨t=6∨t=12∨t=15∨t=16∨t=28∨t=33∨t=39∨t=43∨t=46∨t=47∨t=48∨(t≠1∧t≠2∧t≠5∧t≠6∧t≠12∧t≠15∧t≠16∧t≠28∧t≠33∧t≠39∧t≠43∧t≠46∧t≠47∧t≠48):=by omega
theorem Z4 (t:Int):S wq 1 [.i .i64 t]=some [.s (Gf6 t)]:=by
 refine Gt9 (N:=1) rfl ?_;rcases t15 t with rfl|rfl|rfl|rfl|rfl|rfl|rfl|rfl|rfl|rfl|rfl|rfl|rfl|rfl|⟨h0,h1,h2,h3,h4,h5,h6,h7,h8,h9,h10,h11,h12,h13⟩
 all_goals simp (disch:=omega) only [Gl0,xe,EVP,EV,simprocAttr]
 all_goals first|rfl|(unfold Gf6;simp only [if_neg, *];rfl)
def knw (t:Int):Bool:=decide (t=1)||decide (t=2)||decide (t=5)||decide (t=6)||decide (t=12)||decide (t=15)||decide (t=16)||decide (t=28)||decide (t=33)||decide (t=39)||decide (t=43)||decide (t=46)||decide (t=47)||decide (t=48)
theorem Cg1 (t:Int):decide (Gf6 t≠[])=knw t:=by
 unfold Gf6 knw;rcases t15 t with rfl|rfl|rfl|rfl|rfl|rfl|rfl|rfl|rfl|rfl|rfl|rfl|rfl|rfl|⟨h0,h1,h2,h3,h4,h5,h6,h7,h8,h9,h10,h11,h12,h13⟩
 all_goals simp [*]
theorem B9 (t:Int):S Vj 1 [.i .i64 t]=some [.b (knw t)]:=by refine Hq6 (N:=1) rfl ?_;simp (disch:=omega) only [Gm0,Z4,Cg1,xe,EVP,EV,simprocAttr]
def Dk (d:Dat):Bool:=d.v6||(decide (d.hi=0) && decide (d.lo<4294967296))
theorem Ws (d:Dat):S lv 1 [Hk d]=some [.b (Dk d)]:=by refine Gt7 (N:=1) rfl ?_;unfold Dk;cases h:d.v6<;>by_cases h2:d.hi=0<;>simp (disch:=omega) [Gh8,h,h2,xe,EVP,EV,simprocAttr]
def inB (n most:Int):Bool:=decide (0≤n) && decide (n≤most)
theorem l9 (n m:Int):S Hs 2 [.i .i64 n, .i .i64 m]=some [.b (inB n m)]:=by refine Gt4 (N:=1) rfl ?_;simp (disch:=omega) only [Gh6,inB,xe,EVP,EV,simprocAttr]
theorem Bm9 (n:Int):S wj 1 [.i .i64 n]=some [.b (inB n 4294967295)]:=by refine Gt5 (N:=1) rfl ?_;simp (disch:=omega) only [Gh7,inB,xe,EVP,EV,simprocAttr];congr 5;simp;omega
def E9 (s:List UInt8):Bool:=decide (1≤s.length) && decide (s.length≤255)
theorem Rf (s:List UInt8):S Yk 1 [.s s]=some [.b (E9 s)]:=by refine Gt3 (N:=1) rfl ?_;simp (disch:=omega) only [Gh5,E9,xe,EVP,EV,simprocAttr];congr 5<;>simp<;>omega
theorem o3 {n:List UInt8} (h:vld n=true):0<n.length:=by
 unfold vld nm at h;split at h
 ·rename_i e;simp [e]
 ·split at h
  ·omega
  ·cases h
def E1 (n:List UInt8):Bool:=vld n && decide (n[0]? ≠some 42)
theorem Gx (n:List UInt8) (hn:n.length≤9223372036854775807):S P0 1 [.s n]=some [.b (E1 n)]:=by
 refine Gt6 (N:=1) rfl ?_;unfold E1;cases h:vld n
 ·simp (disch:=omega) only [Fz8,Pf,h,xe,EVP,EV,simprocAttr];rfl
 ·have h0:=Ay (o3 h);have h1:=Eb4 (n[0]'(o3 h)) 42 (by omega);simp (disch:=omega) only [Fz8,Pf,h,h0,xe,EVP,EV,simprocAttr];simp;exact h1
def bit (set:Int) (t:Nat):Int:=set / 2 ^ t % 2
theorem Gd1 (x:Int):IntKind.u64.wrap ((BitVec.ofInt IntKind.u64.bits x &&& BitVec.ofInt IntKind.u64.bits 1).toNat:Int)=x % 2:=by
 have h2:(BitVec.ofInt 64 x &&& BitVec.ofInt 64 1).toNat=(BitVec.ofInt 64 x).toNat % 2:=by rw [BitVec.toNat_and];show (BitVec.ofInt 64 x).toNat &&& 1=_;exact Nat.and_one_is_mod _
 show IntKind.u64.wrap (((BitVec.ofInt 64 x &&& BitVec.ofInt 64 1).toNat:Nat):Int)=_;rw [h2,BitVec.toNat_ofInt];rw [Gm7]<;>omega
end Go.X.G
/- Data of records: bytes. -/
namespace Go.X.G
open Go Go.X
def g8 (set:Int) (i:Nat):Nat→Bool
 |0=>true
 |k+1=>(!decide (bit set i=1)||knw (i:Int)) && g8 set (i+1) k
theorem Gd3 (set:Int) (N:Nat) (hN:64<N):
  Dj1.ev S N [.i .u64 set]=some (if g8 set 0 64=true then .yld 0 [] else .ret [.b false]):=by
 refine En 64 (fun i=>[.i .i64 (i:Int)]) (fun i=>if g8 set i (64 - i)=true then .yld 0 [] else .ret [.b false]) rfl hN (fun i hi=> ?_) ?_
 ·obtain ⟨k,hk⟩:∃k,64 - i=k+1:=⟨63 - i,by omega⟩;have hk':64 - (i+1)=k:=by omega
  have hb:IntKind.u64.bits=64:=rfl;have hi':i<IntKind.u64.bits:=by rw [hb];exact hi
  have h0:X.bin .shr (.i .u64 set) (.i .u64 (i:Int))=some (.i .u64 (set / 2 ^ i)):=ic _ _ _ _ hi';have h1:set / 2 ^ i % 2=bit set i:=rfl;rw [hk,hk'];simp only [g8];by_cases h2:bit set i=1<;>rcases Ad (knw (i:Int)) with h3|h3<;>simp (disch:=omega) only [Ez6,B9,Pb,Gd1,h0,h1,h2,h3,xe,EVP,EV,simprocAttr]
  all_goals simp [Out.goes]
 ·simp (disch:=omega) [Ez6,xe,EVP,EV,simprocAttr,Out.goes,g8]
theorem Gd2 (set:Int):S v9 1 [.i .u64 set]=some [.b (g8 set 0 64)]:=by refine Gt2 (N:=65) rfl ?_;simp (disch:=omega) only [Ez6,Gd3,xe,EVP,EV,simprocAttr];cases g8 set 0 64<;>rfl
def be (v:Int):Nat→List UInt8
 |0=>[]
 |n+1=>UInt8.ofNat (v / 256 ^ n % 256).toNat::be v n
theorem C8 (v:Int):∀n,(be v n).length=n
 |0=>rfl
 |n+1=>by simp [be,C8 v n]
theorem Od (z:Int) (h1:0≤z) (h2:z<256):((UInt8.ofNat z.toNat).toNat:Int)=z:=by simp;omega
theorem Zw (v:Int) (j:Nat):v / 256 ^ j / 256=v / 256 ^ (j+1):=by rw [Int.pow_succ,Int.ediv_ediv_of_nonneg (Int.le_of_lt (Int.pow_pos (by decide)))]
theorem Wd (v:Int) (j:Nat) (h:0≤v):0≤v / 256 ^ j:=Int.ediv_nonneg h (Int.le_of_lt (Int.pow_pos (by decide)))
theorem Wg (v:Int) (j:Nat) (h:0≤v):v / 256 ^ j≤v:=Int.ediv_le_self _ h
theorem vg (v:Int) (n i:Nat) (p q:PV) (N:Nat) (hN:i<N) (hi:i≤1000) (h0:0≤v) (h1:v≤18446744073709551615):
  yc.ev S N [.i .u64 v,p,q, .i .i64 (i:Int)]=some (.yld 2 [.i .u64 (v / 256 ^ i)]):=by
 refine En i (fun j=>[.i .u64 (v / 256 ^ j), .i .i64 (j:Int)]) (fun j=> .yld 2 [.i .u64 (v / 256 ^ i)]) (by simp [Sm,Y3,Hh1,Hh5]) hN (fun j hj=> ?_) ?_
 ·left;have h2:=Wd v j h0;have h3:=Wg v j h0;have h4:=Zw v j;simp (disch:=omega) only [T6,h4,xe,EVP,EV,simprocAttr];simp
 ·simp (disch:=omega) only [T6,xe,EVP,EV,simprocAttr];simp [Out.goes]
theorem vh (v:Int) (n:Nat) (N:Nat) (hN:n+1<N) (hn:n≤1000) (h0:0≤v) (h1:v≤18446744073709551615):
  Yg.ev S N [.i .u64 v, .i .i64 (n:Int)]=some (.yld 0 [.l 1 (Bd (be v n))]):=by
 have key:=Gd (fn:=S) (N:=N) (η:=[.i .u64 v, .i .i64 (n:Int)]) (id:=1) (init:=[(.c (.l 1 [])),(.bin .sub (.v 1) (.c (.i .i64 (1))))]) (body:=Zp) (α:=Nat×List UInt8) (fun a=>[.l 1 (Bd a.2), .i .i64 ((a.1:Int) - 1)]) (fun a=> .yld 0 [.l 1 (Bd (a.2++be v a.1))]) (fun a=>a.1+a.2.length=n) (fun a=>a.1) (n,[]) (by simp (disch:=omega) only [xe,EVP,EV,simprocAttr];rfl) rfl (by simp only;omega) ?_
 ·simpa [Yg] using key
 ·rintro ⟨m,acc⟩ hm;simp only at hm ⊢;cases m with
  |zero=>
   right;simp (disch:=omega) only [T6,xe,EVP,EV,simprocAttr];simp [be,Out.goes]
  |succ m=>
   left;have h2:=Wd v m h0;have h3:=Wg v m h0;have e:((m+1:Nat):Int) - 1=(m:Int):=by omega
   have e2:=Od (v / 256 ^ m % 256) (by omega) (by omega);have e3:=Jc acc;refine ⟨(m,acc++[UInt8.ofNat (v / 256 ^ m % 256).toNat]),?_,by simp;omega,by simp,by simp [be]⟩;rw [e];have hin:=vg v n m (.i .i64 (n:Int)) (.l 1 (Bd acc)) N (by omega) (by omega) h0 h1;simp (disch:=omega) only [T6,hin,xe,EVP,EV,simprocAttr];rw [←Mh,e2]
theorem Of (v:Int) (n:Nat) (hn:n≤1000) (h0:0≤v) (h1:v≤18446744073709551615):S Og 2 [.i .u64 v, .i .i64 (n:Int)]=some [.s (be v n)]:=by refine Fh2 (N:=n+2) rfl ?_;simp (disch:=omega) only [T6,vh,xe,EVP,EV,simprocAttr]
theorem Bn4 (v:Int) (n i:Nat) (p q:PV) (N:Nat) (hN:i<N) (hi:i≤1000) (h0:0≤v) (h1:v≤9223372036854775807):
  yf.ev S N [.i .i64 v,p,q, .i .i64 (i:Int)]=some (.yld 2 [.i .i64 (v / 256 ^ i)]):=by
 refine En i (fun j=>[.i .i64 (v / 256 ^ j), .i .i64 (j:Int)]) (fun j=> .yld 2 [.i .i64 (v / 256 ^ i)]) (by simp [Sm,Y3,Hh1,Hh5]) hN (fun j hj=> ?_) ?_
 ·left;have h2:=Wd v j h0;have h3:=Wg v j h0;have h4:=Zw v j;simp (disch:=omega) only [T7,h4,xe,EVP,EV,simprocAttr];simp
 ·simp (disch:=omega) only [T7,xe,EVP,EV,simprocAttr];simp [Out.goes]
theorem Bn5 (v:Int) (n:Nat) (N:Nat) (hN:n+1<N) (hn:n≤1000) (h0:0≤v) (h1:v≤9223372036854775807):
  Yh.ev S N [.i .i64 v, .i .i64 (n:Int)]=some (.yld 0 [.l 1 (Bd (be v n))]):=by
 have key:=Gd (fn:=S) (N:=N) (η:=[.i .i64 v, .i .i64 (n:Int)]) (id:=1) (init:=[(.c (.l 1 [])),(.bin .sub (.v 1) (.c (.i .i64 (1))))]) (body:=Zs) (α:=Nat×List UInt8) (fun a=>[.l 1 (Bd a.2), .i .i64 ((a.1:Int) - 1)]) (fun a=> .yld 0 [.l 1 (Bd (a.2++be v a.1))]) (fun a=>a.1+a.2.length=n) (fun a=>a.1) (n,[]) (by simp (disch:=omega) only [xe,EVP,EV,simprocAttr];rfl) rfl (by simp only;omega) ?_
 ·simpa [Yh] using key
 ·rintro ⟨m,acc⟩ hm;simp only at hm ⊢;cases m with
  |zero=>
   right;simp (disch:=omega) only [T7,xe,EVP,EV,simprocAttr];simp [be,Out.goes]
  |succ m=>
   left;have h2:=Wd v m h0;have h3:=Wg v m h0;have e:((m+1:Nat):Int) - 1=(m:Int):=by omega
   have e2:=Od (v / 256 ^ m % 256) (by omega) (by omega);have e3:=Jc acc;refine ⟨(m,acc++[UInt8.ofNat (v / 256 ^ m % 256).toNat]),?_,by simp;omega,by simp,by simp [be]⟩;rw [e];have hin:=Bn4 v n m (.i .i64 (n:Int)) (.l 1 (Bd acc)) N (by omega) (by omega) h0 h1;simp (disch:=omega) only [T7,hin,xe,EVP,EV,simprocAttr];rw [←Mh,e2]
theorem Jh (v:Int) (n:Nat) (hn:n≤1000) (h0:0≤v) (h1:v≤9223372036854775807):S D2 2 [.i .i64 v, .i .i64 (n:Int)]=some [.s (be v n)]:=by refine Fl0 (N:=n+2) rfl ?_;simp (disch:=omega) only [T7,Bn5,xe,EVP,EV,simprocAttr]
end Go.X.G
/- Data of records: the wire form. -/
namespace Go.X.G
open Go Go.X
theorem O2 {s:List UInt8} (h:Is s=true):s.length≤63:=by
 unfold Is at h;simp at h;rcases h with h|h
 ·simp [h]
 ·omega
theorem Rl:∀(r:List UInt8) (f:Bool) (cur:List UInt8) (l:List (List UInt8)),spl f cur r=some l→∀x∈l,Is x=true
 |[],f,cur,l,h=>by simp [spl] at h;subst h;simp
 |c::r,f,cur,l,h=>by
  simp only [spl] at h;split at h
  ·split at h
   ·rename_i h2;obtain ⟨m,hm,rfl⟩:=Av.1 h;intro x hx;simp at hx;rcases hx with rfl|hx
    ·exact h2.1
    ·exact Rl r _ _ _ hm x hx
   ·cases h
  ·exact Rl r _ _ _ h
theorem Lz (n:List UInt8):∀x∈lbl n,Is x=true:=by
 unfold lbl nm;split
 ·simp
 ·split
  ·cases h:spl true [] n with
   |none=>simp
   |some l=>simpa using Rl _ _ _ _ h
  ·simp
def wireL (l:List (List UInt8)):List UInt8:=l.flatMap fun x=>be (x.length:Int) 1++x
def Gr (n:List UInt8):List UInt8:=wireL (lbl n)++be 0 1
theorem K3:∀(l:List (List UInt8)),(∀x∈l,Is x=true)→(wireL l).length≤64*l.length
 |[],_=>by simp [wireL]
 |x::l,h=>by have h1:=O2 (h x (by simp));have h2:=K3 l (fun y hy=>h y (by simp [hy]));simp only [wireL,az,Ab,C8,Bj] at h2 ⊢;omega
theorem K2 (n:List UInt8):(Gr n).length≤20000:=by have h1:=K3 (lbl n) (Lz n);have h2:=Jj n;simp only [Gr,Ab,C8];omega
theorem Z3 (n:List UInt8) (N:Nat) (hN:254<N):
  Yl.ev S N [.s n,Cr (lbl n)]=some (.yld 0 [.s (wireL (lbl n))]):=by
 have hl:=Jj n;have key:=Iw (fn:=S) (N:=N) (η:=[.s n,Cr (lbl n)]) (id:=1) (init:=[(.c (.s [])),(.c (.i .i64 (0)))]) (body:=Zt) (lbl n) (fun i (g:List UInt8)=>[.s g, .i .i64 (i:Int)]) (fun i g r=> .yld 0 [.s (g++wireL r)]) (fun i g=>g.length≤64*i) [] rfl (Ah _) (by omega) (fun i g c r hd hi hc hI=> ?_) (fun g hI=> ?_)
 ·simpa [Yl] using key
 ·left;have h1:=O2 (Lz n c (A6 hc));have h2:=Jh (c.length:Int) 1 (by omega) (by omega) (by omega);have h3:=C8 (c.length:Int) 1;have h4:(be (c.length:Int) 1++c).length=1+c.length:=by rw [Ab,h3]
  refine ⟨g++(be (c.length:Int) 1++c),?_,?_,?_⟩
  ·simp only [Int.natCast_one] at h2;simp (disch:=omega) only [oh,hc,h2,xe,EVP,EV,simprocAttr]
  ·rw [Ab,h4];omega
  ·simp [wireL]
 ·simp (disch:=omega) only [oh,xe,EVP,EV,simprocAttr];simp [Out.goes,wireL]
theorem Dn (n:List UInt8) (hn:n.length≤9223372036854775807):S I6 1 [.s n]=some [.s (Gr n)]:=by refine Fl1 (N:=255) rfl ?_;have h1:=K3 (lbl n) (Lz n);have h2:=Jj n;have h3:=C8 0 1;have h4:=Jh 0 1 (by omega) (by omega) (by omega);simp only [Int.natCast_one] at h4;simp (disch:=omega) only [oh,ny,Z3,h4,xe,EVP,EV,simprocAttr];rfl
def bmV (set:Int) (i:Nat):Nat→Int
 |0=>0
 |j+1=>bmV set i j*2+bit set (i*8+j)
theorem Bh0 (set:Int) (t:Nat):0≤bit set t∧bit set t≤1:=by unfold bit;omega
theorem Q4 (set:Int) (i:Nat):∀j,0≤bmV set i j∧bmV set i j<2 ^ j
 |0=>by simp [bmV]
 |j+1=>by have h1:=Q4 set i j;have h2:=Bh0 set (i*8+j);simp only [bmV,Int.pow_succ];omega
def bmB (set:Int) (i:Nat):UInt8:=UInt8.ofNat (bmV set i 8).toNat
def bmL (set:Int):Nat→Nat
 |0=>0
 |i+1=>if bmV set i 8≠0 then i+1 else bmL set i
theorem Bg3 (set:Int):∀i,bmL set i≤i
 |0=>Ah _
 |i+1=>by have:=Bg3 set i;simp only [bmL];split<;>omega
def bmap (set:Int):List UInt8:=((List.range 8).map (bmB set)).take (bmL set 8)
theorem Bg7 (set:Int) (p q:PV) (i:Nat) (hi:i<8) (N:Nat) (hN:8<N):
  yd.ev S N [.i .u64 set,p,q, .i .i64 (i:Int)]=some (.yld 2 [.i .i64 (bmV set i 8)]):=by
 refine En 8 (fun j=>[.i .i64 (bmV set i j), .i .i64 (j:Int)]) (fun j=> .yld 2 [.i .i64 (bmV set i 8)]) rfl hN (fun j hj=> ?_) ?_
 ·left;have hb:IntKind.u64.bits=64:=rfl;have hi':i*8+j<IntKind.u64.bits:=by rw [hb];omega
  have e:((i:Int)*8+(j:Int))=((i*8+j:Nat):Int):=by simp
  have h0:X.bin .shr (.i .u64 set) (.i .u64 ((i*8+j:Nat):Int))=some (.i .u64 (set / 2 ^ (i*8+j))):=ic _ _ _ _ hi';have h1:set / 2 ^ (i*8+j) % 2=bit set (i*8+j):=rfl;have h2:=Q4 set i j;have h3:(2:Int) ^ j≤128:=(by decide:∀j,j<8→(2:Int) ^ j≤128) j hj;have h4:=Bh0 set (i*8+j);simp (disch:=omega) only [P7,Pb,Gd1,h0,h1,←e,xe,EVP,EV,simprocAttr];refine ⟨?_,trivial⟩;rw [e,h0];simp (disch:=omega) only [Pb,Gd1,h0,h1,xe,EVP,EV,simprocAttr];rfl
 ·simp (disch:=omega) only [P7,xe,EVP,EV,simprocAttr];simp [Out.goes]
theorem Bg8 (set:Int) (N:Nat) (hN:8<N):
  y3.ev S N [.i .u64 set]=some (.yld 0 [.l 1 (Bd ((List.range 8).map (bmB set))), .i .i64 (bmL set 8:Int)]):=by
 refine En 8 (fun i=>[.l 1 (Bd ((List.range i).map (bmB set))), .i .i64 (bmL set i:Int), .i .i64 (i:Int)]) (fun _=> .yld 0 [.l 1 (Bd ((List.range 8).map (bmB set))), .i .i64 (bmL set 8:Int)]) rfl hN (fun i hi=> ?_) ?_
 ·left;have h1:=Bg7 set (.l 1 (Bd ((List.range i).map (bmB set)))) (.i .i64 (bmL set i:Int)) i hi N hN;have h2:=Q4 set i 8;have h3:(2:Int) ^ 8=256:=rfl;have h4:=Od (bmV set i 8) (by omega) (by omega);have h5:(Bd ((List.range i).map (bmB set))).length=i:=by simp [Jc]
  have h6:Bd ((List.range (i+1)).map (bmB set))=Bd ((List.range i).map (bmB set))++[.i .u8 (bmV set i 8)]:=by rw [List.range_succ,List.map_append,←h4];exact (Mh _ _).symm
  rw [h6];by_cases h7:bmV set i 8=0
  ·simp (disch:=omega) only [P7,h1,bmL,h7,xe,EVP,EV,simprocAttr];simp
  ·simp (disch:=omega) only [P7,h1,bmL,xe,EVP,EV,simprocAttr];simp [h7]
 ·simp (disch:=omega) only [P7,xe,EVP,EV,simprocAttr];simp [Out.goes]
theorem Bg6 (set:Int):S Vf 1 [.i .u64 set]=some [.s (bmap set)]:=by
 refine Fh9 (N:=9) rfl ?_;have h1:=Bg3 set 8;have h2:(Bd ((List.range 8).map (bmB set))).length=8:=by simp [Jc]
 have h3:List.drop 0 (List.take (bmL set 8) (Bd ((List.range 8).map (bmB set))))=Bd (bmap set):=by simp only [D1,bmap,Bd,List.map_take]
 simp (disch:=omega) only [P7,Bg8,h3,xe,EVP,EV,simprocAttr]
theorem Tq (set:Int):(bmap set).length≤8:=by simp [bmap];omega
def K4 (d:Dat):List UInt8:=if d.v6 then be d.hi 8++be d.lo 8 else be d.lo 4
theorem ik (d:Dat) (h:d.wf):S Vg 1 [Hk d]=some (if Dk d=true then [.s (K4 d), .i .i64 0] else [.s [], .i .i64 3]):=by refine Fl2 (N:=1) rfl ?_;have h1:=h.hi;have h2:=h.lo;have a1:=Of d.hi 8 (by omega) h1.1 h1.2;have a2:=Of d.lo 8 (by omega) h2.1 h2.2;have a3:=Of d.lo 4 (by omega) h2.1 h2.2;have b1:=C8 d.hi 8;have b2:=C8 d.lo 8;simp only [Int.cast_ofNat_Int] at a1 a2 a3;unfold K4;rcases Ad (Dk d) with h3|h3<;>rcases Ad d.v6 with h4|h4<;>simp (disch:=omega) only [Fb6,Ws,h3,h4,a1,a2,a3,xe,EVP,EV,simprocAttr]
def usd (t:Int) (d:Dat):Dat:=
 if t=1∨t=28 then ⟨d.v6,d.hi,d.lo,[],[],[],0,0,0,0,0,0,0⟩
 else if t=2∨t=5∨t=12∨t=39 then ⟨false,0,0,d.host,[],[],0,0,0,0,0,0,0⟩
 else if t=6 then ⟨false,0,0,d.host,d.mail,[],d.a,d.b,d.c,d.d,d.e,0,0⟩
 else if t=15 then ⟨false,0,0,d.host,[],[],d.a,0,0,0,0,0,0⟩
 else if t=16 then ⟨false,0,0,[],[],d.text,0,0,0,0,0,0,0⟩
 else if t=33 then ⟨false,0,0,d.host,[],[],d.a,d.b,d.c,0,0,0,0⟩
 else if t=43∨t=48 then ⟨false,0,0,[],[],d.text,d.a,d.b,d.c,0,0,0,0⟩
 else if t=46 then ⟨false,0,0,d.host,[],d.text,d.a,d.b,d.c,d.d,d.e,d.f,0⟩
 else ⟨false,0,0,d.host,[],[],0,0,0,0,0,0,d.bits⟩
theorem Fp (t:Int) (d:Dat):S wk 2 [.i .i64 t,d.pv]=some [(usd t d).pv]:=by
 refine Gt8 (N:=1) rfl ?_;rcases t15 t with rfl|rfl|rfl|rfl|rfl|rfl|rfl|rfl|rfl|rfl|rfl|rfl|rfl|rfl|⟨h0,h1,h2,h3,h4,h5,h6,h7,h8,h9,h10,h11,h12,h13⟩
 all_goals simp (disch:=omega) only [Gh9,xe,EVP,EV,simprocAttr]
 all_goals first|rfl|(unfold usd;simp [*])
end Go.X.G
/- Data of records: which are valid. -/
namespace Go.X.G
open Go Go.X
def B8 (t:Int) (d:Dat):Bool:=
 if t=1 then Dk d && !d.v6
 else if t=28 then d.v6
 else if t=6 then E1 d.host && E1 d.mail && inB d.a 4294967295 && inB d.b 2147483647 && inB d.c 2147483647 && inB d.d 2147483647 && inB d.e 2147483647
 else if t=15 then E1 d.host && inB d.a 65535
 else if t=16 then decide (d.text.length≤255)
 else if t=33 then E1 d.host && inB d.a 65535 && inB d.b 65535 && inB d.c 65535
 else if t=43 then inB d.a 65535 && inB d.b 255 && inB d.c 255 && E9 d.text
 else if t=46 then knw d.a && decide (d.a≠46) && inB d.b 127 && inB d.c 2147483647 && inB d.d 4294967295 && inB d.e 4294967295 && inB d.f 65535 && E1 d.host && E9 d.text
 else if t=47 then vld d.host && decide (d.bits≠0) && g8 d.bits 0 64
 else if t=48 then (decide (d.a=256)||decide (d.a=257)) && decide (d.b=3) && inB d.c 255 && E9 d.text
 else E1 d.host
def C9 (t:Int) (d:Dat):Bool:=knw t && decide (usd t d=d) && B8 t d
theorem D3 (t:Int) (d:Dat) (h:d.wf):S w9 2 [.i .i64 t,d.pv]=some [.b (C9 t d)]:=by
 refine Hq5 (N:=1) rfl ?_;have g1:=h.host;have g2:=h.mail;have g3:=h.text;unfold ng at g1 g2 g3;rcases Ad (knw t) with hk|hk
 ·by_cases hu:usd t d=d
  ·rcases t15 t with rfl|rfl|rfl|rfl|rfl|rfl|rfl|rfl|rfl|rfl|rfl|rfl|rfl|rfl|⟨h0,h1,h2,h3,h4,h5,h6,h7,h8,h9,h10,h11,h12,h13⟩
   ·rcases ch2 (Dk d) (d.v6) with e0|⟨e0,e1⟩|⟨e0,e1⟩
    all_goals simp (disch:=omega) only [J7,B9,Fp,Ws,xe,EVP,EV,simprocAttr,hk,hu, *]
    all_goals (unfold C9 B8;simp [*])
   ·simp (disch:=omega) only [J7,B9,Fp,Gx,xe,EVP,EV,simprocAttr,hk,hu];unfold C9 B8;simp [*]
   ·simp (disch:=omega) only [J7,B9,Fp,Gx,xe,EVP,EV,simprocAttr,hk,hu];unfold C9 B8;simp [*]
   ·rcases ch7 (E1 d.host) (E1 d.mail) (inB d.a 4294967295) (inB d.b 2147483647) (inB d.c 2147483647) (inB d.d 2147483647) (inB d.e 2147483647) with e0|⟨e0,e1⟩|⟨e0,e1,e2⟩|⟨e0,e1,e2,e3⟩|⟨e0,e1,e2,e3,e4⟩|⟨e0,e1,e2,e3,e4,e5⟩|⟨e0,e1,e2,e3,e4,e5,e6⟩|⟨e0,e1,e2,e3,e4,e5,e6⟩
    all_goals simp (disch:=omega) only [J7,B9,Fp,Gx,Bm9,l9,xe,EVP,EV,simprocAttr,hk,hu, *]
    all_goals (unfold C9 B8;simp [*])
   ·simp (disch:=omega) only [J7,B9,Fp,Gx,xe,EVP,EV,simprocAttr,hk,hu];unfold C9 B8;simp [*]
   ·rcases ch2 (E1 d.host) (inB d.a 65535) with e0|⟨e0,e1⟩|⟨e0,e1⟩
    all_goals simp (disch:=omega) only [J7,B9,Fp,Gx,l9,xe,EVP,EV,simprocAttr,hk,hu, *]
    all_goals (unfold C9 B8;simp [*])
   ·simp (disch:=omega) only [J7,B9,Fp,Gx,xe,EVP,EV,simprocAttr,hk,hu];unfold C9 B8;simp [*];omega
   ·simp (disch:=omega) only [J7,B9,Fp,Gx,xe,EVP,EV,simprocAttr,hk,hu];unfold C9 B8;simp [*]
   ·rcases ch4 (E1 d.host) (inB d.a 65535) (inB d.b 65535) (inB d.c 65535) with e0|⟨e0,e1⟩|⟨e0,e1,e2⟩|⟨e0,e1,e2,e3⟩|⟨e0,e1,e2,e3⟩
    all_goals simp (disch:=omega) only [J7,B9,Fp,Gx,l9,xe,EVP,EV,simprocAttr,hk,hu, *]
    all_goals (unfold C9 B8;simp [*])
   ·simp (disch:=omega) only [J7,B9,Fp,Gx,xe,EVP,EV,simprocAttr,hk,hu];unfold C9 B8;simp [*]
   ·rcases ch4 (inB d.a 65535) (inB d.b 255) (inB d.c 255) (E9 d.text) with e0|⟨e0,e1⟩|⟨e0,e1,e2⟩|⟨e0,e1,e2,e3⟩|⟨e0,e1,e2,e3⟩
    all_goals simp (disch:=omega) only [J7,B9,Fp,l9,Rf,xe,EVP,EV,simprocAttr,hk,hu, *]
    all_goals (unfold C9 B8;simp [*])
   ·rcases ch9 (knw d.a) (decide (d.a≠46)) (inB d.b 127) (inB d.c 2147483647) (inB d.d 4294967295) (inB d.e 4294967295) (inB d.f 65535) (E1 d.host) (E9 d.text) with e0|⟨e0,e1⟩|⟨e0,e1,e2⟩|⟨e0,e1,e2,e3⟩|⟨e0,e1,e2,e3,e4⟩|⟨e0,e1,e2,e3,e4,e5⟩|⟨e0,e1,e2,e3,e4,e5,e6⟩|⟨e0,e1,e2,e3,e4,e5,e6,e7⟩|⟨e0,e1,e2,e3,e4,e5,e6,e7,e8⟩|⟨e0,e1,e2,e3,e4,e5,e6,e7,e8⟩
    all_goals simp (disch:=omega) only [J7,B9,Fp,Gx,l9,Rf,xe,EVP,EV,simprocAttr,hk,hu, *]
    all_goals (unfold C9 B8;simp [*])
   ·rcases ch3 (vld d.host) (decide (d.bits≠0)) (g8 d.bits 0 64) with e0|⟨e0,e1⟩|⟨e0,e1,e2⟩|⟨e0,e1,e2⟩
    all_goals simp (disch:=omega) only [J7,B9,Fp,Pf,Gd2,xe,EVP,EV,simprocAttr,hk,hu, *]
    all_goals (unfold C9 B8;simp [*])
   ·rcases ch4 (decide (d.a=256)||decide (d.a=257)) (decide (d.b=3)) (inB d.c 255) (E9 d.text) with e0|⟨e0,e1⟩|⟨e0,e1,e2⟩|⟨e0,e1,e2,e3⟩|⟨e0,e1,e2,e3⟩
    all_goals simp (disch:=omega) only [J7,B9,Fp,l9,Rf,xe,EVP,EV,simprocAttr,hk,hu, *]
    all_goals (unfold C9 B8;simp [*])
   ·simp [knw, *] at hk
  ·simp (disch:=omega) only [J7,B9,Fp,xe,EVP,EV,simprocAttr,hk,hu];unfold C9;simp [hu]
 ·simp (disch:=omega) only [J7,B9,xe,EVP,EV,simprocAttr,hk];unfold C9;simp [hk]
def Hv (t:Int) (d:Dat):List UInt8:=
 if t=1∨t=28 then K4 d
 else if t=6 then Gr d.host++Gr d.mail++be d.a 4++be d.b 4++be d.c 4++be d.d 4++be d.e 4
 else if t=15 then be d.a 2++Gr d.host
 else if t=16 then be (d.text.length:Int) 1++d.text
 else if t=33 then be d.a 2++be d.b 2++be d.c 2++Gr d.host
 else if t=43∨t=48 then be d.a 2++be d.b 1++be d.c 1++d.text
 else if t=46 then be d.a 2++be 253 1++be d.b 1++be d.c 4++be d.d 4++be d.e 4++be d.f 2++Gr d.host++d.text
 else if t=47 then Gr d.host++be 0 1++be ((bmap d.bits).length:Int) 1++bmap d.bits
 else Gr d.host
theorem knw_cases {t:Int} (h:knw t=true):t=1∨t=2∨t=5∨t=6∨t=12∨t=15∨t=16∨t=28∨t=33∨t=39∨t=43∨t=46∨t=47∨t=48:=by simp [knw] at h;omega
theorem Ph (v:Int) (h0:0≤v) (h1:v≤9223372036854775807):S D2 2 [.i .i64 v, .i .i64 1]=some [.s (be v 1)]:=Jh v 1 (by omega) h0 h1
theorem Pg (v:Int) (h0:0≤v) (h1:v≤9223372036854775807):S D2 2 [.i .i64 v, .i .i64 2]=some [.s (be v 2)]:=Jh v 2 (by omega) h0 h1
theorem Bn6 (v:Int) (h0:0≤v) (h1:v≤9223372036854775807):S D2 2 [.i .i64 v, .i .i64 4]=some [.s (be v 4)]:=Jh v 4 (by omega) h0 h1
theorem Nn (t:Int) (d:Dat) (h:d.wf):S km 2 [.i .i64 t,d.pv]=some (if C9 t d=true then [.s (Hv t d), .i .i64 0] else if knw t=true then [.s [], .i .i64 5] else [.s [], .i .i64 4]):=by
 refine Gr6 (N:=1) rfl ?_;have g1:=h.host;have g2:=h.mail;have g3:=h.text;unfold ng at g1 g2 g3;have g4:=K2 d.host;have g5:=K2 d.mail;have g6:=Tq d.bits;rcases Ad (knw t) with hk|hk
 ·rcases Ad (C9 t d) with hv|hv
  ·rw [if_pos hv];have hv':=hv;rcases knw_cases hk with rfl|rfl|rfl|rfl|rfl|rfl|rfl|rfl|rfl|rfl|rfl|rfl|rfl|rfl
   ·simp [C9,B8] at hv';simp (disch:=omega) only [J6,B9,D3 _ _ h,ik d h,hk,hv,hv'.2.1,xe,EVP,EV,simprocAttr];rfl
   ·simp (disch:=omega) only [J6,B9,D3 _ _ h,Dn,hk,hv,xe,EVP,EV,simprocAttr];rfl
   ·simp (disch:=omega) only [J6,B9,D3 _ _ h,Dn,hk,hv,xe,EVP,EV,simprocAttr];rfl
   ·simp [C9,B8,inB,E9] at hv';simp (disch:=first|omega|(simp only [Ab,C8];omega)) only [J6,B9,D3 _ _ h,Dn,Bn6,hk,hv,xe,EVP,EV,simprocAttr];rfl
   ·simp (disch:=omega) only [J6,B9,D3 _ _ h,Dn,hk,hv,xe,EVP,EV,simprocAttr];rfl
   ·simp [C9,B8,inB,E9] at hv';simp (disch:=first|omega|(simp only [Ab,C8];omega)) only [J6,B9,D3 _ _ h,Dn,Pg,hk,hv,xe,EVP,EV,simprocAttr];rfl
   ·simp [C9,B8,inB,E9] at hv';simp (disch:=first|omega|(simp only [Ab,C8];omega)) only [J6,B9,D3 _ _ h,Dn,Ph,hk,hv,xe,EVP,EV,simprocAttr];rfl
   ·simp [C9,B8] at hv';have ha:Dk d=true:=by simp [Dk,hv'.2]
    simp (disch:=omega) only [J6,B9,D3 _ _ h,ik d h,hk,hv,ha,xe,EVP,EV,simprocAttr];rfl
   ·simp [C9,B8,inB,E9] at hv';simp (disch:=first|omega|(simp only [Ab,C8];omega)) only [J6,B9,D3 _ _ h,Dn,Pg,hk,hv,xe,EVP,EV,simprocAttr];rfl
   ·simp (disch:=omega) only [J6,B9,D3 _ _ h,Dn,hk,hv,xe,EVP,EV,simprocAttr];rfl
   ·simp [C9,B8,inB,E9] at hv';simp (disch:=first|omega|(simp only [Ab,C8];omega)) only [J6,B9,D3 _ _ h,Dn,Ph,Pg,hk,hv,xe,EVP,EV,simprocAttr];rfl
   ·simp [C9,B8,inB,E9] at hv';have k1:0≤d.a:=by have:=knw_cases hv'.2.1.1.1.1.1.1.1.1;omega
    have k2:=h.a.2;simp (disch:=first|omega|(simp only [Ab,C8];omega)) only [J6,B9,D3 _ _ h,Dn,Ph,Pg,Bn6,hk,hv,xe,EVP,EV,simprocAttr];rfl
   ·simp (disch:=first|omega|(simp only [Ab,C8];omega)) only [J6,B9,D3 _ _ h,Dn,Bg6,Ph,hk,hv,xe,EVP,EV,simprocAttr];rfl
   ·simp [C9,B8,inB,E9] at hv';simp (disch:=first|omega|(simp only [Ab,C8];omega)) only [J6,B9,D3 _ _ h,Dn,Ph,Pg,hk,hv,xe,EVP,EV,simprocAttr];rfl
  ·simp (disch:=omega) only [J6,B9,D3 _ _ h,hk,hv,xe,EVP,EV,simprocAttr]
 ·have hv:C9 t d=false:=by simp [C9,hk]
  simp (disch:=omega) only [J6,B9,hk,hv,xe,EVP,EV,simprocAttr]
def Cm1 (t:Int) (a b:Dat):Int:=
 if C9 t a && C9 t b then cmpS (Hv t a) (Hv t b) else if C9 t a then -1 else if C9 t b then 1 else 0
theorem ak (t:Int) (a b:Dat) (ha:a.wf) (hb:b.wf):S v7 3 [.i .i64 t,a.pv,b.pv]=some [.i .i64 (Cm1 t a b)]:=by
 refine Gs9 (N:=1) rfl ?_;unfold Cm1 cmpS;rcases Ad (C9 t a) with h1|h1<;>rcases Ad (C9 t b) with h2|h2
 ·simp (disch:=omega) only [Fz6,Nn _ _ ha,Nn _ _ hb,h1,h2,xe,EVP,EV,simprocAttr];cases Op.bytesLess (Hv t a) (Hv t b)
  ·by_cases h3:Hv t a=Hv t b<;>simp [h3]
  ·simp
 all_goals rcases Ad (knw t) with h3|h3<;>simp (disch:=omega) [Fz6,Nn _ _ ha,Nn _ _ hb,h1,h2,h3,xe,EVP,EV,simprocAttr]
end Go.X.G
/- Lists of records: what the reference's functions give. -/
namespace Go.X.G
open Go Go.X
def Hn7 (r:Rec):Bool:=vld r.name && knw r.typ && decide (0≤r.ttl) && decide (r.ttl≤2147483647) && C9 r.typ r.data
def Zy (a b:Int):Int:=if a<b then -1 else if b<a then 1 else 0
theorem kf (a b:Int):S w7 2 [.i .i64 a, .i .i64 b]=some [.i .i64 (Zy a b)]:=by
 refine Hq1 (N:=1) rfl ?_;unfold Zy;simp (disch:=omega) only [Gl8,xe,EVP,EV,simprocAttr]
 grind
def Gs (a b:Rec):Int:=
 if M8 a.name b.name≠0 then M8 a.name b.name else if Zy a.typ b.typ≠0 then Zy a.typ b.typ else Cm1 a.typ a.data b.data
theorem Pk (a b:Rec) (ha:a.wf) (hb:b.wf):S Yv 2 [a.pv,b.pv]=some [.i .i64 (Gs a b)]:=by refine Hq2 (N:=1) rfl ?_;have g1:=ha.name;have g2:=hb.name;unfold ng at g1 g2;unfold Gs;simp (disch:=omega) only [Gl9,av,kf,ak _ _ _ ha.data hb.data,xe,EVP,EV,simprocAttr];by_cases h1:M8 a.name b.name=0<;>by_cases h2:Zy a.typ b.typ=0<;>simp [h1,h2]
def isK (n:List UInt8) (t:Int) (r:Rec):Bool:=decide (r.name=n) && decide (r.typ=t)
def findR (l:List Rec) (n:List UInt8) (t:Int):List Rec:=l.filter (isK n t)
theorem Pl (a b:List Rec) (ha:a.length≤1000000):S Yx 2 [Af a,Af b]=some [.b (decide (a=b))]:=by
 refine Hv8 (N:=a.length+1) rfl ?_;by_cases hl:a.length=b.length
 ·have key:Dk3.ev S (a.length+1) [Af a,Af b]=some (if a.drop 0=b.drop 0 then .yld 0 [] else .ret [.b false]):=by
   refine Fg a (fun i=>[.i .i64 (i:Int)]) (fun i r=>if r=b.drop i then .yld 0 [] else .ret [.b false]) rfl (by omega) (fun i c r hd hi hc=> ?_) ?_
   ·obtain ⟨y,r',hb,hd2,hd3⟩:∃y r',b[i]? =some y∧b.drop i=y::r'∧b.drop (i+1)=r':=⟨b[i]'(by omega),_,Ay (by omega),Cl (by omega),rfl⟩;rw [hd2,hd3];by_cases h:c=y
    ·subst h;left;simp (disch:=omega) only [ix,hc,hb,xe,EVP,EV,simprocAttr];simp
    ·right;simp (disch:=omega) only [ix,hc,hb,h,xe,EVP,EV,simprocAttr];simp [h,Out.goes]
   ·have hd2:b.drop a.length=[]:=Ds (by omega);rw [hd2];simp (disch:=omega) only [ix,xe,EVP,EV,simprocAttr];simp [Out.goes]
  simp only [D1] at key;by_cases h:a=b
  ·rw [if_pos h] at key;simp (disch:=omega) only [ix,key,xe,EVP,EV,simprocAttr]
   try simp [h]
  ·rw [if_neg h] at key;simp (disch:=omega) only [ix,key,xe,EVP,EV,simprocAttr]
   try simp [h]
 ·have h:a≠b:=fun h=>hl (by rw [h]);simp (disch:=omega) [ix,h,xe,EVP,EV,simprocAttr]
def Sf (x:Rec):List Rec→List Rec
 |[]=>[x]
 |y::r=>if Gs y x<0 then y::Sf x r else if Gs y x=0 then (if x.ttl<y.ttl then x::r else y::r) else x::y::r
def sortR (l:List Rec):List Rec:=l.foldl (fun acc x=>Sf x acc) []
def Iy (x:Rec):List Rec→Nat
 |[]=>0
 |y::r=>if Gs y x<0 then Iy x r+1 else 0
theorem d5 (x:Rec):∀l,Iy x l≤l.length
 |[]=>Ah _
 |y::r=>by have:=d5 x r;simp only [Iy];split<;>simp;omega
theorem zd (x:Rec):∀(l:List Rec),Sf x l=match l[Iy x l]? with
  |some y=>if Gs y x=0 then (if x.ttl<y.ttl then l.set (Iy x l) x else l) else l.take (Iy x l)++[x]++l.drop (Iy x l)
  |none=>l.take (Iy x l)++[x]++l.drop (Iy x l)
 |[]=>rfl
 |y::r=>by
  simp only [Sf,Iy];by_cases h:Gs y x<0
  ·simp only [if_pos h,C7];rw [zd x r];cases h2:r[Iy x r]? with
   |none=>simp
   |some z=>by_cases h3:Gs z x=0<;>by_cases h4:x.ttl<z.ttl<;>simp [h3,h4]
  ·simp only [if_neg h,Ch];by_cases h3:Gs y x=0<;>by_cases h4:x.ttl<y.ttl<;>simp [h3,h4]
theorem Sd (x:Rec):∀l,(Sf x l).length≤l.length+1
 |[]=>by simp [Sf]
 |y::r=>by
  have:=Sd x r;simp only [Sf];split
  ·simp;omega
  ·split
   ·split<;>simp
   ·simp
theorem insR_mem (x:Rec):∀(l:List Rec) (y:Rec),y∈Sf x l→y=x∨y∈l
 |[],y,h=>by simp [Sf] at h;exact .inl h
 |z::r,y,h=>by
  simp only [Sf] at h;split at h
  ·simp at h;rcases h with h|h
   ·exact .inr (by simp [h])
   ·rcases insR_mem x r y h with h|h
    ·exact .inl h
    ·exact .inr (by simp [h])
  ·split at h
   ·split at h
    ·simp at h;rcases h with h|h
     ·exact .inl h
     ·exact .inr (by simp [h])
    ·exact .inr h
   ·simp at h;rcases h with h|h
    ·exact .inl h
    ·exact .inr (by simpa using h)
theorem Fw9 (l g:List Rec) (i:Nat) (x:Rec) (hx:l[i]? =some x) (hw:∀r∈l,r.wf) (hg:∀r∈g,r.wf) (N:Nat) (hN:g.length<N) (hl:g.length≤1000000):
  yb.ev S N [Af l,Af g, .i .i64 (i:Int)]=some (.yld 2 [.i .i64 (Iy x g:Int)]):=by
 have key:yb.ev S N [Af l,Af g, .i .i64 (i:Int)]=some (.yld 2 [.i .i64 ((0+Iy x g:Nat):Int)]):=by
  refine Fg g (fun k=>[.i .i64 (k:Int)]) (fun k r=> .yld 2 [.i .i64 ((k+Iy x r:Nat):Int)]) rfl hN (fun k c r hd hk hc=> ?_) ?_
  ·have h1:=Pk c x (hg c (A6 hc)) (hw x (A6 hx));by_cases h:Gs c x<0
   ·left;simp (disch:=omega) only [Rx,hc,hx,h1,h,xe,EVP,EV,simprocAttr];refine ⟨trivial,?_⟩;simp only [Iy,if_pos h];congr 3;push_cast;omega
   ·right;simp (disch:=omega) only [Rx,hc,hx,h1,xe,EVP,EV,simprocAttr];simp [Iy,h,Out.goes]
  ·simp (disch:=omega) only [Rx,xe,EVP,EV,simprocAttr];simp [Iy,Out.goes]
 simpa using key
theorem Fx0 (l:List Rec) (hw:∀r∈l,r.wf) (N:Nat) (hN:l.length<N) (hl:l.length≤1000000):
  Dk0.ev S N [Af l]=some (.yld 0 [Af (sortR l)]):=by
 refine Iw l (fun i (g:List Rec)=>[Af g, .i .i64 (i:Int)]) (fun i g r=> .yld 0 [Af (r.foldl (fun acc x=>Sf x acc) g)]) (fun i g=>g.length≤i∧∀r∈g,r.wf) [] rfl ⟨Ah _,fun r h=>by cases h⟩ hN (fun i g c r hd hi hc hI=> ?_) (fun g hI=> ?_)
 ·left;obtain ⟨h1,h2⟩:=hI;have hcw:=hw c (A6 hc);have h3:=Fw9 l g i c hc hw h2 N (by omega) (by omega);have h4:=d5 c g;have h5:=Sd c g;refine ⟨Sf c g,?_,⟨by omega,fun r hr=> ?_⟩,rfl⟩
  ·rw [zd];cases h6:g[Iy c g]? with
   |none=>
    have h7:=List.getElem?_eq_none_iff.1 h6;have h8:Iy c g=g.length:=by omega
    simp (disch:=first|omega|(simp;omega)) only [Rx,hc,h3,h8,xe,EVP,EV,simprocAttr];simp
   |some y=>
    have h7:=(Aq.1 h6).1;have h8:=Pk y c (h2 y (A6 h6)) hcw;by_cases h9:Gs y c=0
    ·by_cases h10:c.ttl<y.ttl
     ·simp (disch:=omega) only [Rx,hc,h3,h6,h8,h9,h10,xe,EVP,EV,simprocAttr]
     ·simp (disch:=omega) only [Rx,hc,h3,h6,h8,h9,h10,xe,EVP,EV,simprocAttr]
    ·simp (disch:=first|omega|(simp;omega)) only [Rx,hc,h3,h6,h8,h9,xe,EVP,EV,simprocAttr];simp
  ·rcases insR_mem c g r hr with h|h
   ·subst h;exact hcw
   ·exact h2 r h
 ·simp (disch:=omega) only [Rx,xe,EVP,EV,simprocAttr];simp [Out.goes]
theorem Tc (l:List Rec) (hw:∀r∈l,r.wf) (hl:l.length≤1000000):S Yw 1 [Af l]=some [Af (sortR l)]:=by refine Hv0 (N:=l.length+1) rfl ?_;simp (disch:=omega) only [Rx,Fx0 l hw,xe,EVP,EV,simprocAttr]
end Go.X.G
/- Zones: what the reference's check gives. -/
namespace Go.X.G
open Go Go.X
def gh (n top:List UInt8):Bool:=decide (n≠top) && under n top
def Hn2 (l:List Rec) (n:List UInt8) (t:Int):Bool:=decide (0<(findR l n t).length)
def Tv (r x:Rec):Bool:=
 !decide (x.name=r.name)||(!(decide (x.typ=r.typ) && decide (r.typ≠46) && decide (x.ttl≠r.ttl)) && !(decide (x.typ=r.typ) && (decide (r.typ=6)||decide (r.typ=5)||decide (r.typ=39)) && decide (x≠r)) &&
  !(decide (r.typ=5) && decide (x.typ≠5) && decide (x.typ≠46) && decide (x.typ≠47)))
def Bh3 (z:Zone) (r:Rec):Bool:=z.recs.all (Tv r)
def Cb3 (z:Zone) (r x:Rec):Bool:=
 !(decide (x.typ=39) && gh r.name x.name) && !(decide (x.typ=2) && gh x.name z.origin && gh r.name x.name && decide (r.typ≠1) && decide (r.typ≠28))
def Ef6 (t:Int):Bool:=decide (t=2)||decide (t=43)||decide (t=47)||decide (t=46)||decide (t=1)||decide (t=28)
def Ef7 (z:Zone) (r:Rec):Bool:=
 if (lbl r.name)[0]? =some [42]∧(r.typ=2∨r.typ=39) then false
 else z.recs.all (Cb3 z r) && (if gh r.name z.origin && Hn2 z.recs r.name 2 then Ef6 r.typ else decide (r.typ≠43))
def Ef3 (z:Zone) (r:Rec):Bool:=under r.name z.origin && !(decide (r.typ=6) && decide (r.name≠z.origin)) && Bh3 z r && Ef7 z r
end Go.X.G
/- The order of records; what a checked zone is like. -/
namespace Go.X.G
open Go Go.X
theorem TO.prod {α β:Type} {l1:α→α→Prop} {l2:β→β→Prop} (h1:TO l1) (h2:TO l2):TO (fun p q:α×β=>l1 p.1 q.1∨(p.1=q.1∧l2 p.2 q.2)) where
 irr:=fun p h=>by
  rcases h with h|⟨_,h⟩
  ·exact h1.irr _ h
  ·exact h2.irr _ h
 tr:=fun p q r a b=>by
  rcases a with a|⟨a,a'⟩<;>rcases b with b|⟨b,b'⟩
  ·exact .inl (h1.tr _ _ _ a b)
  ·exact .inl (b▸a)
  ·exact .inl (a▸b)
  ·exact .inr ⟨a.trans b,h2.tr _ _ _ a' b'⟩
 tri:=fun p q=>by
  rcases h1.tri p.1 q.1 with a|a|a
  ·exact .inl (.inl a)
  ·rcases h2.tri p.2 q.2 with b|b|b
   ·exact .inl (.inr ⟨a,b⟩)
   ·exact .inr (.inl (Prod.ext a b))
   ·exact .inr (.inr (.inr ⟨a.symm,b⟩))
  ·exact .inr (.inr (.inl a))
theorem Gf2:TO (fun a b:Int=>a<b):=⟨fun a h=>by omega,fun a b c h1 h2=>by omega,fun a b=>by omega⟩
theorem fg (a b:Int):Zy a b<0↔a<b:=by unfold Zy;split<;>(try split)<;>omega
theorem Lp (a b:Int):Zy a b=0↔a=b:=by unfold Zy;split<;>(try split)<;>omega
abbrev Key:=List UInt8×Int×List UInt8
abbrev ltK:Key→Key→Prop:=fun p q=>ltN p.1 q.1∨(p.1=q.1∧(p.2.1<q.2.1∨(p.2.1=q.2.1∧ltB p.2.2 q.2.2)))
theorem Hn8:TO ltK:=Gf1.prod (Gf2.prod Cr1)
def Hn1 (r:Rec):Key:=(r.name,r.typ,Hv r.typ r.data)
abbrev ltR (a b:Rec):Prop:=ltK (Hn1 a) (Hn1 b)
structure ZOk (z:Zone):Prop where
 origin:vld z.origin=true
 small:z.recs.length≤2048
 valid:∀r∈z.recs,Hn7 r=true
 rising:z.recs.Pairwise ltR
 soa:(findR z.recs z.origin 6).length=1
 ns:Hn2 z.recs z.origin 2=true
 recs:∀r∈z.recs,Ef3 z r=true
theorem ZOk.beside {z:Zone} (h:ZOk z) {r x:Rec} (hr:r∈z.recs) (hx:x∈z.recs):Tv r x=true:=by have:=h.recs r hr;unfold Ef3 at this;simp only [Ax] at this;have h2:=this.1.2;unfold Bh3 at h2;exact Cv.1 h2 x hx
theorem ZOk.under {z:Zone} (h:ZOk z) {r:Rec} (hr:r∈z.recs):under r.name z.origin=true:=by have:=h.recs r hr;unfold Ef3 at this;simp only [Ax] at this;exact this.1.1.1
theorem ZOk.single {z:Zone} (h:ZOk z) (n:List UInt8) (t:Int) (ht:t=6∨t=5∨t=39):(findR z.recs n t).length≤1:=by
 have hp:(findR z.recs n t).Pairwise ltR:=h.rising.filter _;have hm:∀x∈findR z.recs n t,x∈z.recs∧x.name=n∧x.typ=t:=fun x hx=>by obtain ⟨h1,h2⟩:=E8.1 hx;simp only [isK,Ax,decide_eq_true_eq] at h2;exact ⟨h1,h2.1,h2.2⟩
 generalize findR z.recs n t=l at*
 match l,hp,hm with
 |[],_,_=>simp
 |[_],_,_=>simp
 |a::b::r,hp,hm=>
  exfalso;have hab:ltR a b:=(Bh.1 hp).1 b (.head _);obtain ⟨a1,a2,a3⟩:=hm a (.head _);obtain ⟨b1,b2,b3⟩:=hm b (.tail _ (.head _));have hb:=h.beside a1 b1;have e:b=a:=by
   unfold Tv at hb;rw [a2,a3,b2,b3] at hb;have ht':(decide (t=6)||decide (t=5)||decide (t=39))=true:=by rcases ht with h|h|h<;>simp [h]
   rw [ht'] at hb;simp only [decide_true,W5,Fz2,L1,Bool.true_and,Ax,Cq,decide_eq_false_iff_not,ne_eq,Classical.not_not] at hb;exact hb.1.2
  rw [e] at hab;exact Hn8.irr _ hab
end Go.X.G
/- The order of any records; what is sorted stably and made compact is what the reference sorts. -/
namespace Go.X.G
open Go Go.X
def Er1 (t:Int) (d:Dat):Int×List UInt8:=if C9 t d=true then (0,Hv t d) else (1,[])
abbrev ltD:Int×List UInt8→Int×List UInt8→Prop:=fun p q=>p.1<q.1∨(p.1=q.1∧ltB p.2 q.2)
theorem Hn9:TO ltD:=Gf2.prod Cr1
theorem Cm0 (t:Int) (a b:Dat):Cm1 t a b<0↔ltD (Er1 t a) (Er1 t b):=by unfold Cm1 Er1 ltD;rcases Ad (C9 t a) with h1|h1<;>rcases Ad (C9 t b) with h2|h2<;>simp [h1,h2,S5,Cr1.irr]
theorem Ak4 (t:Int) (a b:Dat):Cm1 t a b=0↔Er1 t a=Er1 t b:=by unfold Cm1 Er1;rcases Ad (C9 t a) with h1|h1<;>rcases Ad (C9 t b) with h2|h2<;>simp [h1,h2,H4]
abbrev Gd6:=List UInt8×Int×Int×List UInt8
abbrev ltF:Gd6→Gd6→Prop:=fun p q=>ltN p.1 q.1∨(p.1=q.1∧(p.2.1<q.2.1∨(p.2.1=q.2.1∧ltD p.2.2 q.2.2)))
theorem to_F:TO ltF:=Gf1.prod (Gf2.prod Hn9)
def Ec (r:Rec):Gd6:=(r.name,r.typ,Er1 r.typ r.data)
theorem J3 (a b:Rec):Gs a b<0↔ltF (Ec a) (Ec b):=by
 unfold Gs ltF Ec;simp only;by_cases h1:M8 a.name b.name=0
 ·rw [if_neg (by simp [h1])];have e1:=Ln.1 h1;have n1:¬ltN a.name b.name:=by rw [e1];exact Gf1.irr _
  by_cases h2:Zy a.typ b.typ=0
  ·rw [if_neg (by simp [h2])];have e2:=(Lp _ _).1 h2;rw [e2,Cm0];constructor
   ·intro h;exact .inr ⟨e1, .inr ⟨rfl,h⟩⟩
   ·rintro (h|⟨_,h|⟨_,h⟩⟩)
    ·exact absurd h n1
    ·omega
    ·exact h
  ·rw [if_pos h2,fg];have e2:a.typ≠b.typ:=fun e=>h2 ((Lp _ _).2 e);constructor
   ·intro h;exact .inr ⟨e1, .inl h⟩
   ·rintro (h|⟨_,h|⟨h,_⟩⟩)
    ·exact absurd h n1
    ·exact h
    ·exact absurd h e2
 ·rw [if_pos h1,ff];have e1:a.name≠b.name:=fun e=>h1 (Ln.2 e);constructor
  ·intro h;exact .inl h
  ·rintro (h|⟨h,_⟩)
   ·exact h
   ·exact absurd h e1
theorem Gy (a b:Rec):Gs a b=0↔Ec a=Ec b:=by
 unfold Gs Ec;by_cases h1:M8 a.name b.name=0
 ·rw [if_neg (by simp [h1])];have e1:=Ln.1 h1;by_cases h2:Zy a.typ b.typ=0
  ·rw [if_neg (by simp [h2])];have e2:=(Lp _ _).1 h2;rw [e2,Ak4];simp [e1]
  ·rw [if_pos h2];have e2:a.typ≠b.typ:=fun e=>h2 ((Lp _ _).2 e);constructor
   ·intro h;exact absurd h h2
   ·intro h;injection h with _ h;injection h with h _;exact absurd h e2
 ·rw [if_pos h1];have e1:a.name≠b.name:=fun e=>h1 (Ln.2 e);constructor
  ·intro h;exact absurd h h1
  ·intro h;injection h with h _;exact absurd h e1
def Er5 (a b:Rec):Int:=if Gs a b≠0 then Gs a b else Zy a.ttl b.ttl
abbrev ltT:Gd6×Int→Gd6×Int→Prop:=fun p q=>ltF p.1 q.1∨(p.1=q.1∧p.2<q.2)
theorem to_T:TO ltT:=to_F.prod Gf2
theorem Cl9 (a b:Rec):Er5 a b<0↔ltT (Ec a,a.ttl) (Ec b,b.ttl):=by
 unfold Er5;by_cases h:Gs a b=0
 ·have e:=(Gy a b).1 h;rw [if_neg (by simp [h]),fg];simp only [ltT,e,true_and];exact ⟨.inr,fun q=>q.resolve_left (to_F.irr _)⟩
 ·rw [if_pos h,J3];have e:Ec a≠Ec b:=fun e=>h ((Gy a b).2 e);simp only [ltT,e,false_and,or_false]
def leR (a b:Rec):Bool:= !decide (Er5 b a<0)
theorem Kh (a b:Rec):leR a b=true↔¬ltT (Ec b,b.ttl) (Ec a,a.ttl):=by unfold leR;simp [←Cl9]
theorem Gp1:TP leR where
 tr:=fun a b c h1 h2=>by rw [Kh] at*;exact to_T.ntr h2 h1
 tot:=fun a b=>by
  simp only [Kh];rcases to_T.tri (Ec a,a.ttl) (Ec b,b.ttl) with h|h|h
  ·exact .inl (to_T.asym h)
  ·rw [h];exact .inl (to_T.irr _)
  ·exact .inr (to_T.asym h)
theorem z5 (a b:Rec):eqv leR a b=true↔Ec a=Ec b∧a.ttl=b.ttl:=by
 unfold eqv;rw [Ax,Kh,Kh];constructor
 ·rintro ⟨h1,h2⟩;rcases to_T.tri (Ec a,a.ttl) (Ec b,b.ttl) with h|h|h
  ·exact absurd h h2
  ·injection h with h3 h4;exact ⟨h3,h4⟩
  ·exact absurd h h1
 ·rintro ⟨h1,h2⟩;rw [h1,h2];exact ⟨to_T.irr _,to_T.irr _⟩
theorem Rm {α:Type} {P:List α→Prop} (h0:P []) (h1:∀l x,P l→P (l++[x])):∀(n:Nat) (l:List α),l.length=n→P l
 |0,l,h=>by rw [Bv h];exact h0
 |n+1,l,h=>by
  have hne:l≠[]:=fun e=>by rw [e] at h;simp at h
  rw [←List.dropLast_concat_getLast hne];exact h1 _ _ (Rm h0 h1 n _ (by rw [List.length_dropLast];omega))
def Ez0 (l:List Rec) (z:Rec):Prop:=∃l1 l2,l=l1++z::l2∧(∀y∈l1,Ec y=Ec z→z.ttl<y.ttl)∧∀y∈l2,Ec y=Ec z→z.ttl≤y.ttl
theorem Ez0.mem {l:List Rec} {z:Rec} (h:Ez0 l z):z∈l:=by obtain ⟨l1,l2,rfl,_⟩:=h;simp
theorem Hj (l:List Rec) (x z:Rec):Ez0 (l++[x]) z↔(z=x∧∀y∈l,Ec y=Ec x→x.ttl<y.ttl)∨(Ez0 l z∧(Ec z=Ec x→z.ttl≤x.ttl)):=by
 constructor
 ·rintro ⟨l1,l2,h,h1,h2⟩;rcases List.eq_nil_or_concat l2 with rfl|⟨l3,w,rfl⟩
  ·obtain ⟨q1,q2⟩:=List.append_inj' h rfl;injection q2 with q2 _;subst q1;subst q2;exact .inl ⟨rfl,h1⟩
  ·rw [List.concat_eq_append,←Bt,←Ap] at h;obtain ⟨q1,q2⟩:=List.append_inj' h rfl;injection q2 with q2 _;subst q1;subst q2;refine .inr ⟨⟨l1,l3,rfl,h1,fun y hy=>h2 y (by simp [hy])⟩,fun e=>h2 x (by simp) e.symm⟩
 ·rintro (⟨rfl,h⟩|⟨⟨l1,l2,rfl,h1,h2⟩,h⟩)
  ·exact ⟨l,[],rfl,h,fun y hy=>by simp at hy⟩
  ·refine ⟨l1,l2++[x],by simp,h1,fun y hy e=> ?_⟩;rcases B3.1 hy with hy|hy
   ·exact h2 y hy e
   ·have:y=x:=by simpa using hy
    subst this;exact h e.symm
theorem Bh2 (l:List Rec):∀y∈l,∃z,Ez0 l z∧Ec z=Ec y∧z.ttl≤y.ttl:=by
 refine Rm (P:=fun l=>∀y∈l,∃z,Ez0 l z∧Ec z=Ec y∧z.ttl≤y.ttl) ?_ ?_ _ l rfl
 ·intro y h;simp at h
 ·intro l x ih y hy;by_cases hx:∀w∈l,Ec w=Ec x→x.ttl<w.ttl
  ·rcases B3.1 hy with hy|hy
   ·obtain ⟨z,h1,h2,h3⟩:=ih y hy;by_cases e:Ec z=Ec x∧x.ttl<z.ttl
    ·exact ⟨x,(Hj l x x).2 (.inl ⟨rfl,hx⟩),by rw [←e.1,h2],by have:=e.2;omega⟩
    ·exact ⟨z,(Hj l x z).2 (.inr ⟨h1,fun q=>Int.le_of_not_gt fun r=>e ⟨q,r⟩⟩),h2,h3⟩
   ·have:y=x:=by simpa using hy
    subst this;exact ⟨y,(Hj l y y).2 (.inl ⟨rfl,hx⟩),rfl,Hm7 _⟩
  ·have:∃w∈l,Ec w=Ec x∧w.ttl≤x.ttl:=by apply Classical.byContradiction;intro h;exact hx fun w hw e=>Int.lt_of_not_ge fun q=>h ⟨w,hw,e,q⟩
   obtain ⟨w,hw,hw1,hw2⟩:=this;obtain ⟨z,h1,h2,h3⟩:=ih w hw;rcases B3.1 hy with hy|hy
   ·obtain ⟨z',g1,g2,g3⟩:=ih y hy;by_cases e:Ec z'=Ec x∧x.ttl<z'.ttl
    ·exact ⟨z,(Hj l x z).2 (.inr ⟨h1,fun _=>by omega⟩),by rw [h2,hw1,←e.1,g2],by have:=e.2;omega⟩
    ·exact ⟨z',(Hj l x z').2 (.inr ⟨g1,fun q=>Int.le_of_not_gt fun r=>e ⟨q,r⟩⟩),g2,g3⟩
   ·have:y=x:=by simpa using hy
    subst this;exact ⟨z,(Hj l y z).2 (.inr ⟨h1,fun _=>by omega⟩),by rw [h2,hw1],by omega⟩
abbrev Bp8 (l:List Rec):Prop:=l.Pairwise fun a b=>ltF (Ec a) (Ec b)
theorem zc (x:Rec):∀(l:List Rec),Bp8 l→(Bp8 (Sf x l)∧∀z,z∈Sf x l↔(z=x∧∀y∈l,Ec y=Ec x→x.ttl<y.ttl)∨(z∈l∧(Ec z=Ec x→z.ttl≤x.ttl)))
 |[],_=>by simp [Sf]
 |y::r,h=>by
  obtain ⟨h1,h2⟩:=Bh.1 h;obtain ⟨i1,i2⟩:=zc x r h2;simp only [Sf];by_cases c:Gs y x<0
  ·rw [if_pos c];have c':=(J3 y x).1 c;have ne:Ec y≠Ec x:=fun e=>to_F.irr _ (by rw [e] at c';exact c');refine ⟨Bh.2 ⟨fun w hw=> ?_,i1⟩,fun z=> ?_⟩
   ·rcases (i2 w).1 hw with ⟨rfl,_⟩|⟨hw,_⟩
    ·exact c'
    ·exact h1 w hw
   ·rw [A7,i2];simp only [A7,forall_eq_or_imp,ne,false_implies,true_and];constructor
    ·rintro (rfl|h|⟨h,h'⟩)
     ·exact .inr ⟨.inl rfl,fun e=>absurd e ne⟩
     ·exact .inl h
     ·exact .inr ⟨.inr h,h'⟩
    ·rintro (h|⟨rfl|h,h'⟩)
     ·exact .inr (.inl h)
     ·exact .inl rfl
     ·exact .inr (.inr ⟨h,h'⟩)
  ·rw [if_neg c];by_cases e:Gs y x=0
   ·have ke:=(Gy y x).1 e;have hr:∀w∈r,Ec w≠Ec x:=fun w hw q=>to_F.irr (Ec y) (by have:=h1 w hw;rw [q,←ke] at this;exact this);rw [if_pos e];by_cases t:x.ttl<y.ttl
    ·rw [if_pos t];refine ⟨Bh.2 ⟨fun w hw=>by rw [←ke];exact h1 w hw,h2⟩,fun z=> ?_⟩;simp only [A7,forall_eq_or_imp,ke,t,true_implies,true_and];constructor
     ·rintro (rfl|h)
      ·exact .inl ⟨rfl,fun w hw q=>absurd q (hr w hw)⟩
      ·exact .inr ⟨.inr h,fun q=>absurd q (hr z h)⟩
     ·rintro (⟨h,_⟩|⟨rfl|h,h'⟩)
      ·exact .inl h
      ·have:=h' ke;omega
      ·exact .inr h
    ·rw [if_neg t];refine ⟨h,fun z=> ?_⟩;simp only [A7,forall_eq_or_imp,ke,t,false_and,and_false,false_or,forall_const,true_implies];constructor
     ·rintro (rfl|h)
      ·exact ⟨.inl rfl,fun _=>by omega⟩
      ·exact ⟨.inr h,fun q=>absurd q (hr z h)⟩
     ·exact fun h=>h.1
   ·rw [if_neg e];have hxy:ltF (Ec x) (Ec y):=by
     rcases to_F.tri (Ec x) (Ec y) with q|q|q
     ·exact q
     ·exact absurd ((Gy y x).2 q.symm) e
     ·exact absurd ((J3 y x).2 q) c
    have hall:∀w∈y::r,ltF (Ec x) (Ec w):=fun w hw=>by
     rcases A7.1 hw with rfl|hw
     ·exact hxy
     ·exact to_F.tr _ _ _ hxy (h1 w hw)
    have hne:∀w∈y::r,Ec w≠Ec x:=fun w hw q=>to_F.irr _ (by have:=hall w hw;rw [q] at this;exact this);refine ⟨Bh.2 ⟨hall,h⟩,fun z=> ?_⟩;rw [A7];constructor
    ·rintro (rfl|h)
     ·exact .inl ⟨rfl,fun w hw q=>absurd q (hne w hw)⟩
     ·exact .inr ⟨h,fun q=>absurd q (hne z h)⟩
    ·rintro (⟨h,_⟩|⟨h,_⟩)
     ·exact .inl h
     ·exact .inr h
theorem H2 (l:List Rec):Bp8 (sortR l)∧∀z,z∈sortR l↔Ez0 l z:=by
 refine Rm (P:=fun l=>Bp8 (sortR l)∧∀z,z∈sortR l↔Ez0 l z) ?_ ?_ _ l rfl
 ·refine ⟨List.Pairwise.nil,fun z=>⟨fun h=>by simp [sortR] at h,fun h=>by have:=h.mem;simp at this⟩⟩
 ·intro l x ih;have e:sortR (l++[x])=Sf x (sortR l):=by simp [sortR]
  obtain ⟨i1,i2⟩:=zc x (sortR l) ih.1;rw [e];refine ⟨i1,fun z=> ?_⟩;rw [i2,Hj,ih.2];have:(∀y∈sortR l,Ec y=Ec x→x.ttl<y.ttl)↔∀y∈l,Ec y=Ec x→x.ttl<y.ttl:=by
   constructor
   ·intro h y hy q;obtain ⟨w,w1,w2,w3⟩:=Bh2 l y hy;have:=h w ((ih.2 w).2 w1) (by rw [w2,q]);omega
   ·intro h y hy q;exact h y ((ih.2 y).1 hy).mem q
  rw [this]
theorem qk:∀(a b:List Rec),Bp8 a→Bp8 b→(∀x,x∈a↔x∈b)→a=b
 |[],[],_,_,_=>rfl
 |[],y::b,_,_,h=>absurd ((h y).2 (.head _)) (by simp)
 |x::a,[],_,_,h=>absurd ((h x).1 (.head _)) (by simp)
 |x::a,y::b,ha,hb,h=>by
  have ha':=Bh.1 ha;have hb':=Bh.1 hb;have hxy:x=y:=by
   rcases A7.1 ((h x).1 (.head _)) with h1|h1
   ·exact h1
   ·rcases A7.1 ((h y).2 (.head _)) with h2|h2
    ·exact h2.symm
    ·exact absurd (hb'.1 x h1) (to_F.asym (ha'.1 y h2))
  subst hxy;rw [qk a b ha'.2 hb'.2 fun z=> ?_];constructor
  ·intro hz;rcases A7.1 ((h z).1 (.tail _ hz)) with rfl|h1
   ·exact absurd (ha'.1 z hz) (to_F.irr _)
   ·exact h1
  ·intro hz;rcases A7.1 ((h z).2 (.tail _ hz)) with rfl|h1
   ·exact absurd (hb'.1 z hz) (to_F.irr _)
   ·exact h1
abbrev eqF:Rec→Rec→Bool:=fun a b=>decide (Gs a b=0)
theorem Dq1:∀(r:List Rec) (p:Rec),(p::r).Pairwise (fun a b=>leR a b=true)→(Bp8 (p::Xj eqF p r)∧∀z,z∈Xj eqF p r↔∃s1 s2,r=s1++z::s2∧∀y∈p::s1,Ec y≠Ec z)
 |[],p,_=>by simp [Xj]
 |c::r,p,h=>by
  obtain ⟨h1,h2⟩:=Bh.1 h;obtain ⟨i1,i2⟩:=Dq1 r c h2;have hpc:=(Kh p c).1 (h1 c (.head _));simp only [Xj];by_cases e:Gs c p=0
  ·rw [if_pos (by simp [e])];have ke:=(Gy c p).1 e;refine ⟨?_,fun z=> ?_⟩
   ·obtain ⟨j1,j2⟩:=Bh.1 i1;exact Bh.2 ⟨fun w hw=>by rw [←ke];exact j1 w hw,j2⟩
   ·rw [i2];constructor
    ·rintro ⟨s1,s2,rfl,q⟩;refine ⟨c::s1,s2,rfl,fun y hy=> ?_⟩;rcases A7.1 hy with rfl|hy
     ·rw [←ke];exact q c (.head _)
     ·exact q y hy
    ·rintro ⟨s1,s2,h,q⟩;cases s1 with
     |nil=>
      injection h with h _;subst h;exact absurd ke.symm (q p (.head _))
     |cons w s1=>
      injection h with h h';subst h;exact ⟨s1,s2,h',fun y hy=>q y (.tail _ hy)⟩
  ·rw [if_neg (by simp [e])];have ne:Ec c≠Ec p:=fun q=>e ((Gy c p).2 q);have hlt:ltF (Ec p) (Ec c):=by
    rcases to_F.tri (Ec p) (Ec c) with q|q|q
    ·exact q
    ·exact absurd q.symm ne
    ·exact absurd (.inl q) hpc
   obtain ⟨j1,j2⟩:=Bh.1 i1;refine ⟨Bh.2 ⟨fun w hw=> ?_,i1⟩,fun z=> ?_⟩
   ·rcases A7.1 hw with rfl|hw
    ·exact hlt
    ·exact to_F.tr _ _ _ hlt (j1 w hw)
   ·rw [A7];constructor
    ·rintro (rfl|hz)
     ·exact ⟨[],r,rfl,fun y hy=>by have:y=p:=by simpa using hy
                                   subst this;exact ne.symm⟩
     ·obtain ⟨s1,s2,rfl,q⟩:=(i2 z).1 hz;refine ⟨c::s1,s2,rfl,fun y hy=> ?_⟩;rcases A7.1 hy with rfl|hy
      ·intro q2;exact to_F.irr _ (by have:=to_F.tr _ _ _ hlt (j1 z hz);rw [q2] at this;exact this)
      ·exact q y hy
    ·rintro ⟨s1,s2,h,q⟩;cases s1 with
     |nil=>injection h with h _;exact .inl h.symm
     |cons w s1=>
      injection h with h h';subst h;exact .inr ((i2 z).2 ⟨s1,s2,h',fun y hy=>q y (.tail _ hy)⟩)
theorem Hl8 (s:List Rec) (h:s.Pairwise fun a b=>leR a b=true):Bp8 (cpt eqF s)∧∀z,z∈cpt eqF s↔∃s1 s2,s=s1++z::s2∧∀y∈s1,Ec y≠Ec z:=by
 cases s with
 |nil=>simp [cpt]
 |cons p r=>
  obtain ⟨i1,i2⟩:=Dq1 r p h;refine ⟨i1,fun z=> ?_⟩;show z∈p::Xj eqF p r↔_;rw [A7,i2];constructor
  ·rintro (rfl|⟨s1,s2,rfl,q⟩)
   ·exact ⟨[],r,rfl,by simp⟩
   ·exact ⟨p::s1,s2,rfl,q⟩
  ·rintro ⟨s1,s2,h,q⟩;cases s1 with
   |nil=>injection h with h _;exact .inl h.symm
   |cons w s1=>
    injection h with h h';subst h;exact .inr ⟨s1,s2,h',q⟩
theorem Cy0 {s l:List Rec} (h:Stab leR s l):cpt eqF s=sortR l:=by
 obtain ⟨i1,i2⟩:=Hl8 s h.sorted;obtain ⟨j1,j2⟩:=H2 l;refine qk _ _ i1 j1 fun z=> ?_;rw [i2,j2];have hz:eqv leR z z=true:=(z5 z z).2 ⟨rfl,rfl⟩;have hm:=h.mem Gp1;constructor
 ·rintro ⟨s1,s2,rfl,q⟩;have hs1:s1.filter (eqv leR z)=[]:=by rw [Rj];intro y hy hyz;exact q y hy ((z5 z y).1 hyz).1.symm
  have hc:=h.cls z;rw [It,hs1,Dw,Ek hz] at hc;obtain ⟨l1,l2,rfl,g1,_,_⟩:=List.filter_eq_cons_iff.1 hc.symm;have key:∀y,y∈l1++z::l2→Ec y=Ec z→z.ttl≤y.ttl:=fun y hy e=>by
   rcases B3.1 ((hm y).2 hy) with w|w
   ·exact absurd e (q y w)
   ·rcases A7.1 w with rfl|w
    ·exact Hm7 _
    ·have:=(Kh z y).1 ((Bh.1 (Kn.1 h.sorted).2.1).1 y w);exact Int.le_of_not_gt fun t=>this (.inr ⟨e,t⟩)
  refine ⟨l1,l2,rfl,fun y hy e=> ?_,fun y hy e=>key y (by simp [hy]) e⟩;have k1:=key y (by simp [hy]) e;have k2:=g1 y hy;rw [z5] at k2;have:z.ttl≠y.ttl:=fun t=>k2 ⟨e.symm,t⟩;omega
 ·rintro ⟨l1,l2,rfl,q1,q2⟩;have hl1:l1.filter (eqv leR z)=[]:=by rw [Rj];intro y hy hyz;obtain ⟨a,b⟩:=(z5 z y).1 hyz;have:=q1 y hy a.symm;omega
  have hc:=h.cls z;rw [It,hl1,Dw,Ek hz] at hc;obtain ⟨s1,s2,rfl,g1,_,_⟩:=List.filter_eq_cons_iff.1 hc;refine ⟨s1,s2,rfl,fun y hy e=> ?_⟩;have k1:=(Kh y z).1 ((Kn.1 h.sorted).2.2 y hy z (by simp));have k2:¬z.ttl<y.ttl:=fun t=>k1 (.inr ⟨e.symm,t⟩);have k3:z.ttl≤y.ttl:=by
   rcases B3.1 ((hm y).1 (by simp [hy])) with w|w
   ·have:=q1 y w e;omega
   ·rcases A7.1 w with rfl|w
    ·exact Hm7 _
    ·exact q2 y w e
  exact g1 y hy ((z5 z y).2 ⟨e.symm,by omega⟩)
end Go.X.G
/- Valid data are known by their bytes; records that are alike. -/
namespace Go.X.G
open Go Go.X
end Go.X.G
