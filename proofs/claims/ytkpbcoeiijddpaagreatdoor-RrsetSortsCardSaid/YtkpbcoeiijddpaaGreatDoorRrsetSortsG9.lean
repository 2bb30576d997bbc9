/- Names: what the reference's functions give. -/
import Derived.Test.YtkpbcoeiijddpaaGreatDoorRrsetSortsG7
import Derived.Test.YtkpbcoeiijddpaaGreatDoorRrsetSortsG8
open Bool renaming and_eq_true→Ax,false_eq_true→Ac,eq_false_or_eq_true→Ad,or_eq_true→Ar,not_eq_true'→Bs,eq_iff_iff→Fq,and_true→Mb,not_true→Xs
open Int renaming le_refl→Hs0
open List renaming getElem?_eq_some_iff→Aq,getElem?_eq_getElem→Ay,length_append→Ab,mem_cons→Ap,append_assoc→As,mem_of_getElem?→A8,eq_nil_of_length_eq_zero→Bq,pairwise_cons→Bv,length_cons→Bw,getD_eq_getElem?_getD→Bb,length_pos_iff→Bl,cons_append→B4,getElem?_cons_zero→B6,all_eq_true→Cy,mem_append→Cb,getElem?_cons_succ→Ct,drop_eq_getElem_cons→C1,take_add_one→C6,nil_append→C7,take_length→Dl,filter_cons_of_pos→Ev,drop_zero→Ec,drop_eq_nil_of_le→Er,mem_filter→Fj,getLast_eq_getElem→Hf,filter_append→I4,length_map→K7,pairwise_append→K9,filter_cons→Ow,filter_eq_nil_iff→R5,flatMap_cons→b8
open Nat renaming le_refl→Af,zero_le→C0
open Option renaming map_eq_some_iff→Av,map_some→A0
set_option maxHeartbeats 1000000
set_option linter.unusedVariables false
set_option linter.unusedSimpArgs false
namespace Go.X.G
open Go Go.X
def M3 (c:UInt8):Bool:=decide (97≤(c.toNat:Int)) && decide ((c.toNat:Int)≤122)||decide (48≤(c.toNat:Int)) && decide ((c.toNat:Int)≤57)||decide ((c.toNat:Int)=45)||decide ((c.toNat:Int)=95)
theorem nk (c:UInt8):(decide (97≤(c.toNat:Int)) && decide ((c.toNat:Int)≤122)||decide (48≤(c.toNat:Int)) && decide ((c.toNat:Int)≤57)||decide ((c.toNat:Int)=45)||decide ((c.toNat:Int)=95))=M3 c:=rfl
def I3 (s:List UInt8):Bool:=decide (s=[42])||(decide (1≤s.length) && decide (s.length≤63) && s.all M3)
theorem ny (s:List UInt8) (N:Nat) (hN:s.length<N) (hs:s.length≤4294967296):
  Dv7.ev S N [.s s]=some (if s.all M3=true then .yld 0 [] else .ret [.b false]):=by
 refine E8 s (fun i=>[.i .i64 (i:Int)]) (fun i r=>if r.all M3=true then .yld 0 [] else .ret [.b false]) rfl hN (fun i c r hd hi hc=> ?_) ?_
 ·simp (disch:=omega) only [Eb6,xe,EV,simprocAttr,hc,nk];cases h:M3 c<;>simp [h,Out.goes]
 ·simp (disch:=omega) [Eb6,xe,EV,simprocAttr,Out.goes]
theorem nx (s:List UInt8) (hs:s.length≤4294967296):S xm 1 [.s s]=some [.b (I3 s)]:=by
 refine Hq1 (N:=s.length+1) rfl ?_;simp (disch:=omega) only [Eb6,ny,xe,EV,simprocAttr];unfold I3
 grind
end Go.X.G
/- Names: what the reference's functions give. -/
namespace Go.X.G
open Go Go.X
def spl (first:Bool) (cur:List UInt8):List UInt8→Option (List (List UInt8))
 |[]=>some []
 |c::r=>if c=46 then (if I3 cur=true∧(cur=[42]→first=true) then (spl false [] r).map (cur::·) else none) else spl first (cur++[c]) r
def nm (n:List UInt8):Option (List (List UInt8)):=
 if n=[46] then some [] else if 2≤n.length∧n.length≤254∧n[n.length - 1]? =some 46 then spl true [] n else none
def lbl (n:List UInt8):List (List UInt8):=(nm n).getD []
def vld (n:List UInt8):Bool:=(nm n).isSome
theorem Ed5 {α:Type} (n:List α) (i j:Nat) (c:α) (h:n[i]? =some c) (hj:j≤i):(n.take (i+1)).drop j=(n.take i).drop j++[c]:=by have hi:i<n.length:=(Aq.1 h).1;rw [C6,h,List.drop_append_of_le_length (by simp;omega)];rfl
theorem Ed6 {α:Type} (n:List α) (i:Nat):(n.take i).drop i=[]:=by rw [List.drop_eq_nil_iff];simp;omega
def Q1 (l:List (List UInt8)):Option (List (List UInt8))→Out
 |some ls=> .yld 0 [.l 1 ((l++ls).map .s)]
 |none=> .ret [.l 1 [], .b false]
theorem Cb7 (n:List UInt8) (N:Nat) (hN:n.length<N) (hs:n.length≤1000):
  Dw0.ev S N [.s n]=some (Q1 [] (spl true [] n)):=by
 refine J7 n (fun i (g:List (List UInt8)×Nat)=>[.l 1 (g.1.map .s), .i .i64 (g.2:Int), .i .i64 (i:Int)]) (fun i g r=>Q1 g.1 (spl (decide (g.2=0)) ((n.take i).drop g.2) r)) (fun i g=>g.1.length≤i∧g.2≤i) ([],0) rfl ⟨Af _,Af _⟩ hN (fun i g c r hd hi hc hI=> ?_) (fun g hI=> ?_)
 ·obtain ⟨l,st⟩:=g;obtain ⟨h1,h2⟩:=hI;simp only at h1 h2 ⊢;have hl:((n.take i).drop st).length≤4294967296:=by simp;omega
  have hm:(l.map PV.s).length=l.length:=K7 ..;have hd':=Ec8 c 46 (by omega);by_cases hdot:c=46
  ·have hdi:=hd'.2 hdot;simp (disch:=omega) only [Ur,xe,EV,simprocAttr,hc,nx];simp only [spl,if_pos hdot];by_cases h:I3 ((n.take i).drop st)=true∧((n.take i).drop st=[42]→st=0)
   ·obtain ⟨h3,h4⟩:=h;left;refine ⟨(l++[(n.take i).drop st],i+1),?_,?_,?_⟩
    ·rw [if_neg (by simp only [h3];intro h;simp at h;have:=h4 h.1;omega)];simp
    ·simp;omega
    ·simp only [Ed6];rw [if_pos ⟨h3,by simpa using h4⟩];cases h9:spl false [] r<;>simp [h9,Q1]
   ·right;have h':¬(I3 ((n.take i).drop st)=true∧((n.take i).drop st=[42]→decide (st=0)=true)):=by simpa using h
    rw [if_neg h'];refine ⟨?_,rfl⟩;rw [if_pos]
    ·rfl
    ·cases h5:I3 ((n.take i).drop st)
     ·simp
     ·simp only [h5,true_and] at h;have ⟨h6,h7⟩:=Classical.not_imp.1 h;simp [h6];omega
  ·have hdi:¬(c.toNat:Int)=46:=fun h=>hdot (hd'.1 h);left;refine ⟨(l,st),?_,?_,?_⟩
   ·simp (disch:=omega) only [Ur,xe,EV,simprocAttr,hc]
   ·simp only;omega
   ·simp only [spl];rw [if_neg hdot,Ed5 n i st c hc h2]
 ·simp (disch:=omega) [Ur,xe,EV,simprocAttr,Out.goes,spl,Q1]
theorem split_ok (n:List UInt8) (hs:n.length≤9223372036854775807):S V7 1 [.s n]=some [Bg (lbl n), .b (vld n)]:=by
 refine Hw2 (N:=n.length+1) rfl ?_;unfold Bg lbl vld nm;by_cases h1:n=[46]
 ·simp (disch:=omega) [Ur,xe,EV,simprocAttr,h1]
 ·rw [if_neg h1];by_cases h2:n.length<2
  ·simp (disch:=omega) only [Ur,xe,EV,simprocAttr,h1];have h3:¬(2≤n.length∧n.length≤254∧n[n.length - 1]? =some 46):=by omega
   rw [if_neg h3];rfl
  ·by_cases h3:254<n.length
   ·simp (disch:=omega) only [Ur,xe,EV,simprocAttr,h1];have h3:¬(2≤n.length∧n.length≤254∧n[n.length - 1]? =some 46):=by omega
    rw [if_neg h3];rfl
   ·have h4:=Ay (l:=n) (i:=n.length - 1) (by omega);have h5:((n.length:Int) - 1).toNat=n.length - 1:=by omega
    have h6:=Ec8 (n[n.length - 1]'(by omega)) 46 (by omega);simp (disch:=omega) only [Ur,xe,EV,simprocAttr,h1,h4,h5,Cb7];by_cases h7:n[n.length - 1]'(by omega)=46
    ·rw [if_pos (show 2≤n.length∧n.length≤254∧some (n[n.length - 1]'(by omega))=some 46 from ⟨by omega,by omega,by rw [h7]⟩),if_neg (fun h=>h (h6.2 h7))];cases h8:spl true [] n
     ·simp [Q1,Bt1]
     ·simp (disch:=omega) [Ur,Q1,xe,EV,simprocAttr]
    ·rw [if_neg (show¬(2≤n.length∧n.length≤254∧some (n[n.length - 1]'(by omega))=some 46) from fun h=>h7 (by simpa using h.2.2)),if_pos (show (((n[n.length - 1]'(by omega)).toNat:Int)≠46) from fun h=>h7 (h6.1 h))];rfl
end Go.X.G
/- Names: what the reference's functions give, ctd. -/
namespace Go.X.G
open Go Go.X
theorem Yd:∀(r:List UInt8) (f:Bool) (cur:List UInt8) (l:List (List UInt8)),spl f cur r=some l→l.length≤r.length
 |[],f,cur,l,h=>by simp [spl] at h;simp [←h]
 |c::r,f,cur,l,h=>by
  simp only [spl] at h;split at h
  ·split at h
   ·obtain ⟨m,hm,rfl⟩:=Av.1 h;have:=Yd r _ _ _ hm;simp;omega
   ·cases h
  ·have:=Yd r _ _ _ h;simp;omega
theorem Ft6 {n:List UInt8} {l:List (List UInt8)} (h:nm n=some l):l.length≤254:=by
 unfold nm at h;split at h
 ·injection h with h;subst h;simp
 ·split at h
  ·rename_i h2;have:=Yd _ _ _ _ h;omega
  ·cases h
theorem Jx (n:List UInt8):(lbl n).length≤254:=by
 unfold lbl;cases h:nm n with
 |none=>simp
 |some l=>exact Ft6 h
theorem P8 (n:List UInt8) (hs:n.length≤9223372036854775807):S m9 1 [.s n]=some [.b (vld n)]:=by refine Hy6 (N:=1) rfl ?_;simp (disch:=omega) only [Gs8,split_ok,xe,EVP,EV,simprocAttr]
theorem o5 (n:List UInt8) (hs:n.length≤9223372036854775807):S Wq 1 [.s n]=some [Bg (lbl n)]:=by refine Fm7 (N:=1) rfl ?_;simp (disch:=omega) only [Fd2,split_ok,xe,EVP,EV,simprocAttr]
def Tt {α:Type} [DecidableEq α]:List α→List α→Nat
 |x::xs,y::ys=>if x=y then Tt xs ys+1 else 0
 |_,_=>0
def Ix (a b:List (List UInt8)):Nat:=Tt a.reverse b.reverse
theorem Ax1 {α:Type} [DecidableEq α]:∀(a b:List α),Tt a b≤a.length∧Tt a b≤b.length
 |[],b=>by simp [Tt]
 |x::xs,[]=>by simp [Tt]
 |x::xs,y::ys=>by have:=Ax1 xs ys;simp only [Tt];split<;>simp<;>omega
theorem Cc9 (a b:List (List UInt8)):Ix a b≤a.length∧Ix a b≤b.length:=by have:=Ax1 a.reverse b.reverse;simpa [Ix] using this
theorem Eg3 (a b:List (List UInt8)) (N:Nat) (hN:a.length<N) (ha:a.length≤1000000) (hb:b.length≤1000000):
  Aj4.ev S N [Bg a,Bg b]=some (.yld 0 [.i .i64 (Ix a b:Int)]):=by
 have key:=Hq (fn:=S) (N:=N) (η:=[Bg a,Bg b]) (id:=1) (init:=[(.c (.i .i64 (0)))]) (body:=Br5) (α:=Nat) (fun k=>[.i .i64 (k:Int)]) (fun k=> .yld 0 [.i .i64 ((k+Tt (a.reverse.drop k) (b.reverse.drop k):Nat):Int)]) (fun k=>k≤a.length∧k≤b.length) (fun k=>a.length - k) 0 rfl ⟨C0 _,C0 _⟩ (by omega) ?_
 ·simpa [Ix,Aj4] using key
 ·rintro k ⟨h1,h2⟩;by_cases h3:k<a.length
  ·by_cases h4:k<b.length
   ·have e1:((a.length:Int) - 1 - k).toNat=a.length - 1 - k:=by omega
    have e2:((b.length:Int) - 1 - k).toNat=b.length - 1 - k:=by omega
    have g1:a[a.length - 1 - k]? =some (a[a.length - 1 - k]'(by omega)):=Ay (by omega);have g2:b[b.length - 1 - k]? =some (b[b.length - 1 - k]'(by omega)):=Ay (by omega);have d1:a.reverse.drop k=(a[a.length - 1 - k]'(by omega))::a.reverse.drop (k+1):=by rw [C1 (by simpa using h3)];simp
    have d2:b.reverse.drop k=(b[b.length - 1 - k]'(by omega))::b.reverse.drop (k+1):=by rw [C1 (by simpa using h4)];simp
    simp (disch:=omega) only [Ck5,xe,EVP,EV,simprocAttr,e1,e2,g1,g2];rw [d1,d2];simp only [Tt];by_cases h:a[a.length - 1 - k]'(by omega)=b[b.length - 1 - k]'(by omega)
    ·left;refine ⟨k+1,by simp [h],⟨by omega,by omega⟩,by omega,?_⟩;rw [if_pos h];congr 3
     push_cast
     omega
    ·right;simp [h,Out.goes]
   ·right;have d2:b.reverse.drop k=[]:=Er (by simp;omega);have z:Tt (a.reverse.drop k) []=0:=by cases a.reverse.drop k<;>rfl
    rw [d2,z];simp (disch:=omega) [Ck5,xe,EVP,EV,simprocAttr,Out.goes]
  ·right;have d1:a.reverse.drop k=[]:=Er (by simp;omega);have z:Tt [] (b.reverse.drop k)=0:=rfl;rw [d1,z];simp (disch:=omega) [Ck5,xe,EVP,EV,simprocAttr,Out.goes]
theorem rm (a b:List (List UInt8)) (ha:a.length≤1000000) (hb:b.length≤1000000):S yq 2 [Bg a,Bg b]=some [.i .i64 (Ix a b:Int)]:=by refine Hq7 (N:=a.length+1) rfl ?_;simp (disch:=omega) only [Ck5,Eg3,xe,EVP,EV,simprocAttr]
def under (n top:List UInt8):Bool:=vld n && vld top && decide (Ix (lbl n) (lbl top)=(lbl top).length)
def cmpS (a b:List UInt8):Int:=if Op.bytesLess a b then -1 else if a=b then 0 else 1
theorem Lc (a b:List UInt8):S mb 2 [.s a, .s b]=some [.i .i64 (cmpS a b)]:=by
 refine Hq8 (N:=1) rfl ?_;unfold cmpS;simp (disch:=omega) only [Gp8,xe,EVP,EV,simprocAttr];cases h:Op.bytesLess a b
 ·by_cases h2:a=b<;>simp [h2]
 ·simp
def H8 (a b:List UInt8):Int:=
 if vld a && vld b then
  let k:=Ix (lbl a) (lbl b)
  if k<(lbl a).length∧k<(lbl b).length then cmpS ((lbl a).getD ((lbl a).length - 1 - k) []) ((lbl b).getD ((lbl b).length - 1 - k) [])
  else if (lbl a).length<(lbl b).length then -1 else if (lbl b).length<(lbl a).length then 1 else 0
 else if vld a then -1 else if vld b then 1 else cmpS a b
theorem Qv (a b:List UInt8) (hn:a.length≤9223372036854775807) (ht:b.length≤9223372036854775807):S ms 2 [.s a, .s b]=some [.i .i64 (H8 a b)]:=by
 refine Hx7 (N:=1) rfl ?_;have h1:=Jx a;have h2:=Jx b;have h5:=Cc9 (lbl a) (lbl b);unfold H8;cases h3:vld a<;>cases h4:vld b
 ·simp (disch:=omega) [p6,split_ok,Lc,h3,h4,xe,EVP,EV,simprocAttr]
 ·simp (disch:=omega) [p6,split_ok,Lc,h3,h4,xe,EVP,EV,simprocAttr]
 ·simp (disch:=omega) [p6,split_ok,Lc,h3,h4,xe,EVP,EV,simprocAttr]
 ·by_cases h6:Ix (lbl a) (lbl b)<(lbl a).length∧Ix (lbl a) (lbl b)<(lbl b).length
  ·obtain ⟨h7,h8⟩:=h6;have e1:(((lbl a).length:Int) - 1 - (Ix (lbl a) (lbl b):Int)).toNat=(lbl a).length - 1 - Ix (lbl a) (lbl b):=by omega
   have e2:(((lbl b).length:Int) - 1 - (Ix (lbl a) (lbl b):Int)).toNat=(lbl b).length - 1 - Ix (lbl a) (lbl b):=by omega
   have g1:=Ay (l:=lbl a) (i:=(lbl a).length - 1 - Ix (lbl a) (lbl b)) (by omega);have g2:=Ay (l:=lbl b) (i:=(lbl b).length - 1 - Ix (lbl a) (lbl b)) (by omega);simp (disch:=omega) only [p6,split_ok,rm,Lc,h3,h4,e1,e2,g1,g2,xe,EVP,EV,simprocAttr];simp [h7,h8,g1,g2]
  ·simp (disch:=omega) only [p6,split_ok,rm,Lc,h3,h4,xe,EVP,EV,simprocAttr];simp only [h6]
   grind
end Go.X.G
/- The library's functions on strings. -/
namespace Go.X.G
open Go Go.X
theorem Et4 (x:List UInt8) (c:UInt8):S et 2 [.s x, .i .u8 (c.toNat:Int)]=some [.i .i64 (x.count c:Int)]:=
 Fn2 (args:=[.s x, .i .u8 (c.toNat:Int)]) (by simp [XK.run,jm,Lib.countByte])
theorem Ep1 (x:List UInt8) (c:UInt8):S ep 2 [.s x, .i .u8 (c.toNat:Int)]=some [.i .i64 (Lib.indexByte x c)]:=
 Fm3 (args:=[.s x, .i .u8 (c.toNat:Int)]) (by simp [XK.run,jm])
theorem Et5 (x y:List UInt8):S fq 2 [.s x, .s y]=some [.i .i64 (Lib.compareBytes x y)]:=
 Fn4 (args:=[.s x, .s y]) (by simp [XK.run,Cd0])
theorem Uz (x:List UInt8) (c:UInt8):S Wk 2 [.s x, .i .u8 (c.toNat:Int)]=some [.i .i64 (Lib.indexByte x c)]:=by refine Fm5 (N:=1) rfl ?_;simp (disch:=omega) only [Fd1,Ep1,xe,EVP,EV,simprocAttr]
theorem Kh (c:UInt8):∀(x:List UInt8),c∉x→Lib.indexByte x c= -1
 |[],_=>rfl
 |b::l,h=>by have h1:b≠c:=fun e=>h (by simp [e]);have h2:=Kh c l (fun e=>h (by simp [e]));simp [Lib.indexByte,h1,h2]
theorem Kg (c:UInt8) (post:List UInt8):∀(pre:List UInt8),c∉pre→Lib.indexByte (pre++c::post) c=(pre.length:Int)
 |[],_=>by simp [Lib.indexByte]
 |b::l,h=>by
  have h1:b≠c:=fun e=>h (by simp [e]);have h2:=Kg c post l (fun e=>h (by simp [e]));simp only [B4,Lib.indexByte,h2];simp [h1]
  try omega
theorem dot_split (c:UInt8):∀(s:List UInt8),c∉s∨∃pre post,s=pre++c::post∧c∉pre
 |[]=> .inl (by simp)
 |b::l=>by
  by_cases h:b=c
  ·exact .inr ⟨[],l,by simp [h],by simp⟩
  ·rcases dot_split c l with h1|⟨pre,post,rfl,h2⟩
   ·exact .inl (by simp [h1,Ne.symm h])
   ·exact .inr ⟨b::pre,post,by simp,by simp [h2,Ne.symm h]⟩
def pcs (cur:List UInt8):List UInt8→List (List UInt8)
 |[]=>[cur]
 |c::r=>if c=46 then cur::pcs [] r else pcs (cur++[c]) r
def cut (s:List UInt8):List (List UInt8):=pcs [] s
theorem xk (post:List UInt8):∀(pre cur:List UInt8),(46:UInt8)∉pre→pcs cur (pre++46::post)=(cur++pre)::pcs [] post
 |[],cur,_=>by simp [pcs]
 |b::l,cur,h=>by have h1:b≠46:=fun e=>h (by simp [e]);have h2:=xk post l (cur++[b]) (fun e=>h (by simp [e]));simp [pcs,h1,h2]
theorem Ss:∀(s cur:List UInt8),(46:UInt8)∉s→pcs cur s=[cur++s]
 |[],cur,_=>by simp [pcs]
 |b::l,cur,h=>by have h1:b≠46:=fun e=>h (by simp [e]);have h2:=Ss l (cur++[b]) (fun e=>h (by simp [e]));simp [pcs,h1,h2]
theorem Aw9 (s:List UInt8):(cut s).length=s.count 46+1:=by
 have:∀(s cur:List UInt8),(pcs cur s).length=s.count 46+1:=by
  intro s
  induction s with
  |nil=>intro cur;rfl
  |cons c r ih=>
   intro cur;by_cases h:c=46<;>simp [pcs,h,ih]
 exact this s []
theorem o6 (s:List UInt8) (hs:s.length≤9223372036854775807):S Ww 2 [.s s, .s [46]]=some [.i .i64 (Lib.indexByte s 46)]:=by
 refine Fn1 (N:=1) rfl ?_;have h1:=Uz s 46;have e:(((46:UInt8).toNat:Nat):Int)=46:=rfl;rw [e] at h1;by_cases h:[46]=s
 ·subst h;simp (disch:=omega) only [Dj4,xe,EVP,EV,simprocAttr];rfl
 ·simp (disch:=omega) only [Dj4,h,h1,e,xe,EVP,EV,simprocAttr]
theorem Xn (s:List UInt8) (hs:s.length≤9223372036854775807):S Rk 2 [.s s, .s [46]]=some [.i .i64 (Lib.indexByte s 46)]:=by refine Fp4 (N:=1) rfl ?_;simp (disch:=omega) only [Fd4,o6,xe,EVP,EV,simprocAttr]
theorem Cj1 (s:List UInt8):S Wg 2 [.s s, .s [46]]=some [.i .i64 (s.count 46:Int)]:=by refine Fp5 (N:=1) rfl ?_;have h1:=Et4 s 46;have e:(((46:UInt8).toNat:Nat):Int)=46:=rfl;rw [e] at h1;simp (disch:=omega) only [Fd5,h1,e,xe,EVP,EV,simprocAttr]
def Av0 (done rest:List (List UInt8)):Out:=
 .yld 0 [.s ((done++rest).getLastD []),Bg ((done++rest).dropLast++[[]]), .i .i64 (((done++rest).length:Int) - 1)]
theorem Zh (s:List UInt8) (N:Nat) (hN:s.length<N) (hs:s.length≤1000000) (p q:PV):
  Aj3.ev S N [.s s, .s [46], .i .i64 0,p, .i .i64 ((s.count 46:Int)+1)]=some (Av0 [] (cut s)):=by
 have hc0:s.count 46≤s.length:=List.count_le_length;have key:=Hq (fn:=S) (N:=N) (η:=[.s s, .s [46], .i .i64 0,p, .i .i64 ((s.count 46:Int)+1)]) (id:=1) (init:=[(.v 0),(.rep 1 (.mn (.v 4) (.bin .add (.slen (.v 0)) (.c (.i .i64 (1))))) (.c (.s []))),(.c (.i .i64 (0)))]) (body:=Br3) (α:=List (List UInt8)×List UInt8)
  (fun a=>[.s a.2,Bg (a.1++List.replicate (a.2.count 46+1) []), .i .i64 (a.1.length:Int)]) (fun a=>Av0 a.1 (cut a.2)) (fun a=>a.1.length+a.2.count 46=s.count 46∧a.2.length≤s.length) (fun a=>a.2.length) ([],s) ?_ ⟨by simp,Af _⟩ hN ?_
 ·simpa [Aj3] using key
 ·have e:((s.count 46:Int)+1).toNat=s.count 46+1:=by omega
  simp (disch:=omega) only [e,xe,EVP,EV,simprocAttr]
 ·rintro ⟨done,rest⟩ ⟨h1,h2⟩;simp only at h1 h2 ⊢;rcases dot_split 46 rest with h|⟨pre,post,rfl,h⟩
  ·right;have c0:rest.count 46=0:=List.count_eq_zero.2 h;have i0:=Kh 46 rest h;have cu:cut rest=[rest]:=by simpa [cut] using Ss rest [] h
   refine ⟨?_,rfl⟩;rw [c0];rw [c0] at h1;simp (disch:=omega) only [Eb7,Xn,i0,xe,EVP,EV,simprocAttr];simp [Av0,cu,List.getLastD_eq_getLast?]
  ·left;have c0:(pre++46::post).count 46=post.count 46+1:=by rw [List.count_append,List.count_eq_zero.2 h];simp
   have i0:=Kg 46 post pre h;have cu:cut (pre++46::post)=pre::cut post:=by simpa [cut] using xk post pre [] h
   have hl:(pre++46::post).length=pre.length+post.length+1:=by simp;omega
   have sl1:List.drop (0:Int).toNat (List.take ((pre.length:Int)+0).toNat (pre++46::post))=pre:=by simp
   have sl2:List.drop ((pre.length:Int)+1).toNat (List.take (pre++46::post).length (pre++46::post))=post:=by
    have:((pre.length:Int)+1).toNat=pre.length+1:=by omega
    rw [this,Dl,List.drop_append];simp
   have sl3:(done++[]::[]::List.replicate (post.count 46) ([]:List UInt8)).length=done.length+post.count 46+2:=by simp;omega
   refine ⟨(done++[pre],post),?_,⟨by simp;omega,by simp only;omega⟩,by simp;omega,by simp [Av0,cu]⟩;rw [c0];rw [c0] at h1;simp (disch:=omega) only [Eb7,Xn,i0,sl1,sl2,xe,EVP,EV,simprocAttr];simp [List.replicate_succ,List.set_append]
theorem Zg (s:List UInt8) (hs:s.length≤1000000):S xp 4 [.s s, .s [46], .i .i64 0, .i .i64 (-1)]=some [Bg (cut s)]:=by
 refine Hq4 (N:=s.length+1) rfl ?_;have h1:=Aw9 s;have h2:s.count 46≤s.length:=List.count_le_length;obtain ⟨l,x,hx⟩:∃l x,cut s=l++[x]:=⟨(cut s).dropLast,(cut s).getLast (by intro e;simp [e] at h1),(List.dropLast_concat_getLast _).symm⟩;have h3:l.length=s.count 46:=by rw [hx] at h1;simpa using h1
 have h4:((l.length:Int)+1 - 1)=(l.length:Int):=by omega
 have h5:((l++[([]:List UInt8)]).length:Int)=l.length+1:=by simp
 have h6:((l++[x]).length:Int)=l.length+1:=by simp
 have g1:(l++[([]:List UInt8)])[l.length]? =some []:=by simp
 have g2:(l++[x]).getLastD []=x:=by simp [List.getLastD_eq_getLast?]
 have g3:(l++[([]:List UInt8)]).set l.length x=l++[x]:=by simp
 have hk:=Zh s (s.length+1) (by omega) hs (.i .i64 (-1)) .u;rw [hx] at hk ⊢;simp only [Av0,C7,List.dropLast_concat] at hk;simp (disch:=omega) only [Eb7,Cj1,hk,h4,h6,g1,g2,g3,xe,EVP,EV,simprocAttr];have g4:((l.length:Int)+1).toNat=(l++[x]).length:=by simp
 rw [g4,Dl];rfl
theorem Xh (s:List UInt8) (hs:s.length≤1000000):S mm 2 [.s s, .s [46]]=some [Bg (cut s)]:=by refine Hx1 (N:=1) rfl ?_;simp (disch:=omega) only [Gs0,Zg,xe,EVP,EV,simprocAttr]
theorem Ub (s t:List UInt8) (hs:s.length≤9223372036854775807):S xr 2 [.s s, .s t]=some [.b (t.isSuffixOf s)]:=by
 refine Hq5 (N:=1) rfl ?_;by_cases h:t.length≤s.length
 ·have e:((s.length:Int) - (t.length:Int)).toNat=s.length - t.length:=by omega
  simp (disch:=omega) only [Fc3,e,xe,EVP,EV,simprocAttr];simp only [Dl];congr 4;rw [Fq,List.isSuffixOf_iff_suffix,decide_eq_true_eq];refine ⟨fun h=>h▸List.drop_suffix _ _,fun h=> ?_⟩;obtain ⟨p,rfl⟩:=h;simp
 ·have h2:t.isSuffixOf s=false:=by rw [Bool.eq_false_iff,ne_eq,List.isSuffixOf_iff_suffix];exact fun h'=>h h'.length_le
  simp (disch:=omega) only [Fc3,h2,xe,EVP,EV,simprocAttr]
theorem Nn (s t:List UInt8) (hs:s.length≤9223372036854775807):S yg 2 [.s s, .s t]=some [.b (t.isSuffixOf s)]:=by refine Hx2 (N:=1) rfl ?_;simp (disch:=omega) only [Gs1,Ub,xe,EVP,EV,simprocAttr]
theorem bd (x y:List UInt8):S Wh 2 [.s x, .s y]=some [.i .i64 (Lib.compareBytes x y)]:=by refine Fp7 (N:=1) rfl ?_;simp (disch:=omega) only [Fd6,Et5,xe,EVP,EV,simprocAttr]
theorem bw (x y:List UInt8):S V6 2 [.s x, .s y]=some [.i .i64 (Lib.compareBytes x y)]:=by refine Hv0 (N:=1) rfl ?_;simp (disch:=omega) only [Gp9,bd,xe,EVP,EV,simprocAttr]
end Go.X.G
/- Names and their labels. -/
namespace Go.X.G
open Go Go.X
def flat (l:List (List UInt8)):List UInt8:=l.flatMap fun x=>x++[46]
def jn (l:List (List UInt8)):List UInt8:=if l=[] then [46] else flat l
def L5 (first:Bool):List (List UInt8)→Bool
 |[]=>true
 |p::r=>I3 p && (!decide (p=[42])||first) && L5 false r
theorem En4:M3 46=false:=by decide
theorem Aq2 {p:List UInt8} (h:I3 p=true):(46:UInt8)∉p:=by
 unfold I3 at h;simp at h;rcases h with rfl|⟨_,h⟩
 ·decide
 ·intro h2;have:=h 46 h2;rw [En4] at this;cases this
theorem W3 {p:List UInt8}:∀{f:Bool} {l:List (List UInt8)},L5 f l=true→p∈l→I3 p=true
 |f,q::r,h,hp=>by
  simp only [L5,Ax] at h;rcases Ap.1 hp with rfl|hp
  ·exact h.1.1
  ·exact W3 h.2 hp
theorem Sz:∀(m:List UInt8) (f:Bool) (cur:List UInt8),spl f cur (m++[46])=if L5 f (pcs cur m)=true then some (pcs cur m) else none
 |[],f,cur=>by simp only [C7,spl,if_true,pcs,L5,A0,Mb];by_cases h:I3 cur=true<;>by_cases h2:cur=[42]<;>cases f<;>simp [h,h2]
 |c::r,f,cur=>by
  simp only [B4,spl,pcs];by_cases hc:c=46
  ·simp only [if_pos hc];rw [Sz r false []];simp only [L5];by_cases h:I3 cur=true<;>by_cases h2:cur=[42]<;>cases f<;>by_cases h3:L5 false (pcs [] r)=true<;>simp [h,h2,h3]
  ·simp only [if_neg hc];exact Sz r f (cur++[c])
theorem S2 (b:List UInt8):∀(a cur:List UInt8),pcs cur (a++46::b)=pcs cur a++cut b
 |[],cur=>by simp [pcs,cut]
 |c::r,cur=>by
  simp only [B4,pcs];split
  ·rw [S2 b r []];rfl
  ·exact S2 b r _
theorem Oj:∀(m cur:List UInt8),flat (pcs cur m)=cur++m++[46]
 |[],cur=>by simp [pcs,flat]
 |c::r,cur=>by
  simp only [pcs];split
  ·rename_i h;have:=Oj r [];simp only [flat,b8] at this ⊢;rw [this,h];simp
  ·rw [Oj r (cur++[c])];simp
theorem Fs2 (cur m:List UInt8):pcs cur m≠[]:=by
 cases m with
 |nil=>simp [pcs]
 |cons c r=>
  simp only [pcs];split
  ·simp
  ·intro h;have:=Oj r (cur++[c]);rw [h] at this;simp [flat] at this
theorem gy:∀(l:List (List UInt8)),(∀p∈l,(46:UInt8)∉p)→cut (flat l)=l++[[]]
 |[],_=>rfl
 |p::l,h=>by
  have h1:flat (p::l)=p++46::flat l:=by simp [flat]
  rw [h1];show pcs [] _=_;rw [S2,Ss p [] (h p (by simp)),gy l (fun q hq=>h q (by simp [hq]))];simp
theorem Pm:∀(l:List (List UInt8)),l≠[]→∃m,flat l=m++[46]
 |[p],_=>⟨p,by simp [flat]⟩
 |p::q::r,_=>by obtain ⟨m,hm⟩:=Pm (q::r) (by simp);exact ⟨p++[46]++m,by simp only [flat,b8] at hm ⊢;rw [hm];simp⟩
theorem Cr6 {l:List (List UInt8)} (hl:l≠[]) (h:∀p∈l,(46:UInt8)∉p) {m:List UInt8} (hm:flat l=m++[46]):cut m=l:=by
 have h1:=gy l h;rw [hm] at h1;have h2:cut (m++[46])=cut m++[[]]:=by show pcs [] (m++46::[])=_;rw [S2];rfl
 rw [h2] at h1;exact List.append_cancel_right h1
theorem El2 {n:List UInt8} {l:List (List UInt8)} (h:nm n=some l):(n=[46]∧l=[])∨(l≠[]∧L5 true l=true∧n=flat l∧n.length≤254):=by
 unfold nm at h;split at h
 ·rename_i e;injection h with h;exact .inl ⟨e,h.symm⟩
 ·split at h
  ·rename_i h1;right;obtain ⟨h2,h3,h4⟩:=h1;obtain ⟨m,hm⟩:∃m,n=m++[46]:=by
    refine ⟨n.dropLast,?_⟩;have:n≠[]:=by intro e;simp [e] at h2
    have h5:=List.dropLast_concat_getLast this;rw [←h5];congr 1
    ·simp
    ·have h6:n[n.length - 1]? =some (n.getLast this):=by rw [Hf];exact Ay _
     rw [h6] at h4;injection h4 with h4;simp [h4]
   rw [hm,Sz] at h;split at h
   ·rename_i h5;injection h with h;subst h;refine ⟨Fs2 _ _,h5,?_,by omega⟩;rw [Oj,hm];simp
   ·cases h
  ·cases h
theorem Ec6 {n:List UInt8}:vld n=true↔nm n=some (lbl n):=by unfold vld lbl;cases nm n<;>simp
theorem vld_cases {n:List UInt8} (h:vld n=true):(n=[46]∧lbl n=[])∨(lbl n≠[]∧L5 true (lbl n)=true∧n=flat (lbl n)∧n.length≤254):=El2 (Ec6.1 h)
theorem Dj6 {n:List UInt8} (h:vld n=true):n=jn (lbl n):=by
 unfold jn;rcases vld_cases h with ⟨h1,h2⟩|⟨h1,_,h2,_⟩
 ·rw [h2,if_pos rfl];exact h1
 ·rw [if_neg h1];exact h2
theorem qd {n:List UInt8} (h:vld n=true):n.length≤254:=by
 rcases vld_cases h with ⟨h1,_⟩|⟨_,_,_,h⟩
 ·simp [h1]
 ·exact h
theorem Cm5:lbl [46]=[]:=rfl
theorem zf {a b:List UInt8} (ha:vld a=true) (hb:vld b=true) (h:lbl a=lbl b):a=b:=by rw [Dj6 ha,Dj6 hb,h]
end Go.X.G
/- Names: what the program's functions give. -/
namespace Go.X.G
open Go Go.X
def ord (s:List UInt8):Bool:=decide (1≤s.length) && decide (s.length≤63) && s.all M3
theorem Aq1 (s:List UInt8):I3 s=(decide (s=[42])||ord s):=rfl
theorem Cg5:ord [42]=false:=by decide
theorem Yr (s:List UInt8) (N:Nat) (hN:s.length<N) (hs:s.length≤9223372036854775807):
  Dw3.ev S N [.s s]=some (if s.all M3=true then .yld 0 [] else .ret [.b false]):=by
 refine E8 s (fun i=>[.i .i64 (i:Int)]) (fun i r=>if r.all M3=true then .yld 0 [] else .ret [.b false]) rfl hN (fun i c r hd hi hc=> ?_) ?_
 ·have key:Br6.ev S N ([.s s]++[.i .i64 (i:Int)])=some (if M3 c=true then .yld 1 [.i .i64 ((i:Int)+1)] else .ret [.b false]):=by
   simp (disch:=omega) only [p5,hc,xe,EVP,EV,simprocAttr];unfold M3
   grind
  rw [key];rcases Ad (M3 c) with h|h<;>simp [h,Out.goes]
 ·simp (disch:=omega) [p5,xe,EVP,EV,simprocAttr,Out.goes]
theorem Iy (s:List UInt8) (hs:s.length≤9223372036854775807):S yf 1 [.s s]=some [.b (ord s)]:=by
 refine Hx0 (N:=s.length+1) rfl ?_;unfold ord;by_cases h1:s=[]
 ·subst h1;simp (disch:=omega) [p5,xe,EVP,EV,simprocAttr]
 ·have h2:1≤s.length:=Bl.2 h1;by_cases h3:s.length≤63
  ·simp (disch:=omega) only [p5,Yr,h1,xe,EVP,EV,simprocAttr];cases s.all M3<;>simp [h2,h3]
  ·simp (disch:=omega) only [p5,h1,xe,EVP,EV,simprocAttr];simp [h3]
def okP (i:Nat) (p:List UInt8):Bool:=ord p||(decide (i=0) && decide (p=[42]))
def Ch5:Nat→List (List UInt8)→Bool
 |_,[]=>true
 |i,p::r=>okP i p && Ch5 (i+1) r
theorem V3:∀(l:List (List UInt8)) (i:Nat),Ch5 i l=L5 (decide (i=0)) l
 |[],_=>rfl
 |p::r,i=>by
  have h1:=V3 r (i+1);simp only [Ch5,L5,h1,okP,Aq1];by_cases h2:p=[42]
  ·subst h2;by_cases h3:i=0<;>simp [Cg5,h3]
  ·simp [h2]
theorem Bt2 (p q:PV) (l:List (List UInt8)) (hl:l.length≤1000000) (hw:∀x∈l,x.length≤9223372036854775807) (N:Nat) (hN:l.length<N):
  Dw6.ev S N [p,q,Bg l]=some (if Ch5 0 l=true then .yld 0 [] else .ret [.b false]):=by
 refine E8 l (fun i=>[.i .i64 (i:Int)]) (fun i r=>if Ch5 i r=true then .yld 0 [] else .ret [.b false]) rfl hN (fun i c r hd hi hc=> ?_) ?_
 ·have hcw:=hw c (A8 hc);have key:Bs0.ev S N ([p,q,Bg l]++[.i .i64 (i:Int)])=some (if okP i c=true then .yld 1 [.i .i64 ((i:Int)+1)] else .ret [.b false]):=by
   rcases Ad (ord c) with h1|h1
   ·simp (disch:=omega) only [Sk,Iy,hc,h1,xe,EVP,EV,simprocAttr];simp [okP,h1]
   ·by_cases h2:i=0
    ·subst h2;by_cases h3:c=[42]
     ·subst h3;simp (disch:=omega) only [Sk,Iy,hc,h1,xe,EVP,EV,simprocAttr];simp [okP]
     ·simp (disch:=omega) only [Sk,Iy,hc,h1,h3,xe,EVP,EV,simprocAttr];simp [okP,h1,h3]
    ·simp (disch:=omega) only [Sk,Iy,hc,h1,xe,EVP,EV,simprocAttr];simp [okP,h1,h2]
  rw [key];rcases Ad (okP i c) with h|h<;>simp [h,Ch5,Out.goes]
 ·simp (disch:=omega) only [Sk,xe,EVP,EV,simprocAttr];simp [Out.goes,Ch5]
theorem S1:∀(m cur:List UInt8) (x:List UInt8),x∈pcs cur m→x.length≤cur.length+m.length
 |[],cur,x,h=>by simp [pcs] at h;subst h;simp
 |c::r,cur,x,h=>by
  simp only [pcs] at h;split at h
  ·rcases Ap.1 h with rfl|h
   ·omega
   ·have:=S1 r [] x h;simp at this ⊢;omega
  ·have:=S1 r _ x h;simp at this ⊢;omega
theorem Cr7 (m x:List UInt8) (h:x∈cut m):x.length≤m.length:=by simpa using S1 m [] x h
theorem Gb4 (m:List UInt8):(cut m).length≤m.length+1:=by have:=Aw9 m;have:m.count 46≤m.length:=List.count_le_length;omega
theorem qp (n:List UInt8):([46]:List UInt8).isSuffixOf n=true↔∃m,n=m++[46]:=by rw [List.isSuffixOf_iff_suffix];exact ⟨fun ⟨m,h⟩=>⟨m,h.symm⟩,fun ⟨m,h⟩=>⟨m,h.symm⟩⟩
theorem Ck7 (m:List UInt8) (hm:m≠[]) (hl:m.length≤253):vld (m++[46])=Ch5 0 (cut m):=by have h1:m++[46]≠[46]:=fun e=>hm (List.append_cancel_right (bs:=[46]) (by simpa using e));have h2:0<m.length:=Bl.2 hm;unfold vld nm;rw [if_neg h1,if_pos ⟨by simp;omega,by simp;omega,by simp⟩,Sz,V3];have e:pcs [] m=cut m:=rfl;have e2:L5 (decide ((0:Nat)=0)) (cut m)=L5 true (cut m):=rfl;rw [e,e2];cases L5 true (cut m)<;>rfl
theorem Cm4 (m:List UInt8) (h:vld (m++[46])=true) (hm:m≠[]):lbl (m++[46])=cut m:=by
 rcases vld_cases h with ⟨h1,_⟩|⟨h1,h2,h3,_⟩
 ·exact absurd (List.append_cancel_right (bs:=[46]) (by simpa using h1)) hm
 ·exact (Cr6 h1 (fun p hp=>Aq2 (W3 h2 hp)) h3.symm).symm
theorem B9 (n:List UInt8) (hn:n.length≤9223372036854775807):S Qg 1 [.s n]=some [.b (vld n)]:=by
 refine Hy8 (N:=300) rfl ?_;by_cases h0:n=[46]
 ·subst h0;simp (disch:=omega) only [Sk,xe,EVP,EV,simprocAttr];rfl
 ·by_cases h1:255≤n.length
  ·have hv:vld n=false:=by rw [Bool.eq_false_iff];intro h;have:=qd h;omega
   simp (disch:=omega) only [Sk,h0,hv,xe,EVP,EV,simprocAttr]
  ·rcases Ad (([46]:List UInt8).isSuffixOf n) with h2|h2
   ·obtain ⟨m,rfl⟩:=(qp n).1 h2;have hm:m≠[]:=fun e=>h0 (by simp [e]);have hl:(m++[46]).length=m.length+1:=by simp
    have hml:m.length≤1000000:=by omega
    have e:List.drop 0 (List.take (((m++[46]).length:Int) - 1).toNat (m++[46]))=m:=by
     have:(((m++[46]).length:Int) - 1).toNat=m.length:=by omega
     rw [this];simp
    have hc:=Gb4 m;have hv:=Ck7 m hm (by omega);have hk:=Bt2 (.s (m++[46])) (.b true) (cut m) (by omega) (fun x hx=>by have:=Cr7 m x hx;omega) 300 (by omega);simp (disch:=omega) only [Sk,Nn,Xh,e,hk,h0,h2,xe,EVP,EV,simprocAttr];rw [hv];cases Ch5 0 (cut m)<;>simp
   ·have hv:vld n=false:=by
     rw [Bool.eq_false_iff];intro h;rcases vld_cases h with ⟨h3,_⟩|⟨h3,_,h5,_⟩
     ·exact h0 h3
     ·obtain ⟨m,hm⟩:=Pm _ h3;have:=(qp n).2 ⟨m,h5.trans hm⟩;rw [h2] at this;cases this
    simp (disch:=omega) only [Sk,Nn,h0,h2,hv,xe,EVP,EV,simprocAttr]
theorem Nj (n:List UInt8) (hn:n.length≤9223372036854775807):S Y2 1 [.s n]=some [Bg (lbl n)]:=by
 refine Hq9 (N:=1) rfl ?_;by_cases h0:n=[46]
 ·subst h0;simp (disch:=omega) only [Eb8,Cm5,xe,EVP,EV,simprocAttr]
 ·rcases Ad (vld n) with h1|h1
  ·obtain ⟨m,hm,rfl⟩:∃m,m≠[]∧n=m++[46]:=by
    rcases vld_cases h1 with ⟨h3,_⟩|⟨h3,_,h5,_⟩
    ·exact absurd h3 h0
    ·obtain ⟨m,hm⟩:=Pm _ h3;exact ⟨m,fun e=>h0 (by rw [h5,hm,e];rfl),h5.trans hm⟩
   have hl:(m++[46]).length=m.length+1:=by simp
   have e:List.drop 0 (List.take (((m++[46]).length:Int) - 1).toNat (m++[46]))=m:=by
    have:(((m++[46]).length:Int) - 1).toNat=m.length:=by omega
    rw [this];simp
   have hl2:=qd h1;have e2:=Cm4 m h1 hm;simp (disch:=omega) only [Eb8,B9,Xh,e,e2,h0,h1,xe,EVP,EV,simprocAttr]
  ·have e:lbl n=[]:=by
    unfold lbl;unfold vld at h1;cases h:nm n with
    |none=>rfl
    |some l=>rw [h] at h1;cases h1
   simp (disch:=omega) only [Eb8,B9,h0,h1,e,xe,EVP,EV,simprocAttr]
end Go.X.G
/- Names: order, common ancestors, wildcards. -/
namespace Go.X.G
open Go Go.X
theorem Nh:∀(a:List UInt8),Op.bytesLess a a=false
 |[]=>rfl
 |a::x=>by simp [Op.bytesLess,Nh x]
theorem Jg:∀(a b:List UInt8),Lib.compareBytes a b=cmpS a b
 |[],[]=>rfl
 |[],_::_=>rfl
 |_::_,[]=>rfl
 |a::x,b::y=>by
  have ih:=Jg x y;unfold cmpS at ih ⊢;simp only [Lib.compareBytes,Op.bytesLess,ih];by_cases h1:a<b
  ·simp [h1]
  ·by_cases h2:b<a
   ·have h3:a≠b:=fun e=>by subst e;exact h1 h2
    simp [h1,h2,h3]
   ·have h3:a=b:=UInt8.le_antisymm (UInt8.not_lt.1 h2) (UInt8.not_lt.1 h1);subst h3;simp [h1]
theorem Ij {a b:List UInt8}:cmpS a b=0↔a=b:=by
 unfold cmpS;by_cases h:a=b
 ·subst h;simp [Nh]
 ·cases h2:Op.bytesLess a b<;>simp [h]
theorem Im (x y:List UInt8):S V6 2 [.s x, .s y]=some [.i .i64 (cmpS x y)]:=by rw [bw,Jg]
def Qx:List (List UInt8)→List (List UInt8)→Option Int
 |x::xs,y::ys=>if x=y then Qx xs ys else some (cmpS x y)
 |_,_=>none
theorem Ax4:∀(a b:List (List UInt8)),Qx a b=if Tt a b<a.length∧Tt a b<b.length then some (cmpS (a.getD (Tt a b) []) (b.getD (Tt a b) [])) else none
 |[],b=>by simp [Qx,Tt]
 |x::xs,[]=>by simp [Qx,Tt]
 |x::xs,y::ys=>by
  have ih:=Ax4 xs ys;simp only [Qx,Tt];by_cases h:x=y
  ·simp only [if_pos h,ih];simp
  ·simp [h]
def oc (a b:List (List UInt8)):Int:=match Qx a.reverse b.reverse with
 |some c=>c
 |none=>if a.length<b.length then -1 else if b.length<a.length then 1 else 0
theorem f8 (a:List (List UInt8)) (k:Nat) (h:k<a.length):a.reverse.getD k []=a.getD (a.length - 1 - k) []:=by simp [Bb,List.getElem?_reverse h]
theorem T2 {a b:List UInt8} (ha:vld a=true) (hb:vld b=true):H8 a b=oc (lbl a) (lbl b):=by
 unfold H8 oc;rw [Ax4];have e:Tt (lbl a).reverse (lbl b).reverse=Ix (lbl a) (lbl b):=rfl;rw [e,ha,hb];simp only [List.length_reverse,Bool.and_self,if_true];by_cases h:Ix (lbl a) (lbl b)<(lbl a).length∧Ix (lbl a) (lbl b)<(lbl b).length
 ·rw [if_pos h,if_pos h,f8 _ _ h.1,f8 _ _ h.2]
 ·rw [if_neg h,if_neg h]
theorem bc (a b:List (List UInt8)) (p1 p2 p3 p4:PV) (ha:a.length≤1000) (hb:b.length≤1000) (N:Nat) (hN:1001<N):
  Aj5.ev S N [p1,p2,p3,p4,Bg a,Bg b]=some (match Qx a.reverse b.reverse with|some c=> .ret [.i .i64 c]|none=> .yld 0 []):=by
 have key:=Hq (fn:=S) (N:=N) (η:=[p1,p2,p3,p4,Bg a,Bg b]) (id:=1) (init:=[(.c (.i .i64 (1)))]) (body:=Br9) (α:=Nat) (fun k=>[.i .i64 ((k:Int)+1)])
  (fun k=>match Qx (a.reverse.drop k) (b.reverse.drop k) with|some c=> .ret [.i .i64 c]|none=> .yld 0 []) (fun k=>k≤a.length∧k≤b.length) (fun k=>a.length - k) 0 rfl ⟨C0 _,C0 _⟩ (by omega) ?_
 ·simpa [Aj5] using key
 ·rintro k ⟨h1,h2⟩;by_cases h3:k<a.length
  ·by_cases h4:k<b.length
   ·have e1:((a.length:Int) - ((k:Int)+1)).toNat=a.length - 1 - k:=by omega
    have e2:((b.length:Int) - ((k:Int)+1)).toNat=b.length - 1 - k:=by omega
    have g1:a[a.length - 1 - k]? =some (a[a.length - 1 - k]'(by omega)):=Ay (by omega);have g2:b[b.length - 1 - k]? =some (b[b.length - 1 - k]'(by omega)):=Ay (by omega);have d1:a.reverse.drop k=(a[a.length - 1 - k]'(by omega))::a.reverse.drop (k+1):=by rw [C1 (by simpa using h3)];simp
    have d2:b.reverse.drop k=(b[b.length - 1 - k]'(by omega))::b.reverse.drop (k+1):=by rw [C1 (by simpa using h4)];simp
    rw [d1,d2];generalize (a[a.length - 1 - k]'(by omega))=x at g1;generalize (b[b.length - 1 - k]'(by omega))=y at g2;simp only [Qx];by_cases h:x=y
    ·left;have h5:cmpS x y=0:=Ij.2 h;refine ⟨k+1,?_,⟨by omega,by omega⟩,by omega,by rw [if_pos h]⟩;simp (disch:=omega) only [X9,Im,e1,e2,g1,g2,h5,xe,EVP,EV,simprocAttr]
    ·right;have h5:¬cmpS x y=0:=fun e=>h (Ij.1 e);rw [if_neg h];simp (disch:=omega) only [X9,Im,e1,e2,g1,g2,h5,xe,EVP,EV,simprocAttr];simp [Out.goes]
   ·right;have d2:b.reverse.drop k=[]:=Er (by simp;omega);have z:Qx (a.reverse.drop k) []=none:=by cases a.reverse.drop k<;>rfl
    rw [d2,z];simp (disch:=omega) [X9,xe,EVP,EV,simprocAttr,Out.goes]
  ·right;have d1:a.reverse.drop k=[]:=Er (by simp;omega);have z:Qx [] (b.reverse.drop k)=none:=rfl;rw [d1,z];simp (disch:=omega) [X9,xe,EVP,EV,simprocAttr,Out.goes]
theorem Qq (a b:List UInt8) (hn:a.length≤9223372036854775807) (ht:b.length≤9223372036854775807):S O9 2 [.s a, .s b]=some [.i .i64 (H8 a b)]:=by
 refine Hx9 (N:=1002) rfl ?_;have h1:=Jx a;have h2:=Jx b;rcases Ad (vld a) with h3|h3<;>rcases Ad (vld b) with h4|h4
 ·rw [T2 h3 h4];unfold oc;have hk:=bc (lbl a) (lbl b) (.s a) (.s b) (.b true) (.b true) (by omega) (by omega) 1002 (by omega);cases h5:Qx (lbl a).reverse (lbl b).reverse with
  |some c=>
   rw [h5] at hk;simp (disch:=omega) only [X9,B9,Nj,hk,h3,h4,xe,EVP,EV,simprocAttr]
  |none=>
   rw [h5] at hk;simp (disch:=omega) only [X9,B9,Nj,hk,h3,h4,xe,EVP,EV,simprocAttr]
   grind
 all_goals unfold H8
 all_goals simp (disch:=omega) only [X9,B9,Im,h3,h4,xe,EVP,EV,simprocAttr]
 all_goals simp
end Go.X.G
/- The canonical order of names is a total order. -/
namespace Go.X.G
open Go Go.X
structure TO {α:Type} (lt:α→α→Prop):Prop where
 irr:∀a,¬lt a a
 tr:∀a b c,lt a b→lt b c→lt a c
 tri:∀a b,lt a b∨a=b∨lt b a
theorem TO.asym {α:Type} {lt:α→α→Prop} (h:TO lt) {a b:α} (h1:lt a b):¬lt b a:=fun h2=>h.irr a (h.tr _ _ _ h1 h2)
theorem TO.ntr {α:Type} {lt:α→α→Prop} (h:TO lt) {a b c:α} (h1:¬lt a b) (h2:¬lt b c):¬lt a c:=by
 intro h3;rcases h.tri b a with h4|h4|h4
 ·exact h2 (h.tr _ _ _ h4 h3)
 ·subst h4;exact h2 h3
 ·exact h1 h4
def lex {α:Type} (lt:α→α→Prop):List α→List α→Prop
 |[],[]=>False
 |[],_::_=>True
 |_::_,[]=>False
 |a::x,b::y=>lt a b∨(a=b∧lex lt x y)
theorem zd {α:Type} {lt:α→α→Prop} (h:TO lt):∀x:List α,¬lex lt x x
 |[]=>by simp [lex]
 |a::x=>by simp only [lex,true_and,not_or];exact ⟨h.irr a,zd h x⟩
theorem Dv1 {α:Type} {lt:α→α→Prop} (h:TO lt):∀x y z:List α,lex lt x y→lex lt y z→lex lt x z
 |[],[],_,h1,_=>by simp [lex] at h1
 |[],_::_,[],_,h2=>by simp [lex] at h2
 |[],_::_,_::_,_,_=>by simp [lex]
 |_::_,[],_,h1,_=>by simp [lex] at h1
 |_::_,_::_,[],_,h2=>by simp [lex] at h2
 |a::x,b::y,c::z,h1,h2=>by
  simp only [lex] at h1 h2 ⊢;rcases h1 with h1|⟨rfl,h1⟩
  ·rcases h2 with h2|⟨rfl,h2⟩
   ·exact .inl (h.tr _ _ _ h1 h2)
   ·exact .inl h1
  ·rcases h2 with h2|⟨rfl,h2⟩
   ·exact .inl h2
   ·exact .inr ⟨rfl,Dv1 h x y z h1 h2⟩
theorem lex_tri {α:Type} {lt:α→α→Prop} (h:TO lt):∀x y:List α,lex lt x y∨x=y∨lex lt y x
 |[],[]=> .inr (.inl rfl)
 |[],_::_=> .inl (by simp [lex])
 |_::_,[]=> .inr (.inr (by simp [lex]))
 |a::x,b::y=>by
  simp only [lex];rcases h.tri a b with h1|rfl|h1
  ·exact .inl (.inl h1)
  ·rcases lex_tri h x y with h2|rfl|h2
   ·exact .inl (.inr ⟨rfl,h2⟩)
   ·exact .inr (.inl rfl)
   ·exact .inr (.inr (.inr ⟨rfl,h2⟩))
  ·exact .inr (.inr (.inl h1))
theorem TO.lex {α:Type} {lt:α→α→Prop} (h:TO lt):TO (G.lex lt):=⟨zd h,Dv1 h,lex_tri h⟩
theorem Hj5:TO (fun a b:UInt8=>a<b):=⟨fun a=>UInt8.lt_irrefl a,fun a b c h1 h2=>UInt8.lt_trans h1 h2,fun a b=>by
 rcases UInt8.lt_or_le a b with h|h
 ·exact .inl h
 ·rcases UInt8.lt_or_le b a with h2|h2
  ·exact .inr (.inr h2)
  ·exact .inr (.inl (UInt8.le_antisymm h2 h))⟩
abbrev ltB:List UInt8→List UInt8→Prop:=lex fun a b:UInt8=>a<b
theorem Dj7:TO ltB:=Hj5.lex
theorem Xb:∀a b:List UInt8,Op.bytesLess a b=true↔ltB a b
 |[],[]=>by simp [Op.bytesLess,lex]
 |[],_::_=>by simp [Op.bytesLess,lex]
 |_::_,[]=>by simp [Op.bytesLess,lex]
 |a::x,b::y=>by have ih:=Xb x y;simp only [Op.bytesLess,Ar,decide_eq_true_eq,Ax,beq_iff_eq,lex];rw [ih]
theorem T1 (a b:List UInt8):cmpS a b<0↔ltB a b:=by
 rw [←Xb];unfold cmpS;cases h:Op.bytesLess a b
 ·simp only [Ac,if_false,iff_false];split<;>omega
 ·simp
abbrev ltL:List (List UInt8)→List (List UInt8)→Prop:=lex ltB
theorem to_L:TO ltL:=Dj7.lex
def od (a b:List (List UInt8)):Int:=match Qx a b with
 |some c=>c
 |none=>if a.length<b.length then -1 else if b.length<a.length then 1 else 0
theorem gr:∀a b:List (List UInt8),od a b<0↔ltL a b
 |[],[]=>by simp [od,Qx,lex]
 |[],_::_=>by simp [od,Qx,lex]
 |_::_,[]=>by simp [od,Qx,lex]
 |x::xs,y::ys=>by
  have ih:=gr xs ys;simp only [od,Qx,lex] at ih ⊢;by_cases h:x=y
  ·subst h;rw [if_pos rfl];simp only [Bw,Nat.add_lt_add_iff_right,true_and];rw [ih];constructor
   ·exact fun h=> .inr h
   ·rintro (h|h)
    ·exact absurd h (Dj7.irr x)
    ·exact h
  ·rw [if_neg h];simp only;rw [T1];simp [h]
theorem Z6 (a b:List (List UInt8)):oc a b=od a.reverse b.reverse:=by unfold oc od;cases Qx a.reverse b.reverse<;>simp
theorem Ax3 (a b:List (List UInt8)):oc a b<0↔ltL a.reverse b.reverse:=by rw [←gr,Z6]
def ltN (a b:List UInt8):Prop:=if vld a=true then (if vld b=true then ltL (lbl a).reverse (lbl b).reverse else True) else (if vld b=true then False else ltB a b)
theorem Ex (a b:List UInt8):H8 a b<0↔ltN a b:=by
 unfold ltN;rcases Ad (vld a) with ha|ha
 ·rcases Ad (vld b) with hb|hb
  ·rw [T2 ha hb,Ax3,if_pos ha,if_pos hb]
  ·unfold H8;simp [ha,hb]
 ·rcases Ad (vld b) with hb|hb
  ·unfold H8;simp [ha,hb]
  ·have e:H8 a b=cmpS a b:=by unfold H8;simp [ha,hb]
   rw [e,T1];simp [ha,hb]
theorem to_N:TO ltN:=by
 refine ⟨fun a h=> ?_,fun a b c h1 h2=> ?_,fun a b=> ?_⟩
 ·unfold ltN at h;split at h
  ·exact to_L.irr _ h
  ·exact Dj7.irr _ h
 ·unfold ltN at*;rcases Ad (vld a) with ha|ha<;>rcases Ad (vld b) with hb|hb<;>rcases Ad (vld c) with hc|hc<;>
   simp only [ha,hb,hc,if_true,Ac,if_false] at h1 h2 ⊢
  ·exact to_L.tr _ _ _ h1 h2
  ·exact Dj7.tr _ _ _ h1 h2
 ·unfold ltN;rcases Ad (vld a) with ha|ha<;>rcases Ad (vld b) with hb|hb<;>simp only [ha,hb,if_true,Ac,if_false]
  ·rcases to_L.tri (lbl a).reverse (lbl b).reverse with h|h|h
   ·exact .inl h
   ·exact .inr (.inl (zf ha hb (List.reverse_inj.1 h)))
   ·exact .inr (.inr h)
  ·simp
  ·simp
  ·exact Dj7.tri a b
theorem Mk {a b:List UInt8}:H8 a b=0↔a=b:=by
 constructor
 ·intro h;rcases Ad (vld a) with ha|ha
  ·rcases Ad (vld b) with hb|hb
   ·rw [T2 ha hb] at h;have key:∀x y:List (List UInt8),od x y=0→x=y:=by
     intro x
     induction x with
     |nil=>intro y hy;cases y with
      |nil=>rfl
      |cons=>simp [od,Qx] at hy
     |cons x xs ih=>intro y hy;cases y with
      |nil=>simp [od,Qx] at hy
      |cons y ys=>
       simp only [od,Qx] at hy ih;by_cases e:x=y
       ·subst e;rw [if_pos rfl] at hy;simp only [Bw,Nat.add_lt_add_iff_right] at hy;rw [ih ys hy]
       ·rw [if_neg e] at hy;exact absurd (Ij.1 hy) e
    rw [Z6] at h;exact zf ha hb (List.reverse_inj.1 (key _ _ h))
   ·unfold H8 at h;simp [ha,hb] at h
  ·rcases Ad (vld b) with hb|hb
   ·unfold H8 at h;simp [ha,hb] at h
   ·have e:H8 a b=cmpS a b:=by unfold H8;simp [ha,hb]
    rw [e] at h;exact Ij.1 h
 ·rintro rfl;have h1:=Ex a a;have h2:¬H8 a a<0:=fun h=>to_N.irr a (h1.1 h);have key:∀x:List (List UInt8),od x x=0:=by
   intro x
   induction x with
   |nil=>rfl
   |cons x xs ih=>
    simp only [od,Qx] at ih ⊢;simp only [if_true,Bw,Nat.add_lt_add_iff_right];exact ih
  rcases Ad (vld a) with ha|ha
  ·rw [T2 ha ha];rw [Z6];exact key _
  ·have e:H8 a a=cmpS a a:=by unfold H8;simp [ha]
   rw [e];exact Ij.2 rfl
end Go.X.G
/- Stable sorting, in plain words: what is sorted and keeps the order of what is alike is one list alone. -/
namespace Go.X.G
open Go Go.X
structure TP {α:Type} (le:α→α→Bool):Prop where
 tr:∀a b c,le a b=true→le b c=true→le a c=true
 tot:∀a b,le a b=true∨le b a=true
theorem TP.refl {α:Type} {le:α→α→Bool} (h:TP le) (a:α):le a a=true:=by rcases h.tot a a with q|q<;>exact q
def eqv {α:Type} (le:α→α→Bool) (a b:α):Bool:=le a b && le b a
structure Stab {α:Type} (le:α→α→Bool) (r l:List α):Prop where
 sorted:r.Pairwise fun a b=>le a b=true
 cls:∀x,r.filter (eqv le x)=l.filter (eqv le x)
theorem Stab.mem {α:Type} {le:α→α→Bool} (ht:TP le) {r l:List α} (h:Stab le r l) (x:α):x∈r↔x∈l:=by
 have e:eqv le x x=true:=by unfold eqv;rw [ht.refl];rfl
 have h1:x∈r↔x∈r.filter (eqv le x):=by rw [Fj];simp [e]
 have h2:x∈l↔x∈l.filter (eqv le x):=by rw [Fj];simp [e]
 rw [h1,h.cls,←h2]
theorem d3 {α:Type} {le:α→α→Bool} (ht:TP le):∀(r s:List α),(r.Pairwise fun a b=>le a b=true)→(s.Pairwise fun a b=>le a b=true)→(∀x,r.filter (eqv le x)=s.filter (eqv le x))→r=s
 |[],s,_,_,h=>by
  cases s with
  |nil=>rfl
  |cons y t=>
   have:=h y;rw [List.filter_nil,Ev (by unfold eqv;rw [ht.refl];rfl)] at this;cases this
 |x::r,[],_,_,h=>by have:=h x;rw [List.filter_nil,Ev (by unfold eqv;rw [ht.refl];rfl)] at this;cases this
 |x::r,y::s,hr,hs,h=>by
  obtain ⟨r1,r2⟩:=Bv.1 hr;obtain ⟨s1,s2⟩:=Bv.1 hs;have hmem:∀z,z∈x::r↔z∈y::s:=fun z=>by
   have e:eqv le z z=true:=by unfold eqv;rw [ht.refl];rfl
   have a1:z∈x::r↔z∈(x::r).filter (eqv le z):=by rw [Fj];simp [e]
   have a2:z∈y::s↔z∈(y::s).filter (eqv le z):=by rw [Fj];simp [e]
   rw [a1,h,←a2]
  have hxy:le x y=true:=by
   rcases Ap.1 ((hmem y).2 (.head _)) with q|q
   ·rw [q];exact ht.refl x
   ·exact r1 y q
  have hyx:le y x=true:=by
   rcases Ap.1 ((hmem x).1 (.head _)) with q|q
   ·rw [q];exact ht.refl y
   ·exact s1 x q
  have e:x=y:=by have:=h x;rw [Ev (by unfold eqv;rw [ht.refl];rfl),Ev (by unfold eqv;rw [hxy,hyx];rfl)] at this;injection this
  subst e;have:r=s:=d3 ht r s r2 s2 fun z=>by
   have:=h z;simp only [Ow] at this;split at this
   ·injection this
   ·exact this
  rw [this]
theorem Stab.one {α:Type} {le:α→α→Bool} (ht:TP le) {r s l:List α} (h1:Stab le r l) (h2:Stab le s l):r=s:=
 d3 ht r s h1.sorted h2.sorted fun x=>by rw [h1.cls,h2.cls]
def mrg {α:Type} (le:α→α→Bool):List α→List α→List α
 |[],b=>b
 |x::a,[]=>x::a
 |x::a,y::b=>if le x y=true then x::mrg le a (y::b) else y::mrg le (x::a) b
termination_by a b=>a.length+b.length
theorem Jv {α:Type} (le:α→α→Bool) (a:List α):mrg le a []=a:=by cases a<;>simp [mrg]
theorem mrg_mem {α:Type} (le:α→α→Bool) (z:α):∀(a b:List α),z∈mrg le a b↔z∈a∨z∈b
 |[],b=>by simp [mrg]
 |x::a,[]=>by simp [mrg]
 |x::a,y::b=>by
  unfold mrg;split
  ·rw [Ap,mrg_mem le z a (y::b)];simp only [Ap];grind
  ·rw [Ap,mrg_mem le z (x::a) b];simp only [Ap];grind
termination_by a b=>a.length+b.length
theorem M1 {α:Type} {le:α→α→Bool} (ht:TP le):∀(a b:List α),(a.Pairwise fun x y=>le x y=true)→(b.Pairwise fun x y=>le x y=true)→(mrg le a b).Pairwise fun x y=>le x y=true
 |[],b,_,hb=>by simpa [mrg] using hb
 |x::a,[],ha,_=>by simpa [mrg] using ha
 |x::a,y::b,ha,hb=>by
  obtain ⟨a1,a2⟩:=Bv.1 ha;obtain ⟨b1,b2⟩:=Bv.1 hb;unfold mrg;split
  ·rename_i h;refine Bv.2 ⟨fun z hz=> ?_,M1 ht a (y::b) a2 hb⟩;rcases (mrg_mem le z a (y::b)).1 hz with hz|hz
   ·exact a1 z hz
   ·rcases Ap.1 hz with rfl|hz
    ·exact h
    ·exact ht.tr _ _ _ h (b1 z hz)
  ·rename_i h;have h':le y x=true:=(ht.tot x y).resolve_left h;refine Bv.2 ⟨fun z hz=> ?_,M1 ht (x::a) b ha b2⟩;rcases (mrg_mem le z (x::a) b).1 hz with hz|hz
   ·rcases Ap.1 hz with rfl|hz
    ·exact h'
    ·exact ht.tr _ _ _ h' (a1 z hz)
   ·exact b1 z hz
termination_by a b=>a.length+b.length
theorem Y8 {α:Type} {le:α→α→Bool} (ht:TP le) (z:α):∀(a b:List α),(a.Pairwise fun x y=>le x y=true)→(mrg le a b).filter (eqv le z)=a.filter (eqv le z)++b.filter (eqv le z)
 |[],b,_=>by simp [mrg]
 |x::a,[],_=>by simp [mrg]
 |x::a,y::b,ha=>by
  obtain ⟨a1,a2⟩:=Bv.1 ha;unfold mrg;split
  ·simp only [Ow];rw [Y8 ht z a (y::b) a2];simp only [Ow];split<;>simp
  ·rename_i h;rw [Ow,Y8 ht z (x::a) b ha];by_cases hy:eqv le z y=true
   ·-- then nothing of the first list is like z
    have hno:(x::a).filter (eqv le z)=[]:=by
     rw [R5];intro w hw hzw;unfold eqv at hy hzw;simp only [Ax] at hy hzw;have hxw:le x w=true:=by
      rcases Ap.1 hw with rfl|hw
      ·exact ht.refl _
      ·exact a1 w hw
     exact h (ht.tr _ _ _ hxw (ht.tr _ _ _ hzw.2 hy.1))
    rw [hno,Ev hy,if_pos hy];rfl
   ·rw [if_neg hy,List.filter_cons_of_neg hy]
termination_by a b=>a.length+b.length
theorem Stab.mrg {α:Type} {le:α→α→Bool} (ht:TP le) {r s l m:List α} (h1:Stab le r l) (h2:Stab le s m):Stab le (mrg le r s) (l++m):=
 ⟨M1 ht r s h1.sorted h2.sorted,fun x=>by rw [Y8 ht x r s h1.sorted,h1.cls,h2.cls,I4]⟩
theorem Jq {α:Type} (le:α→α→Bool) (a2 b2:List α):∀(a1 b1:List α),(∀x∈a1,∀y∈b2,le x y=true)→(∀x∈a2,∀y∈b1,le x y=false)→mrg le (a1++a2) (b1++b2)=mrg le a1 b1++mrg le a2 b2
 |[],[],_,_=>by simp [mrg]
 |x::a1,[],h1,h2=>by
  rw [Jv,C7];have ih:=Jq le a2 b2 a1 [] (fun w hw=>h1 w (.tail _ hw)) h2;rw [Jv,C7] at ih;cases b2 with
  |nil=>rw [Jv,Jv]
  |cons y b=>
   rw [B4];have e:mrg le (x::(a1++a2)) (y::b)=x::mrg le (a1++a2) (y::b):=by
    conv=>lhs;unfold mrg
    rw [if_pos (h1 x (.head _) y (.head _))]
   rw [e,ih,B4]
 |[],y::b1,h1,h2=>by
  have ih:=Jq le a2 b2 [] b1 h1 (fun x hx w hw=>h2 x hx w (.tail _ hw));cases a2 with
  |nil=>simp [mrg]
  |cons x a=>
   rw [C7] at ih ⊢;rw [B4];have e:mrg le (x::a) (y::(b1++b2))=y::mrg le (x::a) (b1++b2):=by
    conv=>lhs;unfold mrg
    rw [if_neg (by rw [h2 x (.head _) y (.head _)];simp)]
   rw [e,ih];simp [mrg]
 |x::a1,y::b1,h1,h2=>by
  rw [B4,B4];by_cases h:le x y=true
  ·have ih:=Jq le a2 b2 a1 (y::b1) (fun w hw=>h1 w (.tail _ hw)) h2;have e1:mrg le (x::(a1++a2)) (y::(b1++b2))=x::mrg le (a1++a2) (y::(b1++b2)):=by
    conv=>lhs;unfold mrg
    rw [if_pos h]
   have e2:mrg le (x::a1) (y::b1)=x::mrg le a1 (y::b1):=by
    conv=>lhs;unfold mrg
    rw [if_pos h]
   rw [e1,e2,B4,←ih];rfl
  ·have ih:=Jq le a2 b2 (x::a1) b1 h1 (fun w hw v hv=>h2 w hw v (.tail _ hv));have e1:mrg le (x::(a1++a2)) (y::(b1++b2))=y::mrg le (x::(a1++a2)) (b1++b2):=by
    conv=>lhs;unfold mrg
    rw [if_neg h]
   have e2:mrg le (x::a1) (y::b1)=y::mrg le (x::a1) b1:=by
    conv=>lhs;unfold mrg
    rw [if_neg h]
   rw [e1,e2,B4,←ih];rfl
termination_by a1 b1=>a1.length+b1.length
end Go.X.G
/- Sorted lists of names, each once. -/
namespace Go.X.G
open Go Go.X
def N1 {α:Type} (e:α→α→Bool):α→List α→List α
 |_,[]=>[]
 |p,c::r=>if e c p=true then N1 e c r else c::N1 e c r
def cpt {α:Type} (e:α→α→Bool):List α→List α
 |[]=>[]
 |x::r=>x::N1 e x r
theorem Xy {α:Type} (e:α→α→Bool) (c:α):∀(r:List α) (p:α),N1 e p (r++[c])=N1 e p r++(if e c ((p::r).getLast (by simp))=true then [] else [c])
 |[],p=>by simp only [C7,N1,List.getLast_singleton];rfl
 |x::r,p=>by
  have ih:=Xy e c r x;simp only [B4,N1,List.getLast_cons_cons];split
  ·exact ih
  ·rw [ih];rfl
theorem Kk {α:Type} (e:α→α→Bool) (c:α) (l:List α) (h:l≠[]):cpt e (l++[c])=cpt e l++(if e c (l.getLast h)=true then [] else [c]):=by
 cases l with
 |nil=>exact absurd rfl h
 |cons x r=>
  show x::N1 e x (r++[c])=_;rw [Xy];rfl
theorem gz {α:Type} (e:α→α→Bool):∀(r:List α) (p:α),(N1 e p r).length≤r.length
 |[],_=>by simp [N1]
 |c::r,p=>by have:=gz e r c;simp only [N1];split<;>simp<;>omega
theorem Z5 {α:Type} (e:α→α→Bool) (l:List α):(cpt e l).length≤l.length:=by
 cases l with
 |nil=>simp [cpt]
 |cons x r=>have:=gz e r x;simp [cpt];exact this
theorem Ts {α:Type} (e:α→α→Bool):∀(r:List α) (p:α),∀x∈N1 e p r,x∈r
 |[],_,x,h=>by simp [N1] at h
 |c::r,p,x,h=>by
  simp only [N1] at h;split at h
  ·exact .tail _ (Ts e r c x h)
  ·rcases Ap.1 h with rfl|h
   ·exact .head _
   ·exact .tail _ (Ts e r c x h)
theorem Et2 {α:Type} (e:α→α→Bool) (l:List α):∀x∈cpt e l,x∈l:=by
 cases l with
 |nil=>intro x h;simp [cpt] at h
 |cons y r=>
  intro x h;rcases Ap.1 (show x∈y::N1 e y r from h) with rfl|h
  ·exact .head _
  ·exact .tail _ (Ts e r y x h)
abbrev eqs {α:Type} [DecidableEq α]:α→α→Bool:=fun a b=>decide (a=b)
theorem cptG_mem {α:Type} [DecidableEq α]:∀(r:List α) (p x:α),x∈r→x=p∨x∈N1 eqs p r
 |[],_,x,h=>by simp at h
 |c::r,p,x,h=>by
  simp only [N1];by_cases hc:c=p
  ·subst hc;rw [if_pos (by simp [eqs])];rcases Ap.1 h with rfl|h
   ·exact .inl rfl
   ·exact cptG_mem r c x h
  ·rw [if_neg (by simp [eqs,hc])];right;rcases Ap.1 h with rfl|h
   ·exact .head _
   ·rcases cptG_mem r c x h with rfl|h
    ·exact .head _
    ·exact .tail _ h
theorem Et3 {α:Type} [DecidableEq α] (l:List α) (x:α):x∈cpt eqs l↔x∈l:=by
 refine ⟨Et2 _ l x,fun h=> ?_⟩;cases l with
 |nil=>simp at h
 |cons y r=>
  rcases Ap.1 h with rfl|h
  ·exact .head _
  ·rcases cptG_mem r y x h with rfl|h
   ·exact .head _
   ·exact .tail _ h
theorem P4 {α:Type} [DecidableEq α] {lt:α→α→Prop} (ht:TO lt):∀(r:List α) (p:α),(p::r).Pairwise (fun a b=>¬lt b a)→(p::N1 eqs p r).Pairwise lt
 |[],p,_=>by simp [N1]
 |c::r,p,h=>by
  rw [Bv] at h;have ih:=P4 ht r c h.2;simp only [N1];by_cases hc:c=p
  ·subst hc;rw [if_pos (by simp [eqs])];exact ih
  ·rw [if_neg (by simp [eqs,hc])];rw [Bv];refine ⟨fun x hx=> ?_,ih⟩;have hpc:lt p c:=by
    rcases ht.tri p c with h1|h1|h1
    ·exact h1
    ·exact absurd h1.symm hc
    ·exact absurd h1 (h.1 c (.head _))
   rcases Ap.1 hx with rfl|hx
   ·exact hpc
   ·exact ht.tr _ _ _ hpc ((Bv.1 ih).1 x hx)
theorem oz {α:Type} [DecidableEq α] {lt:α→α→Prop} (ht:TO lt) (l:List α) (h:l.Pairwise (fun a b=>¬lt b a)):(cpt eqs l).Pairwise lt:=by
 cases l with
 |nil=>simp [cpt]
 |cons x r=>exact P4 ht r x h
theorem Vh {α:Type} {lt:α→α→Prop} (ht:TO lt):∀(a b:List α),a.Pairwise lt→b.Pairwise lt→(∀x,x∈a↔x∈b)→a=b
 |[],[],_,_,_=>rfl
 |[],y::b,_,_,h=>absurd ((h y).2 (.head _)) (by simp)
 |x::a,[],_,_,h=>absurd ((h x).1 (.head _)) (by simp)
 |x::a,y::b,ha,hb,h=>by
  rw [Bv] at ha hb;have hxy:x=y:=by
   rcases Ap.1 ((h x).1 (.head _)) with h1|h1
   ·exact h1
   ·rcases Ap.1 ((h y).2 (.head _)) with h2|h2
    ·exact h2.symm
    ·exact absurd (hb.1 x h1) (ht.asym (ha.1 y h2))
  subst hxy;rw [Vh ht a b ha.2 hb.2 fun z=> ?_];constructor
  ·intro hz;rcases Ap.1 ((h z).1 (.tail _ hz)) with rfl|h1
   ·exact absurd (ha.1 z hz) (ht.irr z)
   ·exact h1
  ·intro hz;rcases Ap.1 ((h z).2 (.tail _ hz)) with rfl|h1
   ·exact absurd (hb.1 z hz) (ht.irr z)
   ·exact h1
def setN (l:List (List UInt8)):List (List UInt8):=cpt eqs (l.mergeSort fun x y=> !decide (H8 y x<0))
theorem Em3 (l:List (List UInt8)):(l.mergeSort fun x y=> !decide (H8 y x<0)).Pairwise (fun a b=>¬ltN b a):=by
 have:=List.pairwise_mergeSort (le:=fun x y:List UInt8=> !decide (H8 y x<0)) (fun a b c h1 h2=>by
  simp only [Bs,decide_eq_false_iff_not,Ex] at h1 h2 ⊢;exact to_N.ntr h2 h1) (fun a b=>by
  simp only [Ar,Bs,decide_eq_false_iff_not,Ex];rcases to_N.tri a b with h|h|h
  ·exact .inl (to_N.asym h)
  ·subst h;exact .inl (to_N.irr a)
  ·exact .inr (to_N.asym h)) l
 refine this.imp fun {a b} h=> ?_;simpa only [Bs,decide_eq_false_iff_not,Ex] using h
theorem Yg (l:List (List UInt8)):(setN l).Pairwise ltN:=oz to_N _ (Em3 l)
theorem Cc4 (l:List (List UInt8)) (x:List UInt8):x∈setN l↔x∈l:=by unfold setN;rw [Et3];exact (List.mergeSort_perm _ _).mem_iff
theorem Cc5 (l:List (List UInt8)):(setN l).length≤l.length:=by have:=Z5 eqs (l.mergeSort fun x y=> !decide (H8 y x<0));rw [List.length_mergeSort] at this;exact this
end Go.X.G
/- Data of records: what the reference's functions give. -/
namespace Go.X.G
open Go Go.X
def Gn3 (t:Int):List UInt8:=
 if t=1 then [65] else if t=2 then [78,83] else if t=5 then [67,78,65,77,69] else if t=6 then [83,79,65] else if t=12 then [80,84,82]
 else if t=15 then [77,88] else if t=16 then [84,88,84] else if t=28 then [65,65,65,65] else if t=33 then [83,82,86] else if t=39 then [68,78,65,77,69]
 else if t=43 then [68,83] else if t=46 then [82,82,83,73,71] else if t=47 then [78,83,69,67] else if t=48 then [68,78,83,75,69,89] else []
theorem t15 (t:Int):t=1∨t=2∨t=5∨t=6∨t=12∨t=15∨t=16∨t=28∨t=33∨t=39∨t=43∨t=46∨t=47∨t=48∨(t≠1∧t≠2∧t≠5∧t≠6∧t≠12∧t≠15∧t≠16∧t≠28∧t≠33∧t≠39∧t≠43∧t≠46∧t≠47∧t≠48):=by omega
theorem bv (t:Int):S yb 1 [.i .i64 t]=some [.s (Gn3 t)]:=by
 refine Hw1 (N:=1) rfl ?_;rcases t15 t with rfl|rfl|rfl|rfl|rfl|rfl|rfl|rfl|rfl|rfl|rfl|rfl|rfl|rfl|⟨h0,h1,h2,h3,h4,h5,h6,h7,h8,h9,h10,h11,h12,h13⟩
 all_goals simp (disch:=omega) only [Gr6,xe,EVP,EV,simprocAttr]
 all_goals first|rfl|(unfold Gn3;simp only [if_neg, *];rfl)
def knw (t:Int):Bool:=decide (t=1)||decide (t=2)||decide (t=5)||decide (t=6)||decide (t=12)||decide (t=15)||decide (t=16)||decide (t=28)||decide (t=33)||decide (t=39)||decide (t=43)||decide (t=46)||decide (t=47)||decide (t=48)
theorem Cm6 (t:Int):decide (Gn3 t≠[])=knw t:=by
 unfold Gn3 knw;rcases t15 t with rfl|rfl|rfl|rfl|rfl|rfl|rfl|rfl|rfl|rfl|rfl|rfl|rfl|rfl|⟨h0,h1,h2,h3,h4,h5,h6,h7,h8,h9,h10,h11,h12,h13⟩
 all_goals simp [*]
theorem Cv (t:Int):S V8 1 [.i .i64 t]=some [.b (knw t)]:=by refine Hy5 (N:=1) rfl ?_;simp (disch:=omega) only [Gs7,bv,Cm6,xe,EVP,EV,simprocAttr]
def Dv (d:Dat):Bool:=d.v6||(decide (d.hi=0) && decide (d.lo<4294967296))
theorem Xg (d:Dat):S md 1 [Hz d]=some [.b (Dv d)]:=by refine Hv9 (N:=1) rfl ?_;unfold Dv;cases h:d.v6<;>by_cases h2:d.hi=0<;>simp (disch:=omega) [Gr4,h,h2,xe,EVP,EV,simprocAttr]
def inB (n most:Int):Bool:=decide (0≤n) && decide (n≤most)
theorem nz (n m:Int):S H3 2 [.i .i64 n, .i .i64 m]=some [.b (inB n m)]:=by refine Hv6 (N:=1) rfl ?_;simp (disch:=omega) only [Gr2,inB,xe,EVP,EV,simprocAttr]
theorem Bt3 (n:Int):S yy 1 [.i .i64 n]=some [.b (inB n 4294967295)]:=by refine Hv7 (N:=1) rfl ?_;simp (disch:=omega) only [Gr3,inB,xe,EVP,EV,simprocAttr];congr 5;simp;omega
def Fv (s:List UInt8):Bool:=decide (1≤s.length) && decide (s.length≤255)
theorem Sy (s:List UInt8):S Y3 1 [.s s]=some [.b (Fv s)]:=by refine Hv5 (N:=1) rfl ?_;simp (disch:=omega) only [Gr1,Fv,xe,EVP,EV,simprocAttr];congr 5<;>simp<;>omega
theorem qc {n:List UInt8} (h:vld n=true):0<n.length:=by
 unfold vld nm at h;split at h
 ·rename_i e;simp [e]
 ·split at h
  ·omega
  ·cases h
def E2 (n:List UInt8):Bool:=vld n && decide (n[0]? ≠some 42)
theorem Gd (n:List UInt8) (hn:n.length≤9223372036854775807):S Qd 1 [.s n]=some [.b (E2 n)]:=by
 refine Hv8 (N:=1) rfl ?_;unfold E2;cases h:vld n
 ·simp (disch:=omega) only [Fc6,P8,h,xe,EVP,EV,simprocAttr];rfl
 ·have h0:=Ay (qc h);have h1:=Ec8 (n[0]'(qc h)) 42 (by omega);simp (disch:=omega) only [Fc6,P8,h,h0,xe,EVP,EV,simprocAttr];simp;exact h1
def bit (set:Int) (t:Nat):Int:=set / 2 ^ t % 2
theorem Gm0 (x:Int):IntKind.u64.wrap ((BitVec.ofInt IntKind.u64.bits x &&& BitVec.ofInt IntKind.u64.bits 1).toNat:Int)=x % 2:=by
 have h2:(BitVec.ofInt 64 x &&& BitVec.ofInt 64 1).toNat=(BitVec.ofInt 64 x).toNat % 2:=by rw [BitVec.toNat_and];show (BitVec.ofInt 64 x).toNat &&& 1=_;exact Nat.and_one_is_mod _
 show IntKind.u64.wrap (((BitVec.ofInt 64 x &&& BitVec.ofInt 64 1).toNat:Nat):Int)=_;rw [h2,BitVec.toNat_ofInt];rw [Gt0]<;>omega
end Go.X.G
/- Data of records: bytes. -/
namespace Go.X.G
open Go Go.X
def jv (set:Int) (i:Nat):Nat→Bool
 |0=>true
 |k+1=>(!decide (bit set i=1)||knw (i:Int)) && jv set (i+1) k
theorem Gm2 (set:Int) (N:Nat) (hN:64<N):
  Dv9.ev S N [.i .u64 set]=some (if jv set 0 64=true then .yld 0 [] else .ret [.b false]):=by
 refine Fw 64 (fun i=>[.i .i64 (i:Int)]) (fun i=>if jv set i (64 - i)=true then .yld 0 [] else .ret [.b false]) rfl hN (fun i hi=> ?_) ?_
 ·obtain ⟨k,hk⟩:∃k,64 - i=k+1:=⟨63 - i,by omega⟩;have hk':64 - (i+1)=k:=by omega
  have hb:IntKind.u64.bits=64:=rfl;have hi':i<IntKind.u64.bits:=by rw [hb];exact hi
  have h0:X.bin .shr (.i .u64 set) (.i .u64 (i:Int))=some (.i .u64 (set / 2 ^ i)):=jh _ _ _ _ hi';have h1:set / 2 ^ i % 2=bit set i:=rfl;rw [hk,hk'];simp only [jv];by_cases h2:bit set i=1<;>rcases Ad (knw (i:Int)) with h3|h3<;>simp (disch:=omega) only [Eb9,Cv,P6,Gm0,h0,h1,h2,h3,xe,EVP,EV,simprocAttr]
  all_goals simp [Out.goes]
 ·simp (disch:=omega) [Eb9,xe,EVP,EV,simprocAttr,Out.goes,jv]
theorem Gm1 (set:Int):S yx 1 [.i .u64 set]=some [.b (jv set 0 64)]:=by refine Hv4 (N:=65) rfl ?_;simp (disch:=omega) only [Eb9,Gm2,xe,EVP,EV,simprocAttr];cases jv set 0 64<;>rfl
def be (v:Int):Nat→List UInt8
 |0=>[]
 |n+1=>UInt8.ofNat (v / 256 ^ n % 256).toNat::be v n
theorem Dj (v:Int):∀n,(be v n).length=n
 |0=>rfl
 |n+1=>by simp [be,Dj v n]
theorem O7 (z:Int) (h1:0≤z) (h2:z<256):((UInt8.ofNat z.toNat).toNat:Int)=z:=by simp;omega
theorem Z4 (v:Int) (j:Nat):v / 256 ^ j / 256=v / 256 ^ (j+1):=by rw [Int.pow_succ,Int.ediv_ediv_of_nonneg (Int.le_of_lt (Int.pow_pos (by decide)))]
theorem Xw (v:Int) (j:Nat) (h:0≤v):0≤v / 256 ^ j:=Int.ediv_nonneg h (Int.le_of_lt (Int.pow_pos (by decide)))
theorem Xx (v:Int) (j:Nat) (h:0≤v):v / 256 ^ j≤v:=Int.ediv_le_self _ h
theorem xf (v:Int) (n i:Nat) (p q:PV) (N:Nat) (hN:i<N) (hi:i≤1000) (h0:0≤v) (h1:v≤18446744073709551615):
  z7.ev S N [.i .u64 v,p,q, .i .i64 (i:Int)]=some (.yld 2 [.i .u64 (v / 256 ^ i)]):=by
 refine Fw i (fun j=>[.i .u64 (v / 256 ^ j), .i .i64 (j:Int)]) (fun j=> .yld 2 [.i .u64 (v / 256 ^ i)]) (by simp [Td,Zn,Hn2,Hn6]) hN (fun j hj=> ?_) ?_
 ·left;have h2:=Xw v j h0;have h3:=Xx v j h0;have h4:=Z4 v j;simp (disch:=omega) only [Ut,h4,xe,EVP,EV,simprocAttr];simp
 ·simp (disch:=omega) only [Ut,xe,EVP,EV,simprocAttr];simp [Out.goes]
theorem xg (v:Int) (n:Nat) (N:Nat) (hN:n+1<N) (hn:n≤1000) (h0:0≤v) (h1:v≤18446744073709551615):
  Zw.ev S N [.i .u64 v, .i .i64 (n:Int)]=some (.yld 0 [.l 1 (Bh (be v n))]):=by
 have key:=Hq (fn:=S) (N:=N) (η:=[.i .u64 v, .i .i64 (n:Int)]) (id:=1) (init:=[(.c (.l 1 [])),(.bin .sub (.v 1) (.c (.i .i64 (1))))]) (body:=ab) (α:=Nat×List UInt8) (fun a=>[.l 1 (Bh a.2), .i .i64 ((a.1:Int) - 1)]) (fun a=> .yld 0 [.l 1 (Bh (a.2++be v a.1))]) (fun a=>a.1+a.2.length=n) (fun a=>a.1) (n,[]) (by simp (disch:=omega) only [xe,EVP,EV,simprocAttr];rfl) rfl (by simp only;omega) ?_
 ·simpa [Zw] using key
 ·rintro ⟨m,acc⟩ hm;simp only at hm ⊢;cases m with
  |zero=>
   right;simp (disch:=omega) only [Ut,xe,EVP,EV,simprocAttr];simp [be,Out.goes]
  |succ m=>
   left;have h2:=Xw v m h0;have h3:=Xx v m h0;have e:((m+1:Nat):Int) - 1=(m:Int):=by omega
   have e2:=O7 (v / 256 ^ m % 256) (by omega) (by omega);have e3:=Jl acc;refine ⟨(m,acc++[UInt8.ofNat (v / 256 ^ m % 256).toNat]),?_,by simp;omega,by simp,by simp [be]⟩;rw [e];have hin:=xf v n m (.i .i64 (n:Int)) (.l 1 (Bh acc)) N (by omega) (by omega) h0 h1;simp (disch:=omega) only [Ut,hin,xe,EVP,EV,simprocAttr];rw [←M8,e2]
theorem O8 (v:Int) (n:Nat) (hn:n≤1000) (h0:0≤v) (h1:v≤18446744073709551615):S Pj 2 [.i .u64 v, .i .i64 (n:Int)]=some [.s (be v n)]:=by refine Fm8 (N:=n+2) rfl ?_;simp (disch:=omega) only [Ut,xg,xe,EVP,EV,simprocAttr]
theorem Bt4 (v:Int) (n i:Nat) (p q:PV) (N:Nat) (hN:i<N) (hi:i≤1000) (h0:0≤v) (h1:v≤9223372036854775807):
  Aj0.ev S N [.i .i64 v,p,q, .i .i64 (i:Int)]=some (.yld 2 [.i .i64 (v / 256 ^ i)]):=by
 refine Fw i (fun j=>[.i .i64 (v / 256 ^ j), .i .i64 (j:Int)]) (fun j=> .yld 2 [.i .i64 (v / 256 ^ i)]) (by simp [Td,Zn,Hn2,Hn6]) hN (fun j hj=> ?_) ?_
 ·left;have h2:=Xw v j h0;have h3:=Xx v j h0;have h4:=Z4 v j;simp (disch:=omega) only [U0,h4,xe,EVP,EV,simprocAttr];simp
 ·simp (disch:=omega) only [U0,xe,EVP,EV,simprocAttr];simp [Out.goes]
theorem Bt5 (v:Int) (n:Nat) (N:Nat) (hN:n+1<N) (hn:n≤1000) (h0:0≤v) (h1:v≤9223372036854775807):
  Zx.ev S N [.i .i64 v, .i .i64 (n:Int)]=some (.yld 0 [.l 1 (Bh (be v n))]):=by
 have key:=Hq (fn:=S) (N:=N) (η:=[.i .i64 v, .i .i64 (n:Int)]) (id:=1) (init:=[(.c (.l 1 [])),(.bin .sub (.v 1) (.c (.i .i64 (1))))]) (body:=ah) (α:=Nat×List UInt8) (fun a=>[.l 1 (Bh a.2), .i .i64 ((a.1:Int) - 1)]) (fun a=> .yld 0 [.l 1 (Bh (a.2++be v a.1))]) (fun a=>a.1+a.2.length=n) (fun a=>a.1) (n,[]) (by simp (disch:=omega) only [xe,EVP,EV,simprocAttr];rfl) rfl (by simp only;omega) ?_
 ·simpa [Zx] using key
 ·rintro ⟨m,acc⟩ hm;simp only at hm ⊢;cases m with
  |zero=>
   right;simp (disch:=omega) only [U0,xe,EVP,EV,simprocAttr];simp [be,Out.goes]
  |succ m=>
   left;have h2:=Xw v m h0;have h3:=Xx v m h0;have e:((m+1:Nat):Int) - 1=(m:Int):=by omega
   have e2:=O7 (v / 256 ^ m % 256) (by omega) (by omega);have e3:=Jl acc;refine ⟨(m,acc++[UInt8.ofNat (v / 256 ^ m % 256).toNat]),?_,by simp;omega,by simp,by simp [be]⟩;rw [e];have hin:=Bt4 v n m (.i .i64 (n:Int)) (.l 1 (Bh acc)) N (by omega) (by omega) h0 h1;simp (disch:=omega) only [U0,hin,xe,EVP,EV,simprocAttr];rw [←M8,e2]
theorem Jr (v:Int) (n:Nat) (hn:n≤1000) (h0:0≤v) (h1:v≤9223372036854775807):S D4 2 [.i .i64 v, .i .i64 (n:Int)]=some [.s (be v n)]:=by refine Fn6 (N:=n+2) rfl ?_;simp (disch:=omega) only [U0,Bt5,xe,EVP,EV,simprocAttr]
end Go.X.G
/- Data of records: the wire form. -/
namespace Go.X.G
open Go Go.X
theorem Pd {s:List UInt8} (h:I3 s=true):s.length≤63:=by
 unfold I3 at h;simp at h;rcases h with h|h
 ·simp [h]
 ·omega
theorem Sb:∀(r:List UInt8) (f:Bool) (cur:List UInt8) (l:List (List UInt8)),spl f cur r=some l→∀x∈l,I3 x=true
 |[],f,cur,l,h=>by simp [spl] at h;subst h;simp
 |c::r,f,cur,l,h=>by
  simp only [spl] at h;split at h
  ·split at h
   ·rename_i h2;obtain ⟨m,hm,rfl⟩:=Av.1 h;intro x hx;simp at hx;rcases hx with rfl|hx
    ·exact h2.1
    ·exact Sb r _ _ _ hm x hx
   ·cases h
  ·exact Sb r _ _ _ h
theorem L0 (n:List UInt8):∀x∈lbl n,I3 x=true:=by
 unfold lbl nm;split
 ·simp
 ·split
  ·cases h:spl true [] n with
   |none=>simp
   |some l=>simpa using Sb _ _ _ _ h
  ·simp
def wireL (l:List (List UInt8)):List UInt8:=l.flatMap fun x=>be (x.length:Int) 1++x
def G2 (n:List UInt8):List UInt8:=wireL (lbl n)++be 0 1
theorem Ly:∀(l:List (List UInt8)),(∀x∈l,I3 x=true)→(wireL l).length≤64*l.length
 |[],_=>by simp [wireL]
 |x::l,h=>by have h1:=Pd (h x (by simp));have h2:=Ly l (fun y hy=>h y (by simp [hy]));simp only [wireL,b8,Ab,Dj,Bw] at h2 ⊢;omega
theorem Lx (n:List UInt8):(G2 n).length≤20000:=by have h1:=Ly (lbl n) (L0 n);have h2:=Jx n;simp only [G2,Ab,Dj];omega
theorem bq (n:List UInt8) (N:Nat) (hN:254<N):
  Zy.ev S N [.s n,Bg (lbl n)]=some (.yld 0 [.s (wireL (lbl n))]):=by
 have hl:=Jx n;have key:=J7 (fn:=S) (N:=N) (η:=[.s n,Bg (lbl n)]) (id:=1) (init:=[(.c (.s [])),(.c (.i .i64 (0)))]) (body:=al) (lbl n) (fun i (g:List UInt8)=>[.s g, .i .i64 (i:Int)]) (fun i g r=> .yld 0 [.s (g++wireL r)]) (fun i g=>g.length≤64*i) [] rfl (Af _) (by omega) (fun i g c r hd hi hc hI=> ?_) (fun g hI=> ?_)
 ·simpa [Zy] using key
 ·left;have h1:=Pd (L0 n c (A8 hc));have h2:=Jr (c.length:Int) 1 (by omega) (by omega) (by omega);have h3:=Dj (c.length:Int) 1;have h4:(be (c.length:Int) 1++c).length=1+c.length:=by rw [Ab,h3]
  refine ⟨g++(be (c.length:Int) 1++c),?_,?_,?_⟩
  ·simp only [Int.natCast_one] at h2;simp (disch:=omega) only [qj,hc,h2,xe,EVP,EV,simprocAttr]
  ·rw [Ab,h4];omega
  ·simp [wireL]
 ·simp (disch:=omega) only [qj,xe,EVP,EV,simprocAttr];simp [Out.goes,wireL]
theorem Dp (n:List UInt8) (hn:n.length≤9223372036854775807):S Jk 1 [.s n]=some [.s (G2 n)]:=by refine Fn7 (N:=255) rfl ?_;have h1:=Ly (lbl n) (L0 n);have h2:=Jx n;have h3:=Dj 0 1;have h4:=Jr 0 1 (by omega) (by omega) (by omega);simp only [Int.natCast_one] at h4;simp (disch:=omega) only [qj,o5,bq,h4,xe,EVP,EV,simprocAttr];rfl
def bmV (set:Int) (i:Nat):Nat→Int
 |0=>0
 |j+1=>bmV set i j*2+bit set (i*8+j)
theorem Bp3 (set:Int) (t:Nat):0≤bit set t∧bit set t≤1:=by unfold bit;omega
theorem Rp (set:Int) (i:Nat):∀j,0≤bmV set i j∧bmV set i j<2 ^ j
 |0=>by simp [bmV]
 |j+1=>by have h1:=Rp set i j;have h2:=Bp3 set (i*8+j);simp only [bmV,Int.pow_succ];omega
def bmB (set:Int) (i:Nat):UInt8:=UInt8.ofNat (bmV set i 8).toNat
def bmL (set:Int):Nat→Nat
 |0=>0
 |i+1=>if bmV set i 8≠0 then i+1 else bmL set i
theorem Bn6 (set:Int):∀i,bmL set i≤i
 |0=>Af _
 |i+1=>by have:=Bn6 set i;simp only [bmL];split<;>omega
def bmap (set:Int):List UInt8:=((List.range 8).map (bmB set)).take (bmL set 8)
theorem Bp0 (set:Int) (p q:PV) (i:Nat) (hi:i<8) (N:Nat) (hN:8<N):
  z8.ev S N [.i .u64 set,p,q, .i .i64 (i:Int)]=some (.yld 2 [.i .i64 (bmV set i 8)]):=by
 refine Fw 8 (fun j=>[.i .i64 (bmV set i j), .i .i64 (j:Int)]) (fun j=> .yld 2 [.i .i64 (bmV set i 8)]) rfl hN (fun j hj=> ?_) ?_
 ·left;have hb:IntKind.u64.bits=64:=rfl;have hi':i*8+j<IntKind.u64.bits:=by rw [hb];omega
  have e:((i:Int)*8+(j:Int))=((i*8+j:Nat):Int):=by simp
  have h0:X.bin .shr (.i .u64 set) (.i .u64 ((i*8+j:Nat):Int))=some (.i .u64 (set / 2 ^ (i*8+j))):=jh _ _ _ _ hi';have h1:set / 2 ^ (i*8+j) % 2=bit set (i*8+j):=rfl;have h2:=Rp set i j;have h3:(2:Int) ^ j≤128:=(by decide:∀j,j<8→(2:Int) ^ j≤128) j hj;have h4:=Bp3 set (i*8+j);simp (disch:=omega) only [Qp,P6,Gm0,h0,h1,←e,xe,EVP,EV,simprocAttr];refine ⟨?_,trivial⟩;rw [e,h0];simp (disch:=omega) only [P6,Gm0,h0,h1,xe,EVP,EV,simprocAttr];rfl
 ·simp (disch:=omega) only [Qp,xe,EVP,EV,simprocAttr];simp [Out.goes]
theorem Bp1 (set:Int) (N:Nat) (hN:8<N):
  Ak0.ev S N [.i .u64 set]=some (.yld 0 [.l 1 (Bh ((List.range 8).map (bmB set))), .i .i64 (bmL set 8:Int)]):=by
 refine Fw 8 (fun i=>[.l 1 (Bh ((List.range i).map (bmB set))), .i .i64 (bmL set i:Int), .i .i64 (i:Int)]) (fun _=> .yld 0 [.l 1 (Bh ((List.range 8).map (bmB set))), .i .i64 (bmL set 8:Int)]) rfl hN (fun i hi=> ?_) ?_
 ·left;have h1:=Bp0 set (.l 1 (Bh ((List.range i).map (bmB set)))) (.i .i64 (bmL set i:Int)) i hi N hN;have h2:=Rp set i 8;have h3:(2:Int) ^ 8=256:=rfl;have h4:=O7 (bmV set i 8) (by omega) (by omega);have h5:(Bh ((List.range i).map (bmB set))).length=i:=by simp [Jl]
  have h6:Bh ((List.range (i+1)).map (bmB set))=Bh ((List.range i).map (bmB set))++[.i .u8 (bmV set i 8)]:=by rw [List.range_succ,List.map_append,←h4];exact (M8 _ _).symm
  rw [h6];by_cases h7:bmV set i 8=0
  ·simp (disch:=omega) only [Qp,h1,bmL,h7,xe,EVP,EV,simprocAttr];simp
  ·simp (disch:=omega) only [Qp,h1,bmL,xe,EVP,EV,simprocAttr];simp [h7]
 ·simp (disch:=omega) only [Qp,xe,EVP,EV,simprocAttr];simp [Out.goes]
theorem Bn9 (set:Int):S Wy 1 [.i .u64 set]=some [.s (bmap set)]:=by
 refine Fn5 (N:=9) rfl ?_;have h1:=Bn6 set 8;have h2:(Bh ((List.range 8).map (bmB set))).length=8:=by simp [Jl]
 have h3:List.drop 0 (List.take (bmL set 8) (Bh ((List.range 8).map (bmB set))))=Bh (bmap set):=by simp only [Ec,bmap,Bh,List.map_take]
 simp (disch:=omega) only [Qp,Bp1,h3,xe,EVP,EV,simprocAttr]
theorem T8 (set:Int):(bmap set).length≤8:=by simp [bmap];omega
def Lz (d:Dat):List UInt8:=if d.v6 then be d.hi 8++be d.lo 8 else be d.lo 4
theorem jy (d:Dat) (h:d.wf):S Wz 1 [Hz d]=some (if Dv d=true then [.s (Lz d), .i .i64 0] else [.s [], .i .i64 3]):=by refine Fn8 (N:=1) rfl ?_;have h1:=h.hi;have h2:=h.lo;have a1:=O8 d.hi 8 (by omega) h1.1 h1.2;have a2:=O8 d.lo 8 (by omega) h2.1 h2.2;have a3:=O8 d.lo 4 (by omega) h2.1 h2.2;have b1:=Dj d.hi 8;have b2:=Dj d.lo 8;simp only [Int.cast_ofNat_Int] at a1 a2 a3;unfold Lz;rcases Ad (Dv d) with h3|h3<;>rcases Ad d.v6 with h4|h4<;>simp (disch:=omega) only [Fd3,Xg,h3,h4,a1,a2,a3,xe,EVP,EV,simprocAttr]
def usd (t:Int) (d:Dat):Dat:=
 if t=1∨t=28 then ⟨d.v6,d.hi,d.lo,[],[],[],0,0,0,0,0,0,0⟩
 else if t=2∨t=5∨t=12∨t=39 then ⟨false,0,0,d.host,[],[],0,0,0,0,0,0,0⟩
 else if t=6 then ⟨false,0,0,d.host,d.mail,[],d.a,d.b,d.c,d.d,d.e,0,0⟩
 else if t=15 then ⟨false,0,0,d.host,[],[],d.a,0,0,0,0,0,0⟩
 else if t=16 then ⟨false,0,0,[],[],d.text,0,0,0,0,0,0,0⟩
 else if t=33 then ⟨false,0,0,d.host,[],[],d.a,d.b,d.c,0,0,0,0⟩
 else if t=43∨t=48 then ⟨false,0,0,[],[],d.text,d.a,d.b,d.c,0,0,0,0⟩
 else if t=46 then ⟨false,0,0,d.host,[],d.text,d.a,d.b,d.c,d.d,d.e,d.f,0⟩
 else ⟨false,0,0,d.host,[],[],0,0,0,0,0,0,d.bits⟩
theorem F3 (t:Int) (d:Dat):S yz 2 [.i .i64 t,d.pv]=some [(usd t d).pv]:=by
 refine Hw0 (N:=1) rfl ?_;rcases t15 t with rfl|rfl|rfl|rfl|rfl|rfl|rfl|rfl|rfl|rfl|rfl|rfl|rfl|rfl|⟨h0,h1,h2,h3,h4,h5,h6,h7,h8,h9,h10,h11,h12,h13⟩
 all_goals simp (disch:=omega) only [Gr5,xe,EVP,EV,simprocAttr]
 all_goals first|rfl|(unfold usd;simp [*])
end Go.X.G
/- Data of records: which are valid. -/
namespace Go.X.G
open Go Go.X
def Cq (t:Int) (d:Dat):Bool:=
 if t=1 then Dv d && !d.v6
 else if t=28 then d.v6
 else if t=6 then E2 d.host && E2 d.mail && inB d.a 4294967295 && inB d.b 2147483647 && inB d.c 2147483647 && inB d.d 2147483647 && inB d.e 2147483647
 else if t=15 then E2 d.host && inB d.a 65535
 else if t=16 then decide (d.text.length≤255)
 else if t=33 then E2 d.host && inB d.a 65535 && inB d.b 65535 && inB d.c 65535
 else if t=43 then inB d.a 65535 && inB d.b 255 && inB d.c 255 && Fv d.text
 else if t=46 then knw d.a && decide (d.a≠46) && inB d.b 127 && inB d.c 2147483647 && inB d.d 4294967295 && inB d.e 4294967295 && inB d.f 65535 && E2 d.host && Fv d.text
 else if t=47 then vld d.host && decide (d.bits≠0) && jv d.bits 0 64
 else if t=48 then (decide (d.a=256)||decide (d.a=257)) && decide (d.b=3) && inB d.c 255 && Fv d.text
 else E2 d.host
def Dk (t:Int) (d:Dat):Bool:=knw t && decide (usd t d=d) && Cq t d
theorem D5 (t:Int) (d:Dat) (h:d.wf):S yr 2 [.i .i64 t,d.pv]=some [.b (Dk t d)]:=by
 refine Hy4 (N:=1) rfl ?_;have g1:=h.host;have g2:=h.mail;have g3:=h.text;unfold pj at g1 g2 g3;rcases Ad (knw t) with hk|hk
 ·by_cases hu:usd t d=d
  ·rcases t15 t with rfl|rfl|rfl|rfl|rfl|rfl|rfl|rfl|rfl|rfl|rfl|rfl|rfl|rfl|⟨h0,h1,h2,h3,h4,h5,h6,h7,h8,h9,h10,h11,h12,h13⟩
   ·rcases ch2 (Dv d) (d.v6) with e0|⟨e0,e1⟩|⟨e0,e1⟩
    all_goals simp (disch:=omega) only [Ky,Cv,F3,Xg,xe,EVP,EV,simprocAttr,hk,hu, *]
    all_goals (unfold Dk Cq;simp [*])
   ·simp (disch:=omega) only [Ky,Cv,F3,Gd,xe,EVP,EV,simprocAttr,hk,hu];unfold Dk Cq;simp [*]
   ·simp (disch:=omega) only [Ky,Cv,F3,Gd,xe,EVP,EV,simprocAttr,hk,hu];unfold Dk Cq;simp [*]
   ·rcases ch7 (E2 d.host) (E2 d.mail) (inB d.a 4294967295) (inB d.b 2147483647) (inB d.c 2147483647) (inB d.d 2147483647) (inB d.e 2147483647) with e0|⟨e0,e1⟩|⟨e0,e1,e2⟩|⟨e0,e1,e2,e3⟩|⟨e0,e1,e2,e3,e4⟩|⟨e0,e1,e2,e3,e4,e5⟩|⟨e0,e1,e2,e3,e4,e5,e6⟩|⟨e0,e1,e2,e3,e4,e5,e6⟩
    all_goals simp (disch:=omega) only [Ky,Cv,F3,Gd,Bt3,nz,xe,EVP,EV,simprocAttr,hk,hu, *]
    all_goals (unfold Dk Cq;simp [*])
   ·simp (disch:=omega) only [Ky,Cv,F3,Gd,xe,EVP,EV,simprocAttr,hk,hu];unfold Dk Cq;simp [*]
   ·rcases ch2 (E2 d.host) (inB d.a 65535) with e0|⟨e0,e1⟩|⟨e0,e1⟩
    all_goals simp (disch:=omega) only [Ky,Cv,F3,Gd,nz,xe,EVP,EV,simprocAttr,hk,hu, *]
    all_goals (unfold Dk Cq;simp [*])
   ·simp (disch:=omega) only [Ky,Cv,F3,Gd,xe,EVP,EV,simprocAttr,hk,hu];unfold Dk Cq;simp [*];omega
   ·simp (disch:=omega) only [Ky,Cv,F3,Gd,xe,EVP,EV,simprocAttr,hk,hu];unfold Dk Cq;simp [*]
   ·rcases ch4 (E2 d.host) (inB d.a 65535) (inB d.b 65535) (inB d.c 65535) with e0|⟨e0,e1⟩|⟨e0,e1,e2⟩|⟨e0,e1,e2,e3⟩|⟨e0,e1,e2,e3⟩
    all_goals simp (disch:=omega) only [Ky,Cv,F3,Gd,nz,xe,EVP,EV,simprocAttr,hk,hu, *]
    all_goals (unfold Dk Cq;simp [*])
   ·simp (disch:=omega) only [Ky,Cv,F3,Gd,xe,EVP,EV,simprocAttr,hk,hu];unfold Dk Cq;simp [*]
   ·rcases ch4 (inB d.a 65535) (inB d.b 255) (inB d.c 255) (Fv d.text) with e0|⟨e0,e1⟩|⟨e0,e1,e2⟩|⟨e0,e1,e2,e3⟩|⟨e0,e1,e2,e3⟩
    all_goals simp (disch:=omega) only [Ky,Cv,F3,nz,Sy,xe,EVP,EV,simprocAttr,hk,hu, *]
    all_goals (unfold Dk Cq;simp [*])
   ·rcases ch9 (knw d.a) (decide (d.a≠46)) (inB d.b 127) (inB d.c 2147483647) (inB d.d 4294967295) (inB d.e 4294967295) (inB d.f 65535) (E2 d.host) (Fv d.text) with e0|⟨e0,e1⟩|⟨e0,e1,e2⟩|⟨e0,e1,e2,e3⟩|⟨e0,e1,e2,e3,e4⟩|⟨e0,e1,e2,e3,e4,e5⟩|⟨e0,e1,e2,e3,e4,e5,e6⟩|⟨e0,e1,e2,e3,e4,e5,e6,e7⟩|⟨e0,e1,e2,e3,e4,e5,e6,e7,e8⟩|⟨e0,e1,e2,e3,e4,e5,e6,e7,e8⟩
    all_goals simp (disch:=omega) only [Ky,Cv,F3,Gd,nz,Sy,xe,EVP,EV,simprocAttr,hk,hu, *]
    all_goals (unfold Dk Cq;simp [*])
   ·rcases ch3 (vld d.host) (decide (d.bits≠0)) (jv d.bits 0 64) with e0|⟨e0,e1⟩|⟨e0,e1,e2⟩|⟨e0,e1,e2⟩
    all_goals simp (disch:=omega) only [Ky,Cv,F3,P8,Gm1,xe,EVP,EV,simprocAttr,hk,hu, *]
    all_goals (unfold Dk Cq;simp [*])
   ·rcases ch4 (decide (d.a=256)||decide (d.a=257)) (decide (d.b=3)) (inB d.c 255) (Fv d.text) with e0|⟨e0,e1⟩|⟨e0,e1,e2⟩|⟨e0,e1,e2,e3⟩|⟨e0,e1,e2,e3⟩
    all_goals simp (disch:=omega) only [Ky,Cv,F3,nz,Sy,xe,EVP,EV,simprocAttr,hk,hu, *]
    all_goals (unfold Dk Cq;simp [*])
   ·simp [knw, *] at hk
  ·simp (disch:=omega) only [Ky,Cv,F3,xe,EVP,EV,simprocAttr,hk,hu];unfold Dk;simp [hu]
 ·simp (disch:=omega) only [Ky,Cv,xe,EVP,EV,simprocAttr,hk];unfold Dk;simp [hk]
def Hc (t:Int) (d:Dat):List UInt8:=
 if t=1∨t=28 then Lz d
 else if t=6 then G2 d.host++G2 d.mail++be d.a 4++be d.b 4++be d.c 4++be d.d 4++be d.e 4
 else if t=15 then be d.a 2++G2 d.host
 else if t=16 then be (d.text.length:Int) 1++d.text
 else if t=33 then be d.a 2++be d.b 2++be d.c 2++G2 d.host
 else if t=43∨t=48 then be d.a 2++be d.b 1++be d.c 1++d.text
 else if t=46 then be d.a 2++be 253 1++be d.b 1++be d.c 4++be d.d 4++be d.e 4++be d.f 2++G2 d.host++d.text
 else if t=47 then G2 d.host++be 0 1++be ((bmap d.bits).length:Int) 1++bmap d.bits
 else G2 d.host
theorem knw_cases {t:Int} (h:knw t=true):t=1∨t=2∨t=5∨t=6∨t=12∨t=15∨t=16∨t=28∨t=33∨t=39∨t=43∨t=46∨t=47∨t=48:=by simp [knw] at h;omega
theorem Qj (v:Int) (h0:0≤v) (h1:v≤9223372036854775807):S D4 2 [.i .i64 v, .i .i64 1]=some [.s (be v 1)]:=Jr v 1 (by omega) h0 h1
theorem P9 (v:Int) (h0:0≤v) (h1:v≤9223372036854775807):S D4 2 [.i .i64 v, .i .i64 2]=some [.s (be v 2)]:=Jr v 2 (by omega) h0 h1
theorem Bt6 (v:Int) (h0:0≤v) (h1:v≤9223372036854775807):S D4 2 [.i .i64 v, .i .i64 4]=some [.s (be v 4)]:=Jr v 4 (by omega) h0 h1
theorem Ov (t:Int) (d:Dat) (h:d.wf):S mw 2 [.i .i64 t,d.pv]=some (if Dk t d=true then [.s (Hc t d), .i .i64 0] else if knw t=true then [.s [], .i .i64 5] else [.s [], .i .i64 4]):=by
 refine Hk9 (N:=1) rfl ?_;have g1:=h.host;have g2:=h.mail;have g3:=h.text;unfold pj at g1 g2 g3;have g4:=Lx d.host;have g5:=Lx d.mail;have g6:=T8 d.bits;rcases Ad (knw t) with hk|hk
 ·rcases Ad (Dk t d) with hv|hv
  ·rw [if_pos hv];have hv':=hv;rcases knw_cases hk with rfl|rfl|rfl|rfl|rfl|rfl|rfl|rfl|rfl|rfl|rfl|rfl|rfl|rfl
   ·simp [Dk,Cq] at hv';simp (disch:=omega) only [Kx,Cv,D5 _ _ h,jy d h,hk,hv,hv'.2.1,xe,EVP,EV,simprocAttr];rfl
   ·simp (disch:=omega) only [Kx,Cv,D5 _ _ h,Dp,hk,hv,xe,EVP,EV,simprocAttr];rfl
   ·simp (disch:=omega) only [Kx,Cv,D5 _ _ h,Dp,hk,hv,xe,EVP,EV,simprocAttr];rfl
   ·simp [Dk,Cq,inB,Fv] at hv';simp (disch:=first|omega|(simp only [Ab,Dj];omega)) only [Kx,Cv,D5 _ _ h,Dp,Bt6,hk,hv,xe,EVP,EV,simprocAttr];rfl
   ·simp (disch:=omega) only [Kx,Cv,D5 _ _ h,Dp,hk,hv,xe,EVP,EV,simprocAttr];rfl
   ·simp [Dk,Cq,inB,Fv] at hv';simp (disch:=first|omega|(simp only [Ab,Dj];omega)) only [Kx,Cv,D5 _ _ h,Dp,P9,hk,hv,xe,EVP,EV,simprocAttr];rfl
   ·simp [Dk,Cq,inB,Fv] at hv';simp (disch:=first|omega|(simp only [Ab,Dj];omega)) only [Kx,Cv,D5 _ _ h,Dp,Qj,hk,hv,xe,EVP,EV,simprocAttr];rfl
   ·simp [Dk,Cq] at hv';have ha:Dv d=true:=by simp [Dv,hv'.2]
    simp (disch:=omega) only [Kx,Cv,D5 _ _ h,jy d h,hk,hv,ha,xe,EVP,EV,simprocAttr];rfl
   ·simp [Dk,Cq,inB,Fv] at hv';simp (disch:=first|omega|(simp only [Ab,Dj];omega)) only [Kx,Cv,D5 _ _ h,Dp,P9,hk,hv,xe,EVP,EV,simprocAttr];rfl
   ·simp (disch:=omega) only [Kx,Cv,D5 _ _ h,Dp,hk,hv,xe,EVP,EV,simprocAttr];rfl
   ·simp [Dk,Cq,inB,Fv] at hv';simp (disch:=first|omega|(simp only [Ab,Dj];omega)) only [Kx,Cv,D5 _ _ h,Dp,Qj,P9,hk,hv,xe,EVP,EV,simprocAttr];rfl
   ·simp [Dk,Cq,inB,Fv] at hv';have k1:0≤d.a:=by have:=knw_cases hv'.2.1.1.1.1.1.1.1.1;omega
    have k2:=h.a.2;simp (disch:=first|omega|(simp only [Ab,Dj];omega)) only [Kx,Cv,D5 _ _ h,Dp,Qj,P9,Bt6,hk,hv,xe,EVP,EV,simprocAttr];rfl
   ·simp (disch:=first|omega|(simp only [Ab,Dj];omega)) only [Kx,Cv,D5 _ _ h,Dp,Bn9,Qj,hk,hv,xe,EVP,EV,simprocAttr];rfl
   ·simp [Dk,Cq,inB,Fv] at hv';simp (disch:=first|omega|(simp only [Ab,Dj];omega)) only [Kx,Cv,D5 _ _ h,Dp,Qj,P9,hk,hv,xe,EVP,EV,simprocAttr];rfl
  ·simp (disch:=omega) only [Kx,Cv,D5 _ _ h,hk,hv,xe,EVP,EV,simprocAttr]
 ·have hv:Dk t d=false:=by simp [Dk,hk]
  simp (disch:=omega) only [Kx,Cv,hk,hv,xe,EVP,EV,simprocAttr]
def Cs0 (t:Int) (a b:Dat):Int:=
 if Dk t a && Dk t b then cmpS (Hc t a) (Hc t b) else if Dk t a then -1 else if Dk t b then 1 else 0
theorem bg (t:Int) (a b:Dat) (ha:a.wf) (hb:b.wf):S yv 3 [.i .i64 t,a.pv,b.pv]=some [.i .i64 (Cs0 t a b)]:=by
 refine Hv1 (N:=1) rfl ?_;unfold Cs0 cmpS;rcases Ad (Dk t a) with h1|h1<;>rcases Ad (Dk t b) with h2|h2
 ·simp (disch:=omega) only [Fc4,Ov _ _ ha,Ov _ _ hb,h1,h2,xe,EVP,EV,simprocAttr];cases Op.bytesLess (Hc t a) (Hc t b)
  ·by_cases h3:Hc t a=Hc t b<;>simp [h3]
  ·simp
 all_goals rcases Ad (knw t) with h3|h3<;>simp (disch:=omega) [Fc4,Ov _ _ ha,Ov _ _ hb,h1,h2,h3,xe,EVP,EV,simprocAttr]
end Go.X.G
/- Lists of records: what the reference's functions give. -/
namespace Go.X.G
open Go Go.X
def Hs9 (r:Rec):Bool:=vld r.name && knw r.typ && decide (0≤r.ttl) && decide (r.ttl≤2147483647) && Dk r.typ r.data
def Z7 (a b:Int):Int:=if a<b then -1 else if b<a then 1 else 0
theorem mj (a b:Int):S yp 2 [.i .i64 a, .i .i64 b]=some [.i .i64 (Z7 a b)]:=by
 refine Hy0 (N:=1) rfl ?_;unfold Z7;simp (disch:=omega) only [Gs5,xe,EVP,EV,simprocAttr]
 grind
def N2 (a b:Rec):Int:=
 if H8 a.name b.name≠0 then H8 a.name b.name else if Z7 a.typ b.typ≠0 then Z7 a.typ b.typ else Cs0 a.typ a.data b.data
theorem W7 (a b:Rec) (ha:a.wf) (hb:b.wf):S m7 2 [a.pv,b.pv]=some [.i .i64 (N2 a b)]:=by refine Hy1 (N:=1) rfl ?_;have g1:=ha.name;have g2:=hb.name;unfold pj at g1 g2;unfold N2;simp (disch:=omega) only [Gs6,Qv,mj,bg _ _ _ ha.data hb.data,xe,EVP,EV,simprocAttr];by_cases h1:H8 a.name b.name=0<;>by_cases h2:Z7 a.typ b.typ=0<;>simp [h1,h2]
def isK (n:List UInt8) (t:Int) (r:Rec):Bool:=decide (r.name=n) && decide (r.typ=t)
def findR (l:List Rec) (n:List UInt8) (t:Int):List Rec:=l.filter (isK n t)
theorem Cj0 (a b:List Rec) (ha:a.length≤1000000):S y3 2 [Al a,Al b]=some [.b (decide (a=b))]:=by
 refine Hz3 (N:=a.length+1) rfl ?_;by_cases hl:a.length=b.length
 ·have key:Dx0.ev S (a.length+1) [Al a,Al b]=some (if a.drop 0=b.drop 0 then .yld 0 [] else .ret [.b false]):=by
   refine E8 a (fun i=>[.i .i64 (i:Int)]) (fun i r=>if r=b.drop i then .yld 0 [] else .ret [.b false]) rfl (by omega) (fun i c r hd hi hc=> ?_) ?_
   ·obtain ⟨y,r',hb,hd2,hd3⟩:∃y r',b[i]? =some y∧b.drop i=y::r'∧b.drop (i+1)=r':=⟨b[i]'(by omega),_,Ay (by omega),C1 (by omega),rfl⟩;rw [hd2,hd3];by_cases h:c=y
    ·subst h;left;simp (disch:=omega) only [jb,hc,hb,xe,EVP,EV,simprocAttr];simp
    ·right;simp (disch:=omega) only [jb,hc,hb,h,xe,EVP,EV,simprocAttr];simp [h,Out.goes]
   ·have hd2:b.drop a.length=[]:=Er (by omega);rw [hd2];simp (disch:=omega) only [jb,xe,EVP,EV,simprocAttr];simp [Out.goes]
  simp only [Ec] at key;by_cases h:a=b
  ·rw [if_pos h] at key;simp (disch:=omega) only [jb,key,xe,EVP,EV,simprocAttr]
   try simp [h]
  ·rw [if_neg h] at key;simp (disch:=omega) only [jb,key,xe,EVP,EV,simprocAttr]
   try simp [h]
 ·have h:a≠b:=fun h=>hl (by rw [h]);simp (disch:=omega) [jb,h,xe,EVP,EV,simprocAttr]
def Tz (x:Rec):List Rec→List Rec
 |[]=>[x]
 |y::r=>if N2 y x<0 then y::Tz x r else if N2 y x=0 then (if x.ttl<y.ttl then x::r else y::r) else x::y::r
def sortR (l:List Rec):List Rec:=l.foldl (fun acc x=>Tz x acc) []
def If (x:Rec):List Rec→Nat
 |[]=>0
 |y::r=>if N2 y x<0 then If x r+1 else 0
theorem ff (x:Rec):∀l,If x l≤l.length
 |[]=>Af _
 |y::r=>by have:=ff x r;simp only [If];split<;>simp;omega
theorem Aq6 (x:Rec):∀(l:List Rec),Tz x l=match l[If x l]? with
  |some y=>if N2 y x=0 then (if x.ttl<y.ttl then l.set (If x l) x else l) else l.take (If x l)++[x]++l.drop (If x l)
  |none=>l.take (If x l)++[x]++l.drop (If x l)
 |[]=>rfl
 |y::r=>by
  simp only [Tz,If];by_cases h:N2 y x<0
  ·simp only [if_pos h,Ct];rw [Aq6 x r];cases h2:r[If x r]? with
   |none=>simp
   |some z=>by_cases h3:N2 z x=0<;>by_cases h4:x.ttl<z.ttl<;>simp [h3,h4]
  ·simp only [if_neg h,B6];by_cases h3:N2 y x=0<;>by_cases h4:x.ttl<y.ttl<;>simp [h3,h4]
theorem Ty (x:Rec):∀l,(Tz x l).length≤l.length+1
 |[]=>by simp [Tz]
 |y::r=>by
  have:=Ty x r;simp only [Tz];split
  ·simp;omega
  ·split
   ·split<;>simp
   ·simp
theorem insR_mem (x:Rec):∀(l:List Rec) (y:Rec),y∈Tz x l→y=x∨y∈l
 |[],y,h=>by simp [Tz] at h;exact .inl h
 |z::r,y,h=>by
  simp only [Tz] at h;split at h
  ·simp at h;rcases h with h|h
   ·exact .inr (by simp [h])
   ·rcases insR_mem x r y h with h|h
    ·exact .inl h
    ·exact .inr (by simp [h])
  ·split at h
   ·split at h
    ·simp at h;rcases h with h|h
     ·exact .inl h
     ·exact .inr (by simp [h])
    ·exact .inr h
   ·simp at h;rcases h with h|h
    ·exact .inl h
    ·exact .inr (by simpa using h)
theorem Fz2 (l g:List Rec) (i:Nat) (x:Rec) (hx:l[i]? =some x) (hw:∀r∈l,r.wf) (hg:∀r∈g,r.wf) (N:Nat) (hN:g.length<N) (hl:g.length≤1000000):
  zt.ev S N [Al l,Al g, .i .i64 (i:Int)]=some (.yld 2 [.i .i64 (If x g:Int)]):=by
 have key:zt.ev S N [Al l,Al g, .i .i64 (i:Int)]=some (.yld 2 [.i .i64 ((0+If x g:Nat):Int)]):=by
  refine E8 g (fun k=>[.i .i64 (k:Int)]) (fun k r=> .yld 2 [.i .i64 ((k+If x r:Nat):Int)]) rfl hN (fun k c r hd hk hc=> ?_) ?_
  ·have h1:=W7 c x (hg c (A8 hc)) (hw x (A8 hx));by_cases h:N2 c x<0
   ·left;simp (disch:=omega) only [Sq,hc,hx,h1,h,xe,EVP,EV,simprocAttr];refine ⟨trivial,?_⟩;simp only [If,if_pos h];congr 3;push_cast;omega
   ·right;simp (disch:=omega) only [Sq,hc,hx,h1,xe,EVP,EV,simprocAttr];simp [If,h,Out.goes]
  ·simp (disch:=omega) only [Sq,xe,EVP,EV,simprocAttr];simp [If,Out.goes]
 simpa using key
theorem Fz3 (l:List Rec) (hw:∀r∈l,r.wf) (N:Nat) (hN:l.length<N) (hl:l.length≤1000000):
  Dw7.ev S N [Al l]=some (.yld 0 [Al (sortR l)]):=by
 refine J7 l (fun i (g:List Rec)=>[Al g, .i .i64 (i:Int)]) (fun i g r=> .yld 0 [Al (r.foldl (fun acc x=>Tz x acc) g)]) (fun i g=>g.length≤i∧∀r∈g,r.wf) [] rfl ⟨Af _,fun r h=>by cases h⟩ hN (fun i g c r hd hi hc hI=> ?_) (fun g hI=> ?_)
 ·left;obtain ⟨h1,h2⟩:=hI;have hcw:=hw c (A8 hc);have h3:=Fz2 l g i c hc hw h2 N (by omega) (by omega);have h4:=ff c g;have h5:=Ty c g;refine ⟨Tz c g,?_,⟨by omega,fun r hr=> ?_⟩,rfl⟩
  ·rw [Aq6];cases h6:g[If c g]? with
   |none=>
    have h7:=List.getElem?_eq_none_iff.1 h6;have h8:If c g=g.length:=by omega
    simp (disch:=first|omega|(simp;omega)) only [Sq,hc,h3,h8,xe,EVP,EV,simprocAttr];simp
   |some y=>
    have h7:=(Aq.1 h6).1;have h8:=W7 y c (h2 y (A8 h6)) hcw;by_cases h9:N2 y c=0
    ·by_cases h10:c.ttl<y.ttl
     ·simp (disch:=omega) only [Sq,hc,h3,h6,h8,h9,h10,xe,EVP,EV,simprocAttr]
     ·simp (disch:=omega) only [Sq,hc,h3,h6,h8,h9,h10,xe,EVP,EV,simprocAttr]
    ·simp (disch:=first|omega|(simp;omega)) only [Sq,hc,h3,h6,h8,h9,xe,EVP,EV,simprocAttr];simp
  ·rcases insR_mem c g r hr with h|h
   ·subst h;exact hcw
   ·exact h2 r h
 ·simp (disch:=omega) only [Sq,xe,EVP,EV,simprocAttr];simp [Out.goes]
theorem Ct7 (l:List Rec) (hw:∀r∈l,r.wf) (hl:l.length≤1000000):S y0 1 [Al l]=some [Al (sortR l)]:=by refine Hy9 (N:=l.length+1) rfl ?_;simp (disch:=omega) only [Sq,Fz3 l hw,xe,EVP,EV,simprocAttr]
end Go.X.G
/- Zones: what the reference's check gives. -/
namespace Go.X.G
open Go Go.X
def i5 (n top:List UInt8):Bool:=decide (n≠top) && under n top
def Hs5 (l:List Rec) (n:List UInt8) (t:Int):Bool:=decide (0<(findR l n t).length)
def T9 (r x:Rec):Bool:=
 !decide (x.name=r.name)||(!(decide (x.typ=r.typ) && decide (r.typ≠46) && decide (x.ttl≠r.ttl)) && !(decide (x.typ=r.typ) && (decide (r.typ=6)||decide (r.typ=5)||decide (r.typ=39)) && decide (x≠r)) &&
  !(decide (r.typ=5) && decide (x.typ≠5) && decide (x.typ≠46) && decide (x.typ≠47)))
def Bp5 (z:Zone) (r:Rec):Bool:=z.recs.all (T9 r)
def Cf5 (z:Zone) (r x:Rec):Bool:=
 !(decide (x.typ=39) && i5 r.name x.name) && !(decide (x.typ=2) && i5 x.name z.origin && i5 r.name x.name && decide (r.typ≠1) && decide (r.typ≠28))
def Eh0 (t:Int):Bool:=decide (t=2)||decide (t=43)||decide (t=47)||decide (t=46)||decide (t=1)||decide (t=28)
def Eh1 (z:Zone) (r:Rec):Bool:=
 if (lbl r.name)[0]? =some [42]∧(r.typ=2∨r.typ=39) then false
 else z.recs.all (Cf5 z r) && (if i5 r.name z.origin && Hs5 z.recs r.name 2 then Eh0 r.typ else decide (r.typ≠43))
def Eg7 (z:Zone) (r:Rec):Bool:=under r.name z.origin && !(decide (r.typ=6) && decide (r.name≠z.origin)) && Bp5 z r && Eh1 z r
end Go.X.G
/- The order of records; what a checked zone is like. -/
namespace Go.X.G
open Go Go.X
theorem TO.prod {α β:Type} {l1:α→α→Prop} {l2:β→β→Prop} (h1:TO l1) (h2:TO l2):TO (fun p q:α×β=>l1 p.1 q.1∨(p.1=q.1∧l2 p.2 q.2)) where
 irr:=fun p h=>by
  rcases h with h|⟨_,h⟩
  ·exact h1.irr _ h
  ·exact h2.irr _ h
 tr:=fun p q r a b=>by
  rcases a with a|⟨a,a'⟩<;>rcases b with b|⟨b,b'⟩
  ·exact .inl (h1.tr _ _ _ a b)
  ·exact .inl (b▸a)
  ·exact .inl (a▸b)
  ·exact .inr ⟨a.trans b,h2.tr _ _ _ a' b'⟩
 tri:=fun p q=>by
  rcases h1.tri p.1 q.1 with a|a|a
  ·exact .inl (.inl a)
  ·rcases h2.tri p.2 q.2 with b|b|b
   ·exact .inl (.inr ⟨a,b⟩)
   ·exact .inr (.inl (Prod.ext a b))
   ·exact .inr (.inr (.inr ⟨a.symm,b⟩))
  ·exact .inr (.inr (.inl a))
theorem Gm9:TO (fun a b:Int=>a<b):=⟨fun a h=>by omega,fun a b c h1 h2=>by omega,fun a b=>by omega⟩
theorem gp (a b:Int):Z7 a b<0↔a<b:=by unfold Z7;split<;>(try split)<;>omega
theorem Mq (a b:Int):Z7 a b=0↔a=b:=by unfold Z7;split<;>(try split)<;>omega
abbrev Key:=List UInt8×Int×List UInt8
abbrev ltK:Key→Key→Prop:=fun p q=>ltN p.1 q.1∨(p.1=q.1∧(p.2.1<q.2.1∨(p.2.1=q.2.1∧ltB p.2.2 q.2.2)))
theorem Ht0:TO ltK:=to_N.prod (Gm9.prod Dj7)
def Hs4 (r:Rec):Key:=(r.name,r.typ,Hc r.typ r.data)
abbrev ltR (a b:Rec):Prop:=ltK (Hs4 a) (Hs4 b)
structure ZOk (z:Zone):Prop where
 origin:vld z.origin=true
 small:z.recs.length≤2048
 valid:∀r∈z.recs,Hs9 r=true
 rising:z.recs.Pairwise ltR
 soa:(findR z.recs z.origin 6).length=1
 ns:Hs5 z.recs z.origin 2=true
 recs:∀r∈z.recs,Eg7 z r=true
theorem ZOk.beside {z:Zone} (h:ZOk z) {r x:Rec} (hr:r∈z.recs) (hx:x∈z.recs):T9 r x=true:=by have:=h.recs r hr;unfold Eg7 at this;simp only [Ax] at this;have h2:=this.1.2;unfold Bp5 at h2;exact Cy.1 h2 x hx
theorem ZOk.under {z:Zone} (h:ZOk z) {r:Rec} (hr:r∈z.recs):under r.name z.origin=true:=by have:=h.recs r hr;unfold Eg7 at this;simp only [Ax] at this;exact this.1.1.1
theorem ZOk.single {z:Zone} (h:ZOk z) (n:List UInt8) (t:Int) (ht:t=6∨t=5∨t=39):(findR z.recs n t).length≤1:=by
 have hp:(findR z.recs n t).Pairwise ltR:=h.rising.filter _;have hm:∀x∈findR z.recs n t,x∈z.recs∧x.name=n∧x.typ=t:=fun x hx=>by obtain ⟨h1,h2⟩:=Fj.1 hx;simp only [isK,Ax,decide_eq_true_eq] at h2;exact ⟨h1,h2.1,h2.2⟩
 generalize findR z.recs n t=l at*
 match l,hp,hm with
 |[],_,_=>simp
 |[_],_,_=>simp
 |a::b::r,hp,hm=>
  exfalso;have hab:ltR a b:=(Bv.1 hp).1 b (.head _);obtain ⟨a1,a2,a3⟩:=hm a (.head _);obtain ⟨b1,b2,b3⟩:=hm b (.tail _ (.head _));have hb:=h.beside a1 b1;have e:b=a:=by
   unfold T9 at hb;rw [a2,a3,b2,b3] at hb;have ht':(decide (t=6)||decide (t=5)||decide (t=39))=true:=by rcases ht with h|h|h<;>simp [h]
   rw [ht'] at hb;simp only [decide_true,Xs,Bool.false_or,Mb,Bool.true_and,Ax,Bs,decide_eq_false_iff_not,ne_eq,Classical.not_not] at hb;exact hb.1.2
  rw [e] at hab;exact Ht0.irr _ hab
end Go.X.G
/- The order of any records; what is sorted stably and made compact is what the reference Vy. -/
namespace Go.X.G
open Go Go.X
def Et1 (t:Int) (d:Dat):Int×List UInt8:=if Dk t d=true then (0,Hc t d) else (1,[])
abbrev ltD:Int×List UInt8→Int×List UInt8→Prop:=fun p q=>p.1<q.1∨(p.1=q.1∧ltB p.2 q.2)
theorem Ht1:TO ltD:=Gm9.prod Dj7
theorem Cr9 (t:Int) (a b:Dat):Cs0 t a b<0↔ltD (Et1 t a) (Et1 t b):=by unfold Cs0 Et1 ltD;rcases Ad (Dk t a) with h1|h1<;>rcases Ad (Dk t b) with h2|h2<;>simp [h1,h2,T1,Dj7.irr]
theorem Ax5 (t:Int) (a b:Dat):Cs0 t a b=0↔Et1 t a=Et1 t b:=by unfold Cs0 Et1;rcases Ad (Dk t a) with h1|h1<;>rcases Ad (Dk t b) with h2|h2<;>simp [h1,h2,Ij]
abbrev Gm6:=List UInt8×Int×Int×List UInt8
abbrev ltF:Gm6→Gm6→Prop:=fun p q=>ltN p.1 q.1∨(p.1=q.1∧(p.2.1<q.2.1∨(p.2.1=q.2.1∧ltD p.2.2 q.2.2)))
theorem to_F:TO ltF:=to_N.prod (Gm9.prod Ht1)
def E4 (r:Rec):Gm6:=(r.name,r.typ,Et1 r.typ r.data)
theorem T3 (a b:Rec):N2 a b<0↔ltF (E4 a) (E4 b):=by
 unfold N2 ltF E4;simp only;by_cases h1:H8 a.name b.name=0
 ·rw [if_neg (by simp [h1])];have e1:=Mk.1 h1;have n1:¬ltN a.name b.name:=by rw [e1];exact to_N.irr _
  by_cases h2:Z7 a.typ b.typ=0
  ·rw [if_neg (by simp [h2])];have e2:=(Mq _ _).1 h2;rw [e2,Cr9];constructor
   ·intro h;exact .inr ⟨e1, .inr ⟨rfl,h⟩⟩
   ·rintro (h|⟨_,h|⟨_,h⟩⟩)
    ·exact absurd h n1
    ·omega
    ·exact h
  ·rw [if_pos h2,gp];have e2:a.typ≠b.typ:=fun e=>h2 ((Mq _ _).2 e);constructor
   ·intro h;exact .inr ⟨e1, .inl h⟩
   ·rintro (h|⟨_,h|⟨h,_⟩⟩)
    ·exact absurd h n1
    ·exact h
    ·exact absurd h e2
 ·rw [if_pos h1,Ex];have e1:a.name≠b.name:=fun e=>h1 (Mk.2 e);constructor
  ·intro h;exact .inl h
  ·rintro (h|⟨h,_⟩)
   ·exact h
   ·exact absurd h e1
theorem Kq (a b:Rec):N2 a b=0↔E4 a=E4 b:=by
 unfold N2 E4;by_cases h1:H8 a.name b.name=0
 ·rw [if_neg (by simp [h1])];have e1:=Mk.1 h1;by_cases h2:Z7 a.typ b.typ=0
  ·rw [if_neg (by simp [h2])];have e2:=(Mq _ _).1 h2;rw [e2,Ax5];simp [e1]
  ·rw [if_pos h2];have e2:a.typ≠b.typ:=fun e=>h2 ((Mq _ _).2 e);constructor
   ·intro h;exact absurd h h2
   ·intro h;injection h with _ h;injection h with h _;exact absurd h e2
 ·rw [if_pos h1];have e1:a.name≠b.name:=fun e=>h1 (Mk.2 e);constructor
  ·intro h;exact absurd h h1
  ·intro h;injection h with h _;exact absurd h e1
def Et6 (a b:Rec):Int:=if N2 a b≠0 then N2 a b else Z7 a.ttl b.ttl
abbrev ltT:Gm6×Int→Gm6×Int→Prop:=fun p q=>ltF p.1 q.1∨(p.1=q.1∧p.2<q.2)
theorem to_T:TO ltT:=to_F.prod Gm9
theorem Cr8 (a b:Rec):Et6 a b<0↔ltT (E4 a,a.ttl) (E4 b,b.ttl):=by
 unfold Et6;by_cases h:N2 a b=0
 ·have e:=(Kq a b).1 h;rw [if_neg (by simp [h]),gp];simp only [ltT,e,true_and];exact ⟨.inr,fun q=>q.resolve_left (to_F.irr _)⟩
 ·rw [if_pos h,T3];have e:E4 a≠E4 b:=fun e=>h ((Kq a b).2 e);simp only [ltT,e,false_and,or_false]
def leR (a b:Rec):Bool:= !decide (Et6 b a<0)
theorem K2 (a b:Rec):leR a b=true↔¬ltT (E4 b,b.ttl) (E4 a,a.ttl):=by unfold leR;simp [←Cr8]
theorem Hj4:TP leR where
 tr:=fun a b c h1 h2=>by rw [K2] at*;exact to_T.ntr h2 h1
 tot:=fun a b=>by
  simp only [K2];rcases to_T.tri (E4 a,a.ttl) (E4 b,b.ttl) with h|h|h
  ·exact .inl (to_T.asym h)
  ·rw [h];exact .inl (to_T.irr _)
  ·exact .inr (to_T.asym h)
theorem Av6 (a b:Rec):eqv leR a b=true↔E4 a=E4 b∧a.ttl=b.ttl:=by
 unfold eqv;rw [Ax,K2,K2];constructor
 ·rintro ⟨h1,h2⟩;rcases to_T.tri (E4 a,a.ttl) (E4 b,b.ttl) with h|h|h
  ·exact absurd h h2
  ·injection h with h3 h4;exact ⟨h3,h4⟩
  ·exact absurd h h1
 ·rintro ⟨h1,h2⟩;rw [h1,h2];exact ⟨to_T.irr _,to_T.irr _⟩
theorem Sd {α:Type} {P:List α→Prop} (h0:P []) (h1:∀l x,P l→P (l++[x])):∀(n:Nat) (l:List α),l.length=n→P l
 |0,l,h=>by rw [Bq h];exact h0
 |n+1,l,h=>by
  have hne:l≠[]:=fun e=>by rw [e] at h;simp at h
  rw [←List.dropLast_concat_getLast hne];exact h1 _ _ (Sd h0 h1 n _ (by rw [List.length_dropLast];omega))
def Eb2 (l:List Rec) (z:Rec):Prop:=∃l1 l2,l=l1++z::l2∧(∀y∈l1,E4 y=E4 z→z.ttl<y.ttl)∧∀y∈l2,E4 y=E4 z→z.ttl≤y.ttl
theorem Eb2.mem {l:List Rec} {z:Rec} (h:Eb2 l z):z∈l:=by obtain ⟨l1,l2,rfl,_⟩:=h;simp
theorem Hy (l:List Rec) (x z:Rec):Eb2 (l++[x]) z↔(z=x∧∀y∈l,E4 y=E4 x→x.ttl<y.ttl)∨(Eb2 l z∧(E4 z=E4 x→z.ttl≤x.ttl)):=by
 constructor
 ·rintro ⟨l1,l2,h,h1,h2⟩;rcases List.eq_nil_or_concat l2 with rfl|⟨l3,w,rfl⟩
  ·obtain ⟨q1,q2⟩:=List.append_inj' h rfl;injection q2 with q2 _;subst q1;subst q2;exact .inl ⟨rfl,h1⟩
  ·rw [List.concat_eq_append,←B4,←As] at h;obtain ⟨q1,q2⟩:=List.append_inj' h rfl;injection q2 with q2 _;subst q1;subst q2;refine .inr ⟨⟨l1,l3,rfl,h1,fun y hy=>h2 y (by simp [hy])⟩,fun e=>h2 x (by simp) e.symm⟩
 ·rintro (⟨rfl,h⟩|⟨⟨l1,l2,rfl,h1,h2⟩,h⟩)
  ·exact ⟨l,[],rfl,h,fun y hy=>by simp at hy⟩
  ·refine ⟨l1,l2++[x],by simp,h1,fun y hy e=> ?_⟩;rcases Cb.1 hy with hy|hy
   ·exact h2 y hy e
   ·have:y=x:=by simpa using hy
    subst this;exact h e.symm
theorem Fy2 (l:List Rec):∀y∈l,∃z,Eb2 l z∧E4 z=E4 y∧z.ttl≤y.ttl:=by
 refine Sd (P:=fun l=>∀y∈l,∃z,Eb2 l z∧E4 z=E4 y∧z.ttl≤y.ttl) ?_ ?_ _ l rfl
 ·intro y h;simp at h
 ·intro l x ih y hy;by_cases hx:∀w∈l,E4 w=E4 x→x.ttl<w.ttl
  ·rcases Cb.1 hy with hy|hy
   ·obtain ⟨z,h1,h2,h3⟩:=ih y hy;by_cases e:E4 z=E4 x∧x.ttl<z.ttl
    ·exact ⟨x,(Hy l x x).2 (.inl ⟨rfl,hx⟩),by rw [←e.1,h2],by have:=e.2;omega⟩
    ·exact ⟨z,(Hy l x z).2 (.inr ⟨h1,fun q=>Int.le_of_not_gt fun r=>e ⟨q,r⟩⟩),h2,h3⟩
   ·have:y=x:=by simpa using hy
    subst this;exact ⟨y,(Hy l y y).2 (.inl ⟨rfl,hx⟩),rfl,Hs0 _⟩
  ·have:∃w∈l,E4 w=E4 x∧w.ttl≤x.ttl:=by apply Classical.byContradiction;intro h;exact hx fun w hw e=>Int.lt_of_not_ge fun q=>h ⟨w,hw,e,q⟩
   obtain ⟨w,hw,hw1,hw2⟩:=this;obtain ⟨z,h1,h2,h3⟩:=ih w hw;rcases Cb.1 hy with hy|hy
   ·obtain ⟨z',g1,g2,g3⟩:=ih y hy;by_cases e:E4 z'=E4 x∧x.ttl<z'.ttl
    ·exact ⟨z,(Hy l x z).2 (.inr ⟨h1,fun _=>by omega⟩),by rw [h2,hw1,←e.1,g2],by have:=e.2;omega⟩
    ·exact ⟨z',(Hy l x z').2 (.inr ⟨g1,fun q=>Int.le_of_not_gt fun r=>e ⟨q,r⟩⟩),g2,g3⟩
   ·have:y=x:=by simpa using hy
    subst this;exact ⟨z,(Hy l y z).2 (.inr ⟨h1,fun _=>by omega⟩),by rw [h2,hw1],by omega⟩
abbrev Dq3 (l:List Rec):Prop:=l.Pairwise fun a b=>ltF (E4 a) (E4 b)
theorem Aq5 (x:Rec):∀(l:List Rec),Dq3 l→(Dq3 (Tz x l)∧∀z,z∈Tz x l↔(z=x∧∀y∈l,E4 y=E4 x→x.ttl<y.ttl)∨(z∈l∧(E4 z=E4 x→z.ttl≤x.ttl)))
 |[],_=>by simp [Tz]
 |y::r,h=>by
  obtain ⟨h1,h2⟩:=Bv.1 h;obtain ⟨i1,i2⟩:=Aq5 x r h2;simp only [Tz];by_cases c:N2 y x<0
  ·rw [if_pos c];have c':=(T3 y x).1 c;have ne:E4 y≠E4 x:=fun e=>to_F.irr _ (by rw [e] at c';exact c');refine ⟨Bv.2 ⟨fun w hw=> ?_,i1⟩,fun z=> ?_⟩
   ·rcases (i2 w).1 hw with ⟨rfl,_⟩|⟨hw,_⟩
    ·exact c'
    ·exact h1 w hw
   ·rw [Ap,i2];simp only [Ap,forall_eq_or_imp,ne,false_implies,true_and];constructor
    ·rintro (rfl|h|⟨h,h'⟩)
     ·exact .inr ⟨.inl rfl,fun e=>absurd e ne⟩
     ·exact .inl h
     ·exact .inr ⟨.inr h,h'⟩
    ·rintro (h|⟨rfl|h,h'⟩)
     ·exact .inr (.inl h)
     ·exact .inl rfl
     ·exact .inr (.inr ⟨h,h'⟩)
  ·rw [if_neg c];by_cases e:N2 y x=0
   ·have ke:=(Kq y x).1 e;have hr:∀w∈r,E4 w≠E4 x:=fun w hw q=>to_F.irr (E4 y) (by have:=h1 w hw;rw [q,←ke] at this;exact this);rw [if_pos e];by_cases t:x.ttl<y.ttl
    ·rw [if_pos t];refine ⟨Bv.2 ⟨fun w hw=>by rw [←ke];exact h1 w hw,h2⟩,fun z=> ?_⟩;simp only [Ap,forall_eq_or_imp,ke,t,true_implies,true_and];constructor
     ·rintro (rfl|h)
      ·exact .inl ⟨rfl,fun w hw q=>absurd q (hr w hw)⟩
      ·exact .inr ⟨.inr h,fun q=>absurd q (hr z h)⟩
     ·rintro (⟨h,_⟩|⟨rfl|h,h'⟩)
      ·exact .inl h
      ·have:=h' ke;omega
      ·exact .inr h
    ·rw [if_neg t];refine ⟨h,fun z=> ?_⟩;simp only [Ap,forall_eq_or_imp,ke,t,false_and,and_false,false_or,forall_const,true_implies];constructor
     ·rintro (rfl|h)
      ·exact ⟨.inl rfl,fun _=>by omega⟩
      ·exact ⟨.inr h,fun q=>absurd q (hr z h)⟩
     ·exact fun h=>h.1
   ·rw [if_neg e];have hxy:ltF (E4 x) (E4 y):=by
     rcases to_F.tri (E4 x) (E4 y) with q|q|q
     ·exact q
     ·exact absurd ((Kq y x).2 q.symm) e
     ·exact absurd ((T3 y x).2 q) c
    have hall:∀w∈y::r,ltF (E4 x) (E4 w):=fun w hw=>by
     rcases Ap.1 hw with rfl|hw
     ·exact hxy
     ·exact to_F.tr _ _ _ hxy (h1 w hw)
    have hne:∀w∈y::r,E4 w≠E4 x:=fun w hw q=>to_F.irr _ (by have:=hall w hw;rw [q] at this;exact this);refine ⟨Bv.2 ⟨hall,h⟩,fun z=> ?_⟩;rw [Ap];constructor
    ·rintro (rfl|h)
     ·exact .inl ⟨rfl,fun w hw q=>absurd q (hne w hw)⟩
     ·exact .inr ⟨h,fun q=>absurd q (hne z h)⟩
    ·rintro (⟨h,_⟩|⟨h,_⟩)
     ·exact .inl h
     ·exact .inr h
theorem jg (l:List Rec):Dq3 (sortR l)∧∀z,z∈sortR l↔Eb2 l z:=by
 refine Sd (P:=fun l=>Dq3 (sortR l)∧∀z,z∈sortR l↔Eb2 l z) ?_ ?_ _ l rfl
 ·refine ⟨List.Pairwise.nil,fun z=>⟨fun h=>by simp [sortR] at h,fun h=>by have:=h.mem;simp at this⟩⟩
 ·intro l x ih;have e:sortR (l++[x])=Tz x (sortR l):=by simp [sortR]
  obtain ⟨i1,i2⟩:=Aq5 x (sortR l) ih.1;rw [e];refine ⟨i1,fun z=> ?_⟩;rw [i2,Hy,ih.2];have:(∀y∈sortR l,E4 y=E4 x→x.ttl<y.ttl)↔∀y∈l,E4 y=E4 x→x.ttl<y.ttl:=by
   constructor
   ·intro h y hy q;obtain ⟨w,w1,w2,w3⟩:=Fy2 l y hy;have:=h w ((ih.2 w).2 w1) (by rw [w2,q]);omega
   ·intro h y hy q;exact h y ((ih.2 y).1 hy).mem q
  rw [this]
theorem sj:∀(a b:List Rec),Dq3 a→Dq3 b→(∀x,x∈a↔x∈b)→a=b
 |[],[],_,_,_=>rfl
 |[],y::b,_,_,h=>absurd ((h y).2 (.head _)) (by simp)
 |x::a,[],_,_,h=>absurd ((h x).1 (.head _)) (by simp)
 |x::a,y::b,ha,hb,h=>by
  have ha':=Bv.1 ha;have hb':=Bv.1 hb;have hxy:x=y:=by
   rcases Ap.1 ((h x).1 (.head _)) with h1|h1
   ·exact h1
   ·rcases Ap.1 ((h y).2 (.head _)) with h2|h2
    ·exact h2.symm
    ·exact absurd (hb'.1 x h1) (to_F.asym (ha'.1 y h2))
  subst hxy;rw [sj a b ha'.2 hb'.2 fun z=> ?_];constructor
  ·intro hz;rcases Ap.1 ((h z).1 (.tail _ hz)) with rfl|h1
   ·exact absurd (ha'.1 z hz) (to_F.irr _)
   ·exact h1
  ·intro hz;rcases Ap.1 ((h z).2 (.tail _ hz)) with rfl|h1
   ·exact absurd (hb'.1 z hz) (to_F.irr _)
   ·exact h1
abbrev eqF:Rec→Rec→Bool:=fun a b=>decide (N2 a b=0)
theorem Dx7:∀(r:List Rec) (p:Rec),(p::r).Pairwise (fun a b=>leR a b=true)→(Dq3 (p::N1 eqF p r)∧∀z,z∈N1 eqF p r↔∃s1 s2,r=s1++z::s2∧∀y∈p::s1,E4 y≠E4 z)
 |[],p,_=>by simp [N1]
 |c::r,p,h=>by
  obtain ⟨h1,h2⟩:=Bv.1 h;obtain ⟨i1,i2⟩:=Dx7 r c h2;have hpc:=(K2 p c).1 (h1 c (.head _));simp only [N1];by_cases e:N2 c p=0
  ·rw [if_pos (by simp [e])];have ke:=(Kq c p).1 e;refine ⟨?_,fun z=> ?_⟩
   ·obtain ⟨j1,j2⟩:=Bv.1 i1;exact Bv.2 ⟨fun w hw=>by rw [←ke];exact j1 w hw,j2⟩
   ·rw [i2];constructor
    ·rintro ⟨s1,s2,rfl,q⟩;refine ⟨c::s1,s2,rfl,fun y hy=> ?_⟩;rcases Ap.1 hy with rfl|hy
     ·rw [←ke];exact q c (.head _)
     ·exact q y hy
    ·rintro ⟨s1,s2,h,q⟩;cases s1 with
     |nil=>
      injection h with h _;subst h;exact absurd ke.symm (q p (.head _))
     |cons w s1=>
      injection h with h h';subst h;exact ⟨s1,s2,h',fun y hy=>q y (.tail _ hy)⟩
  ·rw [if_neg (by simp [e])];have ne:E4 c≠E4 p:=fun q=>e ((Kq c p).2 q);have hlt:ltF (E4 p) (E4 c):=by
    rcases to_F.tri (E4 p) (E4 c) with q|q|q
    ·exact q
    ·exact absurd q.symm ne
    ·exact absurd (.inl q) hpc
   obtain ⟨j1,j2⟩:=Bv.1 i1;refine ⟨Bv.2 ⟨fun w hw=> ?_,i1⟩,fun z=> ?_⟩
   ·rcases Ap.1 hw with rfl|hw
    ·exact hlt
    ·exact to_F.tr _ _ _ hlt (j1 w hw)
   ·rw [Ap];constructor
    ·rintro (rfl|hz)
     ·exact ⟨[],r,rfl,fun y hy=>by have:y=p:=by simpa using hy
                                   subst this;exact ne.symm⟩
     ·obtain ⟨s1,s2,rfl,q⟩:=(i2 z).1 hz;refine ⟨c::s1,s2,rfl,fun y hy=> ?_⟩;rcases Ap.1 hy with rfl|hy
      ·intro q2;exact to_F.irr _ (by have:=to_F.tr _ _ _ hlt (j1 z hz);rw [q2] at this;exact this)
      ·exact q y hy
    ·rintro ⟨s1,s2,h,q⟩;cases s1 with
     |nil=>injection h with h _;exact .inl h.symm
     |cons w s1=>
      injection h with h h';subst h;exact .inr ((i2 z).2 ⟨s1,s2,h',fun y hy=>q y (.tail _ hy)⟩)
theorem Hr0 (s:List Rec) (h:s.Pairwise fun a b=>leR a b=true):Dq3 (cpt eqF s)∧∀z,z∈cpt eqF s↔∃s1 s2,s=s1++z::s2∧∀y∈s1,E4 y≠E4 z:=by
 cases s with
 |nil=>simp [cpt]
 |cons p r=>
  obtain ⟨i1,i2⟩:=Dx7 r p h;refine ⟨i1,fun z=> ?_⟩;show z∈p::N1 eqF p r↔_;rw [Ap,i2];constructor
  ·rintro (rfl|⟨s1,s2,rfl,q⟩)
   ·exact ⟨[],r,rfl,by simp⟩
   ·exact ⟨p::s1,s2,rfl,q⟩
  ·rintro ⟨s1,s2,h,q⟩;cases s1 with
   |nil=>injection h with h _;exact .inl h.symm
   |cons w s1=>
    injection h with h h';subst h;exact .inr ⟨s1,s2,h',q⟩
theorem Cb9 {s l:List Rec} (h:Stab leR s l):cpt eqF s=sortR l:=by
 obtain ⟨i1,i2⟩:=Hr0 s h.sorted;obtain ⟨j1,j2⟩:=jg l;refine sj _ _ i1 j1 fun z=> ?_;rw [i2,j2];have hz:eqv leR z z=true:=(Av6 z z).2 ⟨rfl,rfl⟩;have hm:=h.mem Hj4;constructor
 ·rintro ⟨s1,s2,rfl,q⟩;have hs1:s1.filter (eqv leR z)=[]:=by rw [R5];intro y hy hyz;exact q y hy ((Av6 z y).1 hyz).1.symm
  have hc:=h.cls z;rw [I4,hs1,C7,Ev hz] at hc;obtain ⟨l1,l2,rfl,g1,_,_⟩:=List.filter_eq_cons_iff.1 hc.symm;have key:∀y,y∈l1++z::l2→E4 y=E4 z→z.ttl≤y.ttl:=fun y hy e=>by
   rcases Cb.1 ((hm y).2 hy) with w|w
   ·exact absurd e (q y w)
   ·rcases Ap.1 w with rfl|w
    ·exact Hs0 _
    ·have:=(K2 z y).1 ((Bv.1 (K9.1 h.sorted).2.1).1 y w);exact Int.le_of_not_gt fun t=>this (.inr ⟨e,t⟩)
  refine ⟨l1,l2,rfl,fun y hy e=> ?_,fun y hy e=>key y (by simp [hy]) e⟩;have k1:=key y (by simp [hy]) e;have k2:=g1 y hy;rw [Av6] at k2;have:z.ttl≠y.ttl:=fun t=>k2 ⟨e.symm,t⟩;omega
 ·rintro ⟨l1,l2,rfl,q1,q2⟩;have hl1:l1.filter (eqv leR z)=[]:=by rw [R5];intro y hy hyz;obtain ⟨a,b⟩:=(Av6 z y).1 hyz;have:=q1 y hy a.symm;omega
  have hc:=h.cls z;rw [I4,hl1,C7,Ev hz] at hc;obtain ⟨s1,s2,rfl,g1,_,_⟩:=List.filter_eq_cons_iff.1 hc;refine ⟨s1,s2,rfl,fun y hy e=> ?_⟩;have k1:=(K2 y z).1 ((K9.1 h.sorted).2.2 y hy z (by simp));have k2:¬z.ttl<y.ttl:=fun t=>k1 (.inr ⟨e.symm,t⟩);have k3:z.ttl≤y.ttl:=by
   rcases Cb.1 ((hm y).1 (by simp [hy])) with w|w
   ·have:=q1 y w e;omega
   ·rcases Ap.1 w with rfl|w
    ·exact Hs0 _
    ·exact q2 y w e
  exact g1 y hy ((Av6 z y).2 ⟨e.symm,by omega⟩)
end Go.X.G
/- Valid data are known by their bytes; records that are alike. -/
namespace Go.X.G
open Go Go.X
end Go.X.G
