/- Names: what the reference's functions give. -/
import Derived.Test.YtkpbcoeiijddpaaGreatDoorRrsetSetsG7
import Derived.Test.YtkpbcoeiijddpaaGreatDoorRrsetSetsG8
open Bool renaming and_eq_true→Ax,false_eq_true→Ac,eq_false_or_eq_true→Ad,or_eq_true→An,not_eq_true'→Cq,eq_iff_iff→Fv,and_true→Mq,not_true→Xs
open Int renaming le_refl→Ik4
open List renaming getElem?_eq_some_iff→Aq,getElem?_eq_getElem→Az,length_append→Ab,append_assoc→Ap,mem_cons→A6,length_cons→A9,eq_nil_of_length_eq_zero→Bq,getD_eq_getElem?_getD→Bw,mem_of_getElem?→By,length_pos_iff→Bg,pairwise_cons→Bh,cons_append→B0,mem_append→B5,all_eq_true→Cd,getElem?_cons_zero→Cl,nil_append→C0,drop_eq_getElem_cons→C1,getElem?_cons_succ→C8,take_add_one→D8,filter_cons_of_pos→Ev,drop_zero→Ez,mem_filter→Ef,take_length→En,drop_eq_nil_of_le→Ep,filter_append→I5,length_map→K4,pairwise_append→K5,filter_cons→N9,filter_eq_nil_iff→Rn,flatMap_cons→cm
open Nat renaming le_refl→Af,zero_le→Cv
open Option renaming map_eq_some_iff→Av,map_some→A3
set_option maxHeartbeats 1000000
set_option linter.unusedVariables false
set_option linter.unusedSimpArgs false
namespace Go.X.G
open Go Go.X
def M0 (c:UInt8):Bool:=decide (97≤(c.toNat:Int)) && decide ((c.toNat:Int)≤122)||decide (48≤(c.toNat:Int)) && decide ((c.toNat:Int)≤57)||decide ((c.toNat:Int)=45)||decide ((c.toNat:Int)=95)
theorem nv (c:UInt8):(decide (97≤(c.toNat:Int)) && decide ((c.toNat:Int)≤122)||decide (48≤(c.toNat:Int)) && decide ((c.toNat:Int)≤57)||decide ((c.toNat:Int)=45)||decide ((c.toNat:Int)=95))=M0 c:=rfl
def I4 (s:List UInt8):Bool:=decide (s=[42])||(decide (1≤s.length) && decide (s.length≤63) && s.all M0)
theorem ny (s:List UInt8) (N:Nat) (hN:s.length<N) (hs:s.length≤4294967296):
  Dw2.ev S N [.s s]=some (if s.all M0=true then .yld 0 [] else .ret [.b false]):=by
 refine F0 s (fun i=>[.i .i64 (i:Int)]) (fun i r=>if r.all M0=true then .yld 0 [] else .ret [.b false]) rfl hN (fun i c r hd hi hc=> ?_) ?_
 ·simp (disch:=omega) only [Eh5,xe,EV,simprocAttr,hc,nv];cases h:M0 c<;>simp [h,Out.goes]
 ·simp (disch:=omega) [Eh5,xe,EV,simprocAttr,Out.goes]
theorem nx (s:List UInt8) (hs:s.length≤4294967296):S xp 1 [.s s]=some [.b (I4 s)]:=by
 refine Hw7 (N:=s.length+1) rfl ?_;simp (disch:=omega) only [Eh5,ny,xe,EV,simprocAttr];unfold I4
 grind
end Go.X.G
/- Names: what the reference's functions give. -/
namespace Go.X.G
open Go Go.X
def spl (first:Bool) (cur:List UInt8):List UInt8→Option (List (List UInt8))
 |[]=>some []
 |c::r=>if c=46 then (if I4 cur=true∧(cur=[42]→first=true) then (spl false [] r).map (cur::·) else none) else spl first (cur++[c]) r
def nm (n:List UInt8):Option (List (List UInt8)):=
 if n=[46] then some [] else if 2≤n.length∧n.length≤254∧n[n.length - 1]? =some 46 then spl true [] n else none
def lbl (n:List UInt8):List (List UInt8):=(nm n).getD []
def vld (n:List UInt8):Bool:=(nm n).isSome
theorem Em7 {α:Type} (n:List α) (i j:Nat) (c:α) (h:n[i]? =some c) (hj:j≤i):(n.take (i+1)).drop j=(n.take i).drop j++[c]:=by have hi:i<n.length:=(Aq.1 h).1;rw [D8,h,List.drop_append_of_le_length (by simp;omega)];rfl
theorem Em8 {α:Type} (n:List α) (i:Nat):(n.take i).drop i=[]:=by rw [List.drop_eq_nil_iff];simp;omega
def Qh (l:List (List UInt8)):Option (List (List UInt8))→Out
 |some ls=> .yld 0 [.l 1 ((l++ls).map .s)]
 |none=> .ret [.l 1 [], .b false]
theorem Cc3 (n:List UInt8) (N:Nat) (hN:n.length<N) (hs:n.length≤1000):
  Dw5.ev S N [.s n]=some (Qh [] (spl true [] n)):=by
 refine E2 n (fun i (g:List (List UInt8)×Nat)=>[.l 1 (g.1.map .s), .i .i64 (g.2:Int), .i .i64 (i:Int)]) (fun i g r=>Qh g.1 (spl (decide (g.2=0)) ((n.take i).drop g.2) r)) (fun i g=>g.1.length≤i∧g.2≤i) ([],0) rfl ⟨Af _,Af _⟩ hN (fun i g c r hd hi hc hI=> ?_) (fun g hI=> ?_)
 ·obtain ⟨l,st⟩:=g;obtain ⟨h1,h2⟩:=hI;simp only at h1 h2 ⊢;have hl:((n.take i).drop st).length≤4294967296:=by simp;omega
  have hm:(l.map PV.s).length=l.length:=K4 ..;have hd':=Em0 c 46 (by omega);by_cases hdot:c=46
  ·have hdi:=hd'.2 hdot;simp (disch:=omega) only [Ug,xe,EV,simprocAttr,hc,nx];simp only [spl,if_pos hdot];by_cases h:I4 ((n.take i).drop st)=true∧((n.take i).drop st=[42]→st=0)
   ·obtain ⟨h3,h4⟩:=h;left;refine ⟨(l++[(n.take i).drop st],i+1),?_,?_,?_⟩
    ·rw [if_neg (by simp only [h3];intro h;simp at h;have:=h4 h.1;omega)];simp
    ·simp;omega
    ·simp only [Em8];rw [if_pos ⟨h3,by simpa using h4⟩];cases h9:spl false [] r<;>simp [h9,Qh]
   ·right;have h':¬(I4 ((n.take i).drop st)=true∧((n.take i).drop st=[42]→decide (st=0)=true)):=by simpa using h
    rw [if_neg h'];refine ⟨?_,rfl⟩;rw [if_pos]
    ·rfl
    ·cases h5:I4 ((n.take i).drop st)
     ·simp
     ·simp only [h5,true_and] at h;have ⟨h6,h7⟩:=Classical.not_imp.1 h;simp [h6];omega
  ·have hdi:¬(c.toNat:Int)=46:=fun h=>hdot (hd'.1 h);left;refine ⟨(l,st),?_,?_,?_⟩
   ·simp (disch:=omega) only [Ug,xe,EV,simprocAttr,hc]
   ·simp only;omega
   ·simp only [spl];rw [if_neg hdot,Em7 n i st c hc h2]
 ·simp (disch:=omega) [Ug,xe,EV,simprocAttr,Out.goes,spl,Qh]
theorem split_ok (n:List UInt8) (hs:n.length≤9223372036854775807):S V2 1 [.s n]=some [Cp (lbl n), .b (vld n)]:=by
 refine Hy8 (N:=n.length+1) rfl ?_;unfold Cp lbl vld nm;by_cases h1:n=[46]
 ·simp (disch:=omega) [Ug,xe,EV,simprocAttr,h1]
 ·rw [if_neg h1];by_cases h2:n.length<2
  ·simp (disch:=omega) only [Ug,xe,EV,simprocAttr,h1];have h3:¬(2≤n.length∧n.length≤254∧n[n.length - 1]? =some 46):=by omega
   rw [if_neg h3];rfl
  ·by_cases h3:254<n.length
   ·simp (disch:=omega) only [Ug,xe,EV,simprocAttr,h1];have h3:¬(2≤n.length∧n.length≤254∧n[n.length - 1]? =some 46):=by omega
    rw [if_neg h3];rfl
   ·have h4:=Az (l:=n) (i:=n.length - 1) (by omega);have h5:((n.length:Int) - 1).toNat=n.length - 1:=by omega
    have h6:=Em0 (n[n.length - 1]'(by omega)) 46 (by omega);simp (disch:=omega) only [Ug,xe,EV,simprocAttr,h1,h4,h5,Cc3];by_cases h7:n[n.length - 1]'(by omega)=46
    ·rw [if_pos (show 2≤n.length∧n.length≤254∧some (n[n.length - 1]'(by omega))=some 46 from ⟨by omega,by omega,by rw [h7]⟩),if_neg (fun h=>h (h6.2 h7))];cases h8:spl true [] n
     ·simp [Qh,Bt1]
     ·simp (disch:=omega) [Ug,Qh,xe,EV,simprocAttr]
    ·rw [if_neg (show¬(2≤n.length∧n.length≤254∧some (n[n.length - 1]'(by omega))=some 46) from fun h=>h7 (by simpa using h.2.2)),if_pos (show (((n[n.length - 1]'(by omega)).toNat:Int)≠46) from fun h=>h7 (h6.1 h))];rfl
end Go.X.G
/- Names: what the reference's functions give, ctd. -/
namespace Go.X.G
open Go Go.X
theorem Yg:∀(r:List UInt8) (f:Bool) (cur:List UInt8) (l:List (List UInt8)),spl f cur r=some l→l.length≤r.length
 |[],f,cur,l,h=>by simp [spl] at h;simp [←h]
 |c::r,f,cur,l,h=>by
  simp only [spl] at h;split at h
  ·split at h
   ·obtain ⟨m,hm,rfl⟩:=Av.1 h;have:=Yg r _ _ _ hm;simp;omega
   ·cases h
  ·have:=Yg r _ _ _ h;simp;omega
theorem Gw1 {n:List UInt8} {l:List (List UInt8)} (h:nm n=some l):l.length≤254:=by
 unfold nm at h;split at h
 ·injection h with h;subst h;simp
 ·split at h
  ·rename_i h2;have:=Yg _ _ _ _ h;omega
  ·cases h
theorem Jy (n:List UInt8):(lbl n).length≤254:=by
 unfold lbl;cases h:nm n with
 |none=>simp
 |some l=>exact Gw1 h
theorem P0 (n:List UInt8) (hs:n.length≤9223372036854775807):S m8 1 [.s n]=some [.b (vld n)]:=by refine Hc3 (N:=1) rfl ?_;simp (disch:=omega) only [Hk5,split_ok,xe,EVP,EV,simprocAttr]
theorem o8 (n:List UInt8) (hs:n.length≤9223372036854775807):S V6 1 [.s n]=some [Cp (lbl n)]:=by refine Ft2 (N:=1) rfl ?_;simp (disch:=omega) only [Fm5,split_ok,xe,EVP,EV,simprocAttr]
def Td {α:Type} [DecidableEq α]:List α→List α→Nat
 |x::xs,y::ys=>if x=y then Td xs ys+1 else 0
 |_,_=>0
def Iz (a b:List (List UInt8)):Nat:=Td a.reverse b.reverse
theorem Ax1 {α:Type} [DecidableEq α]:∀(a b:List α),Td a b≤a.length∧Td a b≤b.length
 |[],b=>by simp [Td]
 |x::xs,[]=>by simp [Td]
 |x::xs,y::ys=>by have:=Ax1 xs ys;simp only [Td];split<;>simp<;>omega
theorem Cd2 (a b:List (List UInt8)):Iz a b≤a.length∧Iz a b≤b.length:=by have:=Ax1 a.reverse b.reverse;simpa [Iz] using this
theorem Ep6 (a b:List (List UInt8)) (N:Nat) (hN:a.length<N) (ha:a.length≤1000000) (hb:b.length≤1000000):
  Aj6.ev S N [Cp a,Cp b]=some (.yld 0 [.i .i64 (Iz a b:Int)]):=by
 have key:=Hw (fn:=S) (N:=N) (η:=[Cp a,Cp b]) (id:=1) (init:=[(.c (.i .i64 (0)))]) (body:=Br4) (α:=Nat) (fun k=>[.i .i64 (k:Int)]) (fun k=> .yld 0 [.i .i64 ((k+Td (a.reverse.drop k) (b.reverse.drop k):Nat):Int)]) (fun k=>k≤a.length∧k≤b.length) (fun k=>a.length - k) 0 rfl ⟨Cv _,Cv _⟩ (by omega) ?_
 ·simpa [Iz,Aj6] using key
 ·rintro k ⟨h1,h2⟩;by_cases h3:k<a.length
  ·by_cases h4:k<b.length
   ·have e1:((a.length:Int) - 1 - k).toNat=a.length - 1 - k:=by omega
    have e2:((b.length:Int) - 1 - k).toNat=b.length - 1 - k:=by omega
    have g1:a[a.length - 1 - k]? =some (a[a.length - 1 - k]'(by omega)):=Az (by omega);have g2:b[b.length - 1 - k]? =some (b[b.length - 1 - k]'(by omega)):=Az (by omega);have d1:a.reverse.drop k=(a[a.length - 1 - k]'(by omega))::a.reverse.drop (k+1):=by rw [C1 (by simpa using h3)];simp
    have d2:b.reverse.drop k=(b[b.length - 1 - k]'(by omega))::b.reverse.drop (k+1):=by rw [C1 (by simpa using h4)];simp
    simp (disch:=omega) only [Ck4,xe,EVP,EV,simprocAttr,e1,e2,g1,g2];rw [d1,d2];simp only [Td];by_cases h:a[a.length - 1 - k]'(by omega)=b[b.length - 1 - k]'(by omega)
    ·left;refine ⟨k+1,by simp [h],⟨by omega,by omega⟩,by omega,?_⟩;rw [if_pos h];congr 3
     push_cast
     omega
    ·right;simp [h,Out.goes]
   ·right;have d2:b.reverse.drop k=[]:=Ep (by simp;omega);have z:Td (a.reverse.drop k) []=0:=by cases a.reverse.drop k<;>rfl
    rw [d2,z];simp (disch:=omega) [Ck4,xe,EVP,EV,simprocAttr,Out.goes]
  ·right;have d1:a.reverse.drop k=[]:=Ep (by simp;omega);have z:Td [] (b.reverse.drop k)=0:=rfl;rw [d1,z];simp (disch:=omega) [Ck4,xe,EVP,EV,simprocAttr,Out.goes]
theorem sy (a b:List (List UInt8)) (ha:a.length≤1000000) (hb:b.length≤1000000):S yw 2 [Cp a,Cp b]=some [.i .i64 (Iz a b:Int)]:=by refine Hx3 (N:=a.length+1) rfl ?_;simp (disch:=omega) only [Ck4,Ep6,xe,EVP,EV,simprocAttr]
def under (n top:List UInt8):Bool:=vld n && vld top && decide (Iz (lbl n) (lbl top)=(lbl top).length)
def cmpS (a b:List UInt8):Int:=if Op.bytesLess a b then -1 else if a=b then 0 else 1
theorem Lx (a b:List UInt8):S mz 2 [.s a, .s b]=some [.i .i64 (cmpS a b)]:=by
 refine Hx4 (N:=1) rfl ?_;unfold cmpS;simp (disch:=omega) only [Gt5,xe,EVP,EV,simprocAttr];cases h:Op.bytesLess a b
 ·by_cases h2:a=b<;>simp [h2]
 ·simp
def Nc (a b:List UInt8):Int:=
 if vld a && vld b then
  let k:=Iz (lbl a) (lbl b)
  if k<(lbl a).length∧k<(lbl b).length then cmpS ((lbl a).getD ((lbl a).length - 1 - k) []) ((lbl b).getD ((lbl b).length - 1 - k) [])
  else if (lbl a).length<(lbl b).length then -1 else if (lbl b).length<(lbl a).length then 1 else 0
 else if vld a then -1 else if vld b then 1 else cmpS a b
theorem cw (a b:List UInt8) (hn:a.length≤9223372036854775807) (ht:b.length≤9223372036854775807):S yr 2 [.s a, .s b]=some [.i .i64 (Nc a b)]:=by
 refine Hb3 (N:=1) rfl ?_;have h1:=Jy a;have h2:=Jy b;have h5:=Cd2 (lbl a) (lbl b);unfold Nc;cases h3:vld a<;>cases h4:vld b
 ·simp (disch:=omega) [p7,split_ok,Lx,h3,h4,xe,EVP,EV,simprocAttr]
 ·simp (disch:=omega) [p7,split_ok,Lx,h3,h4,xe,EVP,EV,simprocAttr]
 ·simp (disch:=omega) [p7,split_ok,Lx,h3,h4,xe,EVP,EV,simprocAttr]
 ·by_cases h6:Iz (lbl a) (lbl b)<(lbl a).length∧Iz (lbl a) (lbl b)<(lbl b).length
  ·obtain ⟨h7,h8⟩:=h6;have e1:(((lbl a).length:Int) - 1 - (Iz (lbl a) (lbl b):Int)).toNat=(lbl a).length - 1 - Iz (lbl a) (lbl b):=by omega
   have e2:(((lbl b).length:Int) - 1 - (Iz (lbl a) (lbl b):Int)).toNat=(lbl b).length - 1 - Iz (lbl a) (lbl b):=by omega
   have g1:=Az (l:=lbl a) (i:=(lbl a).length - 1 - Iz (lbl a) (lbl b)) (by omega);have g2:=Az (l:=lbl b) (i:=(lbl b).length - 1 - Iz (lbl a) (lbl b)) (by omega);simp (disch:=omega) only [p7,split_ok,sy,Lx,h3,h4,e1,e2,g1,g2,xe,EVP,EV,simprocAttr];simp [h7,h8,g1,g2]
  ·simp (disch:=omega) only [p7,split_ok,sy,Lx,h3,h4,xe,EVP,EV,simprocAttr];simp only [h6]
   grind
end Go.X.G
/- The library's functions on strings. -/
namespace Go.X.G
open Go Go.X
theorem Fx0 (x:List UInt8) (c:UInt8):S fw 2 [.s x, .i .u8 (c.toNat:Int)]=some [.i .i64 (x.count c:Int)]:=
 Ft7 (args:=[.s x, .i .u8 (c.toNat:Int)]) (by simp [XK.run,jl,Lib.countByte])
theorem Fk5 (x:List UInt8) (c:UInt8):S fq 2 [.s x, .i .u8 (c.toNat:Int)]=some [.i .i64 (Lib.indexByte x c)]:=
 Fs8 (args:=[.s x, .i .u8 (c.toNat:Int)]) (by simp [XK.run,jl])
theorem Fx1 (x y:List UInt8):S fz 2 [.s x, .s y]=some [.i .i64 (Lib.compareBytes x y)]:=
 Ft9 (args:=[.s x, .s y]) (by simp [XK.run,Cd3])
theorem T8 (x:List UInt8) (c:UInt8):S V5 2 [.s x, .i .u8 (c.toNat:Int)]=some [.i .i64 (Lib.indexByte x c)]:=by refine Ft0 (N:=1) rfl ?_;simp (disch:=omega) only [Fm4,Fk5,xe,EVP,EV,simprocAttr]
theorem Kn (c:UInt8):∀(x:List UInt8),c∉x→Lib.indexByte x c= -1
 |[],_=>rfl
 |b::l,h=>by have h1:b≠c:=fun e=>h (by simp [e]);have h2:=Kn c l (fun e=>h (by simp [e]));simp [Lib.indexByte,h1,h2]
theorem Km (c:UInt8) (post:List UInt8):∀(pre:List UInt8),c∉pre→Lib.indexByte (pre++c::post) c=(pre.length:Int)
 |[],_=>by simp [Lib.indexByte]
 |b::l,h=>by
  have h1:b≠c:=fun e=>h (by simp [e]);have h2:=Km c post l (fun e=>h (by simp [e]));simp only [B0,Lib.indexByte,h2];simp [h1]
  try omega
theorem dot_split (c:UInt8):∀(s:List UInt8),c∉s∨∃pre post,s=pre++c::post∧c∉pre
 |[]=> .inl (by simp)
 |b::l=>by
  by_cases h:b=c
  ·exact .inr ⟨[],l,by simp [h],by simp⟩
  ·rcases dot_split c l with h1|⟨pre,post,rfl,h2⟩
   ·exact .inl (by simp [h1,Ne.symm h])
   ·exact .inr ⟨b::pre,post,by simp,by simp [h2,Ne.symm h]⟩
def pcs (cur:List UInt8):List UInt8→List (List UInt8)
 |[]=>[cur]
 |c::r=>if c=46 then cur::pcs [] r else pcs (cur++[c]) r
def cut (s:List UInt8):List (List UInt8):=pcs [] s
theorem xw (post:List UInt8):∀(pre cur:List UInt8),(46:UInt8)∉pre→pcs cur (pre++46::post)=(cur++pre)::pcs [] post
 |[],cur,_=>by simp [pcs]
 |b::l,cur,h=>by have h1:b≠46:=fun e=>h (by simp [e]);have h2:=xw post l (cur++[b]) (fun e=>h (by simp [e]));simp [pcs,h1,h2]
theorem Sb:∀(s cur:List UInt8),(46:UInt8)∉s→pcs cur s=[cur++s]
 |[],cur,_=>by simp [pcs]
 |b::l,cur,h=>by have h1:b≠46:=fun e=>h (by simp [e]);have h2:=Sb l (cur++[b]) (fun e=>h (by simp [e]));simp [pcs,h1,h2]
theorem Aw9 (s:List UInt8):(cut s).length=s.count 46+1:=by
 have:∀(s cur:List UInt8),(pcs cur s).length=s.count 46+1:=by
  intro s
  induction s with
  |nil=>intro cur;rfl
  |cons c r ih=>
   intro cur;by_cases h:c=46<;>simp [pcs,h,ih]
 exact this s []
theorem o9 (s:List UInt8) (hs:s.length≤9223372036854775807):S V8 2 [.s s, .s [46]]=some [.i .i64 (Lib.indexByte s 46)]:=by
 refine Ft6 (N:=1) rfl ?_;have h1:=T8 s 46;have e:(((46:UInt8).toNat:Nat):Int)=46:=rfl;rw [e] at h1;by_cases h:[46]=s
 ·subst h;simp (disch:=omega) only [Dk2,xe,EVP,EV,simprocAttr];rfl
 ·simp (disch:=omega) only [Dk2,h,h1,e,xe,EVP,EV,simprocAttr]
theorem Xm (s:List UInt8) (hs:s.length≤9223372036854775807):S Q1 2 [.s s, .s [46]]=some [.i .i64 (Lib.indexByte s 46)]:=by refine Gj9 (N:=1) rfl ?_;simp (disch:=omega) only [Fm7,o9,xe,EVP,EV,simprocAttr]
theorem Cj1 (s:List UInt8):S Wx 2 [.s s, .s [46]]=some [.i .i64 (s.count 46:Int)]:=by refine Gk0 (N:=1) rfl ?_;have h1:=Fx0 s 46;have e:(((46:UInt8).toNat:Nat):Int)=46:=rfl;rw [e] at h1;simp (disch:=omega) only [Fm8,h1,e,xe,EVP,EV,simprocAttr]
def Av1 (done rest:List (List UInt8)):Out:=
 .yld 0 [.s ((done++rest).getLastD []),Cp ((done++rest).dropLast++[[]]), .i .i64 (((done++rest).length:Int) - 1)]
theorem Zl (s:List UInt8) (N:Nat) (hN:s.length<N) (hs:s.length≤1000000) (p q:PV):
  Aj5.ev S N [.s s, .s [46], .i .i64 0,p, .i .i64 ((s.count 46:Int)+1)]=some (Av1 [] (cut s)):=by
 have hc0:s.count 46≤s.length:=List.count_le_length;have key:=Hw (fn:=S) (N:=N) (η:=[.s s, .s [46], .i .i64 0,p, .i .i64 ((s.count 46:Int)+1)]) (id:=1) (init:=[(.v 0),(.rep 1 (.mn (.v 4) (.bin .add (.slen (.v 0)) (.c (.i .i64 (1))))) (.c (.s []))),(.c (.i .i64 (0)))]) (body:=Br2) (α:=List (List UInt8)×List UInt8)
  (fun a=>[.s a.2,Cp (a.1++List.replicate (a.2.count 46+1) []), .i .i64 (a.1.length:Int)]) (fun a=>Av1 a.1 (cut a.2)) (fun a=>a.1.length+a.2.count 46=s.count 46∧a.2.length≤s.length) (fun a=>a.2.length) ([],s) ?_ ⟨by simp,Af _⟩ hN ?_
 ·simpa [Aj5] using key
 ·have e:((s.count 46:Int)+1).toNat=s.count 46+1:=by omega
  simp (disch:=omega) only [e,xe,EVP,EV,simprocAttr]
 ·rintro ⟨done,rest⟩ ⟨h1,h2⟩;simp only at h1 h2 ⊢;rcases dot_split 46 rest with h|⟨pre,post,rfl,h⟩
  ·right;have c0:rest.count 46=0:=List.count_eq_zero.2 h;have i0:=Kn 46 rest h;have cu:cut rest=[rest]:=by simpa [cut] using Sb rest [] h
   refine ⟨?_,rfl⟩;rw [c0];rw [c0] at h1;simp (disch:=omega) only [Eh6,Xm,i0,xe,EVP,EV,simprocAttr];simp [Av1,cu,List.getLastD_eq_getLast?]
  ·left;have c0:(pre++46::post).count 46=post.count 46+1:=by rw [List.count_append,List.count_eq_zero.2 h];simp
   have i0:=Km 46 post pre h;have cu:cut (pre++46::post)=pre::cut post:=by simpa [cut] using xw post pre [] h
   have hl:(pre++46::post).length=pre.length+post.length+1:=by simp;omega
   have sl1:List.drop (0:Int).toNat (List.take ((pre.length:Int)+0).toNat (pre++46::post))=pre:=by simp
   have sl2:List.drop ((pre.length:Int)+1).toNat (List.take (pre++46::post).length (pre++46::post))=post:=by
    have:((pre.length:Int)+1).toNat=pre.length+1:=by omega
    rw [this,En,List.drop_append];simp
   have sl3:(done++[]::[]::List.replicate (post.count 46) ([]:List UInt8)).length=done.length+post.count 46+2:=by simp;omega
   refine ⟨(done++[pre],post),?_,⟨by simp;omega,by simp only;omega⟩,by simp;omega,by simp [Av1,cu]⟩;rw [c0];rw [c0] at h1;simp (disch:=omega) only [Eh6,Xm,i0,sl1,sl2,xe,EVP,EV,simprocAttr];simp [List.replicate_succ,List.set_append]
theorem Zh (s:List UInt8) (hs:s.length≤1000000):S yj 4 [.s s, .s [46], .i .i64 0, .i .i64 (-1)]=some [Cp (cut s)]:=by
 refine Hx0 (N:=s.length+1) rfl ?_;have h1:=Aw9 s;have h2:s.count 46≤s.length:=List.count_le_length;obtain ⟨l,x,hx⟩:∃l x,cut s=l++[x]:=⟨(cut s).dropLast,(cut s).getLast (by intro e;simp [e] at h1),(List.dropLast_concat_getLast _).symm⟩;have h3:l.length=s.count 46:=by rw [hx] at h1;simpa using h1
 have h4:((l.length:Int)+1 - 1)=(l.length:Int):=by omega
 have h5:((l++[([]:List UInt8)]).length:Int)=l.length+1:=by simp
 have h6:((l++[x]).length:Int)=l.length+1:=by simp
 have g1:(l++[([]:List UInt8)])[l.length]? =some []:=by simp
 have g2:(l++[x]).getLastD []=x:=by simp [List.getLastD_eq_getLast?]
 have g3:(l++[([]:List UInt8)]).set l.length x=l++[x]:=by simp
 have hk:=Zl s (s.length+1) (by omega) hs (.i .i64 (-1)) .u;rw [hx] at hk ⊢;simp only [Av1,C0,List.dropLast_concat] at hk;simp (disch:=omega) only [Eh6,Cj1,hk,h4,h6,g1,g2,g3,xe,EVP,EV,simprocAttr];have g4:((l.length:Int)+1).toNat=(l++[x]).length:=by simp
 rw [g4,En];rfl
theorem Xg (s:List UInt8) (hs:s.length≤1000000):S ml 2 [.s s, .s [46]]=some [Cp (cut s)]:=by refine Hz7 (N:=1) rfl ?_;simp (disch:=omega) only [Hj6,Zh,xe,EVP,EV,simprocAttr]
theorem T9 (s t:List UInt8) (hs:s.length≤9223372036854775807):S yq 2 [.s s, .s t]=some [.b (t.isSuffixOf s)]:=by
 refine Hx1 (N:=1) rfl ?_;by_cases h:t.length≤s.length
 ·have e:((s.length:Int) - (t.length:Int)).toNat=s.length - t.length:=by omega
  simp (disch:=omega) only [Fl6,e,xe,EVP,EV,simprocAttr];simp only [En];congr 4;rw [Fv,List.isSuffixOf_iff_suffix,decide_eq_true_eq];refine ⟨fun h=>h▸List.drop_suffix _ _,fun h=> ?_⟩;obtain ⟨p,rfl⟩:=h;simp
 ·have h2:t.isSuffixOf s=false:=by rw [Bool.eq_false_iff,ne_eq,List.isSuffixOf_iff_suffix];exact fun h'=>h h'.length_le
  simp (disch:=omega) only [Fl6,h2,xe,EVP,EV,simprocAttr]
theorem Nl (s t:List UInt8) (hs:s.length≤9223372036854775807):S yl 2 [.s s, .s t]=some [.b (t.isSuffixOf s)]:=by refine Hz8 (N:=1) rfl ?_;simp (disch:=omega) only [Hj7,T9,xe,EVP,EV,simprocAttr]
theorem b9 (x y:List UInt8):S Wy 2 [.s x, .s y]=some [.i .i64 (Lib.compareBytes x y)]:=by refine Gk2 (N:=1) rfl ?_;simp (disch:=omega) only [Fm9,Fx1,xe,EVP,EV,simprocAttr]
theorem bl (x y:List UInt8):S V1 2 [.s x, .s y]=some [.i .i64 (Lib.compareBytes x y)]:=by refine Hx6 (N:=1) rfl ?_;simp (disch:=omega) only [Gt6,b9,xe,EVP,EV,simprocAttr]
end Go.X.G
/- Names and their labels. -/
namespace Go.X.G
open Go Go.X
def flat (l:List (List UInt8)):List UInt8:=l.flatMap fun x=>x++[46]
def jn (l:List (List UInt8)):List UInt8:=if l=[] then [46] else flat l
def L1 (first:Bool):List (List UInt8)→Bool
 |[]=>true
 |p::r=>I4 p && (!decide (p=[42])||first) && L1 false r
theorem Fj8:M0 46=false:=by decide
theorem Aq5 {p:List UInt8} (h:I4 p=true):(46:UInt8)∉p:=by
 unfold I4 at h;simp at h;rcases h with rfl|⟨_,h⟩
 ·decide
 ·intro h2;have:=h 46 h2;rw [Fj8] at this;cases this
theorem Ws {p:List UInt8}:∀{f:Bool} {l:List (List UInt8)},L1 f l=true→p∈l→I4 p=true
 |f,q::r,h,hp=>by
  simp only [L1,Ax] at h;rcases A6.1 hp with rfl|hp
  ·exact h.1.1
  ·exact Ws h.2 hp
theorem R9:∀(m:List UInt8) (f:Bool) (cur:List UInt8),spl f cur (m++[46])=if L1 f (pcs cur m)=true then some (pcs cur m) else none
 |[],f,cur=>by simp only [C0,spl,if_true,pcs,L1,A3,Mq];by_cases h:I4 cur=true<;>by_cases h2:cur=[42]<;>cases f<;>simp [h,h2]
 |c::r,f,cur=>by
  simp only [B0,spl,pcs];by_cases hc:c=46
  ·simp only [if_pos hc];rw [R9 r false []];simp only [L1];by_cases h:I4 cur=true<;>by_cases h2:cur=[42]<;>cases f<;>by_cases h3:L1 false (pcs [] r)=true<;>simp [h,h2,h3]
  ·simp only [if_neg hc];exact R9 r f (cur++[c])
theorem Sf (b:List UInt8):∀(a cur:List UInt8),pcs cur (a++46::b)=pcs cur a++cut b
 |[],cur=>by simp [pcs,cut]
 |c::r,cur=>by
  simp only [B0,pcs];split
  ·rw [Sf b r []];rfl
  ·exact Sf b r _
theorem N5:∀(m cur:List UInt8),flat (pcs cur m)=cur++m++[46]
 |[],cur=>by simp [pcs,flat]
 |c::r,cur=>by
  simp only [pcs];split
  ·rename_i h;have:=N5 r [];simp only [flat,cm] at this ⊢;rw [this,h];simp
  ·rw [N5 r (cur++[c])];simp
theorem Gq7 (cur m:List UInt8):pcs cur m≠[]:=by
 cases m with
 |nil=>simp [pcs]
 |cons c r=>
  simp only [pcs];split
  ·simp
  ·intro h;have:=N5 r (cur++[c]);rw [h] at this;simp [flat] at this
theorem gz:∀(l:List (List UInt8)),(∀p∈l,(46:UInt8)∉p)→cut (flat l)=l++[[]]
 |[],_=>rfl
 |p::l,h=>by
  have h1:flat (p::l)=p++46::flat l:=by simp [flat]
  rw [h1];show pcs [] _=_;rw [Sf,Sb p [] (h p (by simp)),gz l (fun q hq=>h q (by simp [hq]))];simp
theorem Pz:∀(l:List (List UInt8)),l≠[]→∃m,flat l=m++[46]
 |[p],_=>⟨p,by simp [flat]⟩
 |p::q::r,_=>by obtain ⟨m,hm⟩:=Pz (q::r) (by simp);exact ⟨p++[46]++m,by simp only [flat,cm] at hm ⊢;rw [hm];simp⟩
theorem Cr7 {l:List (List UInt8)} (hl:l≠[]) (h:∀p∈l,(46:UInt8)∉p) {m:List UInt8} (hm:flat l=m++[46]):cut m=l:=by
 have h1:=gz l h;rw [hm] at h1;have h2:cut (m++[46])=cut m++[[]]:=by show pcs [] (m++46::[])=_;rw [Sf];rfl
 rw [h2] at h1;exact List.append_cancel_right h1
theorem Es7 {n:List UInt8} {l:List (List UInt8)} (h:nm n=some l):(n=[46]∧l=[])∨(l≠[]∧L1 true l=true∧n=flat l∧n.length≤254):=by
 unfold nm at h;split at h
 ·rename_i e;injection h with h;exact .inl ⟨e,h.symm⟩
 ·split at h
  ·rename_i h1;right;obtain ⟨h2,h3,h4⟩:=h1;obtain ⟨m,hm⟩:∃m,n=m++[46]:=by
    refine ⟨n.dropLast,?_⟩;have:n≠[]:=by intro e;simp [e] at h2
    have h5:=List.dropLast_concat_getLast this;rw [←h5];congr 1
    ·simp
    ·have h6:n[n.length - 1]? =some (n.getLast this):=by rw [List.getLast_eq_getElem];exact Az _
     rw [h6] at h4;injection h4 with h4;simp [h4]
   rw [hm,R9] at h;split at h
   ·rename_i h5;injection h with h;subst h;refine ⟨Gq7 _ _,h5,?_,by omega⟩;rw [N5,hm];simp
   ·cases h
  ·cases h
theorem El8 {n:List UInt8}:vld n=true↔nm n=some (lbl n):=by unfold vld lbl;cases nm n<;>simp
theorem vld_cases {n:List UInt8} (h:vld n=true):(n=[46]∧lbl n=[])∨(lbl n≠[]∧L1 true (lbl n)=true∧n=flat (lbl n)∧n.length≤254):=Es7 (El8.1 h)
theorem Dk4 {n:List UInt8} (h:vld n=true):n=jn (lbl n):=by
 unfold jn;rcases vld_cases h with ⟨h1,h2⟩|⟨h1,_,h2,_⟩
 ·rw [h2,if_pos rfl];exact h1
 ·rw [if_neg h1];exact h2
theorem qm {n:List UInt8} (h:vld n=true):n.length≤254:=by
 rcases vld_cases h with ⟨h1,_⟩|⟨_,_,_,h⟩
 ·simp [h1]
 ·exact h
theorem Cm6:lbl [46]=[]:=rfl
theorem z5 {a b:List UInt8} (ha:vld a=true) (hb:vld b=true) (h:lbl a=lbl b):a=b:=by rw [Dk4 ha,Dk4 hb,h]
end Go.X.G
/- Names: what the program's functions give. -/
namespace Go.X.G
open Go Go.X
def ord (s:List UInt8):Bool:=decide (1≤s.length) && decide (s.length≤63) && s.all M0
theorem Aq4 (s:List UInt8):I4 s=(decide (s=[42])||ord s):=rfl
theorem Cg9:ord [42]=false:=by decide
theorem Y0 (s:List UInt8) (N:Nat) (hN:s.length<N) (hs:s.length≤9223372036854775807):
  Dw8.ev S N [.s s]=some (if s.all M0=true then .yld 0 [] else .ret [.b false]):=by
 refine F0 s (fun i=>[.i .i64 (i:Int)]) (fun i r=>if r.all M0=true then .yld 0 [] else .ret [.b false]) rfl hN (fun i c r hd hi hc=> ?_) ?_
 ·have key:Br5.ev S N ([.s s]++[.i .i64 (i:Int)])=some (if M0 c=true then .yld 1 [.i .i64 ((i:Int)+1)] else .ret [.b false]):=by
   simp (disch:=omega) only [p6,hc,xe,EVP,EV,simprocAttr];unfold M0
   grind
  rw [key];rcases Ad (M0 c) with h|h<;>simp [h,Out.goes]
 ·simp (disch:=omega) [p6,xe,EVP,EV,simprocAttr,Out.goes]
theorem Ic (s:List UInt8) (hs:s.length≤9223372036854775807):S yh 1 [.s s]=some [.b (ord s)]:=by
 refine Hz6 (N:=s.length+1) rfl ?_;unfold ord;by_cases h1:s=[]
 ·subst h1;simp (disch:=omega) [p6,xe,EVP,EV,simprocAttr]
 ·have h2:1≤s.length:=Bg.2 h1;by_cases h3:s.length≤63
  ·simp (disch:=omega) only [p6,Y0,h1,xe,EVP,EV,simprocAttr];cases s.all M0<;>simp [h2,h3]
  ·simp (disch:=omega) only [p6,h1,xe,EVP,EV,simprocAttr];simp [h3]
def okP (i:Nat) (p:List UInt8):Bool:=ord p||(decide (i=0) && decide (p=[42]))
def Ch8:Nat→List (List UInt8)→Bool
 |_,[]=>true
 |i,p::r=>okP i p && Ch8 (i+1) r
theorem Vs:∀(l:List (List UInt8)) (i:Nat),Ch8 i l=L1 (decide (i=0)) l
 |[],_=>rfl
 |p::r,i=>by
  have h1:=Vs r (i+1);simp only [Ch8,L1,h1,okP,Aq4];by_cases h2:p=[42]
  ·subst h2;by_cases h3:i=0<;>simp [Cg9,h3]
  ·simp [h2]
theorem Bt2 (p q:PV) (l:List (List UInt8)) (hl:l.length≤1000000) (hw:∀x∈l,x.length≤9223372036854775807) (N:Nat) (hN:l.length<N):
  Dx2.ev S N [p,q,Cp l]=some (if Ch8 0 l=true then .yld 0 [] else .ret [.b false]):=by
 refine F0 l (fun i=>[.i .i64 (i:Int)]) (fun i r=>if Ch8 i r=true then .yld 0 [] else .ret [.b false]) rfl hN (fun i c r hd hi hc=> ?_) ?_
 ·have hcw:=hw c (By hc);have key:Br8.ev S N ([p,q,Cp l]++[.i .i64 (i:Int)])=some (if okP i c=true then .yld 1 [.i .i64 ((i:Int)+1)] else .ret [.b false]):=by
   rcases Ad (ord c) with h1|h1
   ·simp (disch:=omega) only [Rt,Ic,hc,h1,xe,EVP,EV,simprocAttr];simp [okP,h1]
   ·by_cases h2:i=0
    ·subst h2;by_cases h3:c=[42]
     ·subst h3;simp (disch:=omega) only [Rt,Ic,hc,h1,xe,EVP,EV,simprocAttr];simp [okP]
     ·simp (disch:=omega) only [Rt,Ic,hc,h1,h3,xe,EVP,EV,simprocAttr];simp [okP,h1,h3]
    ·simp (disch:=omega) only [Rt,Ic,hc,h1,xe,EVP,EV,simprocAttr];simp [okP,h1,h2]
  rw [key];rcases Ad (okP i c) with h|h<;>simp [h,Ch8,Out.goes]
 ·simp (disch:=omega) only [Rt,xe,EVP,EV,simprocAttr];simp [Out.goes,Ch8]
theorem Sd:∀(m cur:List UInt8) (x:List UInt8),x∈pcs cur m→x.length≤cur.length+m.length
 |[],cur,x,h=>by simp [pcs] at h;subst h;simp
 |c::r,cur,x,h=>by
  simp only [pcs] at h;split at h
  ·rcases A6.1 h with rfl|h
   ·omega
   ·have:=Sd r [] x h;simp at this ⊢;omega
  ·have:=Sd r _ x h;simp at this ⊢;omega
theorem Cr8 (m x:List UInt8) (h:x∈cut m):x.length≤m.length:=by simpa using Sd m [] x h
theorem Gg7 (m:List UInt8):(cut m).length≤m.length+1:=by have:=Aw9 m;have:m.count 46≤m.length:=List.count_le_length;omega
theorem rq (n:List UInt8):([46]:List UInt8).isSuffixOf n=true↔∃m,n=m++[46]:=by rw [List.isSuffixOf_iff_suffix];exact ⟨fun ⟨m,h⟩=>⟨m,h.symm⟩,fun ⟨m,h⟩=>⟨m,h.symm⟩⟩
theorem Ck6 (m:List UInt8) (hm:m≠[]) (hl:m.length≤253):vld (m++[46])=Ch8 0 (cut m):=by have h1:m++[46]≠[46]:=fun e=>hm (List.append_cancel_right (bs:=[46]) (by simpa using e));have h2:0<m.length:=Bg.2 hm;unfold vld nm;rw [if_neg h1,if_pos ⟨by simp;omega,by simp;omega,by simp⟩,R9,Vs];have e:pcs [] m=cut m:=rfl;have e2:L1 (decide ((0:Nat)=0)) (cut m)=L1 true (cut m):=rfl;rw [e,e2];cases L1 true (cut m)<;>rfl
theorem Cm5 (m:List UInt8) (h:vld (m++[46])=true) (hm:m≠[]):lbl (m++[46])=cut m:=by
 rcases vld_cases h with ⟨h1,_⟩|⟨h1,h2,h3,_⟩
 ·exact absurd (List.append_cancel_right (bs:=[46]) (by simpa using h1)) hm
 ·exact (Cr7 h1 (fun p hp=>Aq5 (Ws h2 hp)) h3.symm).symm
theorem B7 (n:List UInt8) (hn:n.length≤9223372036854775807):S Qq 1 [.s n]=some [.b (vld n)]:=by
 refine Hc5 (N:=300) rfl ?_;by_cases h0:n=[46]
 ·subst h0;simp (disch:=omega) only [Rt,xe,EVP,EV,simprocAttr];rfl
 ·by_cases h1:255≤n.length
  ·have hv:vld n=false:=by rw [Bool.eq_false_iff];intro h;have:=qm h;omega
   simp (disch:=omega) only [Rt,h0,hv,xe,EVP,EV,simprocAttr]
  ·rcases Ad (([46]:List UInt8).isSuffixOf n) with h2|h2
   ·obtain ⟨m,rfl⟩:=(rq n).1 h2;have hm:m≠[]:=fun e=>h0 (by simp [e]);have hl:(m++[46]).length=m.length+1:=by simp
    have hml:m.length≤1000000:=by omega
    have e:List.drop 0 (List.take (((m++[46]).length:Int) - 1).toNat (m++[46]))=m:=by
     have:(((m++[46]).length:Int) - 1).toNat=m.length:=by omega
     rw [this];simp
    have hc:=Gg7 m;have hv:=Ck6 m hm (by omega);have hk:=Bt2 (.s (m++[46])) (.b true) (cut m) (by omega) (fun x hx=>by have:=Cr8 m x hx;omega) 300 (by omega);simp (disch:=omega) only [Rt,Nl,Xg,e,hk,h0,h2,xe,EVP,EV,simprocAttr];rw [hv];cases Ch8 0 (cut m)<;>simp
   ·have hv:vld n=false:=by
     rw [Bool.eq_false_iff];intro h;rcases vld_cases h with ⟨h3,_⟩|⟨h3,_,h5,_⟩
     ·exact h0 h3
     ·obtain ⟨m,hm⟩:=Pz _ h3;have:=(rq n).2 ⟨m,h5.trans hm⟩;rw [h2] at this;cases this
    simp (disch:=omega) only [Rt,Nl,h0,h2,hv,xe,EVP,EV,simprocAttr]
theorem M6 (n:List UInt8) (hn:n.length≤9223372036854775807):S Y5 1 [.s n]=some [Cp (lbl n)]:=by
 refine Hx5 (N:=1) rfl ?_;by_cases h0:n=[46]
 ·subst h0;simp (disch:=omega) only [Eh7,Cm6,xe,EVP,EV,simprocAttr]
 ·rcases Ad (vld n) with h1|h1
  ·obtain ⟨m,hm,rfl⟩:∃m,m≠[]∧n=m++[46]:=by
    rcases vld_cases h1 with ⟨h3,_⟩|⟨h3,_,h5,_⟩
    ·exact absurd h3 h0
    ·obtain ⟨m,hm⟩:=Pz _ h3;exact ⟨m,fun e=>h0 (by rw [h5,hm,e];rfl),h5.trans hm⟩
   have hl:(m++[46]).length=m.length+1:=by simp
   have e:List.drop 0 (List.take (((m++[46]).length:Int) - 1).toNat (m++[46]))=m:=by
    have:(((m++[46]).length:Int) - 1).toNat=m.length:=by omega
    rw [this];simp
   have hl2:=qm h1;have e2:=Cm5 m h1 hm;simp (disch:=omega) only [Eh7,B7,Xg,e,e2,h0,h1,xe,EVP,EV,simprocAttr]
  ·have e:lbl n=[]:=by
    unfold lbl;unfold vld at h1;cases h:nm n with
    |none=>rfl
    |some l=>rw [h] at h1;cases h1
   simp (disch:=omega) only [Eh7,B7,h0,h1,e,xe,EVP,EV,simprocAttr]
end Go.X.G
/- Names: order, common ancestors, wildcards. -/
namespace Go.X.G
open Go Go.X
theorem Nf:∀(a:List UInt8),Op.bytesLess a a=false
 |[]=>rfl
 |a::x=>by simp [Op.bytesLess,Nf x]
theorem Jh:∀(a b:List UInt8),Lib.compareBytes a b=cmpS a b
 |[],[]=>rfl
 |[],_::_=>rfl
 |_::_,[]=>rfl
 |a::x,b::y=>by
  have ih:=Jh x y;unfold cmpS at ih ⊢;simp only [Lib.compareBytes,Op.bytesLess,ih];by_cases h1:a<b
  ·simp [h1]
  ·by_cases h2:b<a
   ·have h3:a≠b:=fun e=>by subst e;exact h1 h2
    simp [h1,h2,h3]
   ·have h3:a=b:=UInt8.le_antisymm (UInt8.not_lt.1 h2) (UInt8.not_lt.1 h1);subst h3;simp [h1]
theorem Ik {a b:List UInt8}:cmpS a b=0↔a=b:=by
 unfold cmpS;by_cases h:a=b
 ·subst h;simp [Nf]
 ·cases h2:Op.bytesLess a b<;>simp [h]
theorem Is (x y:List UInt8):S V1 2 [.s x, .s y]=some [.i .i64 (cmpS x y)]:=by rw [bl,Jh]
def P4:List (List UInt8)→List (List UInt8)→Option Int
 |x::xs,y::ys=>if x=y then P4 xs ys else some (cmpS x y)
 |_,_=>none
theorem Ax4:∀(a b:List (List UInt8)),P4 a b=if Td a b<a.length∧Td a b<b.length then some (cmpS (a.getD (Td a b) []) (b.getD (Td a b) [])) else none
 |[],b=>by simp [P4,Td]
 |x::xs,[]=>by simp [P4,Td]
 |x::xs,y::ys=>by
  have ih:=Ax4 xs ys;simp only [P4,Td];by_cases h:x=y
  ·simp only [if_pos h,ih];simp
  ·simp [h]
def ol (a b:List (List UInt8)):Int:=match P4 a.reverse b.reverse with
 |some c=>c
 |none=>if a.length<b.length then -1 else if b.length<a.length then 1 else 0
theorem gj (a:List (List UInt8)) (k:Nat) (h:k<a.length):a.reverse.getD k []=a.getD (a.length - 1 - k) []:=by simp [Bw,List.getElem?_reverse h]
theorem Tg {a b:List UInt8} (ha:vld a=true) (hb:vld b=true):Nc a b=ol (lbl a) (lbl b):=by
 unfold Nc ol;rw [Ax4];have e:Td (lbl a).reverse (lbl b).reverse=Iz (lbl a) (lbl b):=rfl;rw [e,ha,hb];simp only [List.length_reverse,Bool.and_self,if_true];by_cases h:Iz (lbl a) (lbl b)<(lbl a).length∧Iz (lbl a) (lbl b)<(lbl b).length
 ·rw [if_pos h,if_pos h,gj _ _ h.1,gj _ _ h.2]
 ·rw [if_neg h,if_neg h]
theorem b8 (a b:List (List UInt8)) (p1 p2 p3 p4:PV) (ha:a.length≤1000) (hb:b.length≤1000) (N:Nat) (hN:1001<N):
  Aj7.ev S N [p1,p2,p3,p4,Cp a,Cp b]=some (match P4 a.reverse b.reverse with|some c=> .ret [.i .i64 c]|none=> .yld 0 []):=by
 have key:=Hw (fn:=S) (N:=N) (η:=[p1,p2,p3,p4,Cp a,Cp b]) (id:=1) (init:=[(.c (.i .i64 (1)))]) (body:=Br7) (α:=Nat) (fun k=>[.i .i64 ((k:Int)+1)])
  (fun k=>match P4 (a.reverse.drop k) (b.reverse.drop k) with|some c=> .ret [.i .i64 c]|none=> .yld 0 []) (fun k=>k≤a.length∧k≤b.length) (fun k=>a.length - k) 0 rfl ⟨Cv _,Cv _⟩ (by omega) ?_
 ·simpa [Aj7] using key
 ·rintro k ⟨h1,h2⟩;by_cases h3:k<a.length
  ·by_cases h4:k<b.length
   ·have e1:((a.length:Int) - ((k:Int)+1)).toNat=a.length - 1 - k:=by omega
    have e2:((b.length:Int) - ((k:Int)+1)).toNat=b.length - 1 - k:=by omega
    have g1:a[a.length - 1 - k]? =some (a[a.length - 1 - k]'(by omega)):=Az (by omega);have g2:b[b.length - 1 - k]? =some (b[b.length - 1 - k]'(by omega)):=Az (by omega);have d1:a.reverse.drop k=(a[a.length - 1 - k]'(by omega))::a.reverse.drop (k+1):=by rw [C1 (by simpa using h3)];simp
    have d2:b.reverse.drop k=(b[b.length - 1 - k]'(by omega))::b.reverse.drop (k+1):=by rw [C1 (by simpa using h4)];simp
    rw [d1,d2];generalize (a[a.length - 1 - k]'(by omega))=x at g1;generalize (b[b.length - 1 - k]'(by omega))=y at g2;simp only [P4];by_cases h:x=y
    ·left;have h5:cmpS x y=0:=Ik.2 h;refine ⟨k+1,?_,⟨by omega,by omega⟩,by omega,by rw [if_pos h]⟩;simp (disch:=omega) only [Yj,Is,e1,e2,g1,g2,h5,xe,EVP,EV,simprocAttr]
    ·right;have h5:¬cmpS x y=0:=fun e=>h (Ik.1 e);rw [if_neg h];simp (disch:=omega) only [Yj,Is,e1,e2,g1,g2,h5,xe,EVP,EV,simprocAttr];simp [Out.goes]
   ·right;have d2:b.reverse.drop k=[]:=Ep (by simp;omega);have z:P4 (a.reverse.drop k) []=none:=by cases a.reverse.drop k<;>rfl
    rw [d2,z];simp (disch:=omega) [Yj,xe,EVP,EV,simprocAttr,Out.goes]
  ·right;have d1:a.reverse.drop k=[]:=Ep (by simp;omega);have z:P4 [] (b.reverse.drop k)=none:=rfl;rw [d1,z];simp (disch:=omega) [Yj,xe,EVP,EV,simprocAttr,Out.goes]
theorem br (a b:List UInt8) (hn:a.length≤9223372036854775807) (ht:b.length≤9223372036854775807):S y0 2 [.s a, .s b]=some [.i .i64 (Nc a b)]:=by
 refine Hb4 (N:=1002) rfl ?_;have h1:=Jy a;have h2:=Jy b;rcases Ad (vld a) with h3|h3<;>rcases Ad (vld b) with h4|h4
 ·rw [Tg h3 h4];unfold ol;have hk:=b8 (lbl a) (lbl b) (.s a) (.s b) (.b true) (.b true) (by omega) (by omega) 1002 (by omega);cases h5:P4 (lbl a).reverse (lbl b).reverse with
  |some c=>
   rw [h5] at hk;simp (disch:=omega) only [Yj,B7,M6,hk,h3,h4,xe,EVP,EV,simprocAttr]
  |none=>
   rw [h5] at hk;simp (disch:=omega) only [Yj,B7,M6,hk,h3,h4,xe,EVP,EV,simprocAttr]
   grind
 all_goals unfold Nc
 all_goals simp (disch:=omega) only [Yj,B7,Is,h3,h4,xe,EVP,EV,simprocAttr]
 all_goals simp
end Go.X.G
/- The canonical order of names is a total order. -/
namespace Go.X.G
open Go Go.X
structure TO {α:Type} (lt:α→α→Prop):Prop where
 irr:∀a,¬lt a a
 tr:∀a b c,lt a b→lt b c→lt a c
 tri:∀a b,lt a b∨a=b∨lt b a
theorem TO.asym {α:Type} {lt:α→α→Prop} (h:TO lt) {a b:α} (h1:lt a b):¬lt b a:=fun h2=>h.irr a (h.tr _ _ _ h1 h2)
theorem TO.ntr {α:Type} {lt:α→α→Prop} (h:TO lt) {a b c:α} (h1:¬lt a b) (h2:¬lt b c):¬lt a c:=by
 intro h3;rcases h.tri b a with h4|h4|h4
 ·exact h2 (h.tr _ _ _ h4 h3)
 ·subst h4;exact h2 h3
 ·exact h1 h4
def lex {α:Type} (lt:α→α→Prop):List α→List α→Prop
 |[],[]=>False
 |[],_::_=>True
 |_::_,[]=>False
 |a::x,b::y=>lt a b∨(a=b∧lex lt x y)
theorem z0 {α:Type} {lt:α→α→Prop} (h:TO lt):∀x:List α,¬lex lt x x
 |[]=>by simp [lex]
 |a::x=>by simp only [lex,true_and,not_or];exact ⟨h.irr a,z0 h x⟩
theorem Dv7 {α:Type} {lt:α→α→Prop} (h:TO lt):∀x y z:List α,lex lt x y→lex lt y z→lex lt x z
 |[],[],_,h1,_=>by simp [lex] at h1
 |[],_::_,[],_,h2=>by simp [lex] at h2
 |[],_::_,_::_,_,_=>by simp [lex]
 |_::_,[],_,h1,_=>by simp [lex] at h1
 |_::_,_::_,[],_,h2=>by simp [lex] at h2
 |a::x,b::y,c::z,h1,h2=>by
  simp only [lex] at h1 h2 ⊢;rcases h1 with h1|⟨rfl,h1⟩
  ·rcases h2 with h2|⟨rfl,h2⟩
   ·exact .inl (h.tr _ _ _ h1 h2)
   ·exact .inl h1
  ·rcases h2 with h2|⟨rfl,h2⟩
   ·exact .inl h2
   ·exact .inr ⟨rfl,Dv7 h x y z h1 h2⟩
theorem lex_tri {α:Type} {lt:α→α→Prop} (h:TO lt):∀x y:List α,lex lt x y∨x=y∨lex lt y x
 |[],[]=> .inr (.inl rfl)
 |[],_::_=> .inl (by simp [lex])
 |_::_,[]=> .inr (.inr (by simp [lex]))
 |a::x,b::y=>by
  simp only [lex];rcases h.tri a b with h1|rfl|h1
  ·exact .inl (.inl h1)
  ·rcases lex_tri h x y with h2|rfl|h2
   ·exact .inl (.inr ⟨rfl,h2⟩)
   ·exact .inr (.inl rfl)
   ·exact .inr (.inr (.inr ⟨rfl,h2⟩))
  ·exact .inr (.inr (.inl h1))
theorem TO.lex {α:Type} {lt:α→α→Prop} (h:TO lt):TO (G.lex lt):=⟨z0 h,Dv7 h,lex_tri h⟩
theorem Hv1:TO (fun a b:UInt8=>a<b):=⟨fun a=>UInt8.lt_irrefl a,fun a b c h1 h2=>UInt8.lt_trans h1 h2,fun a b=>by
 rcases UInt8.lt_or_le a b with h|h
 ·exact .inl h
 ·rcases UInt8.lt_or_le b a with h2|h2
  ·exact .inr (.inr h2)
  ·exact .inr (.inl (UInt8.le_antisymm h2 h))⟩
abbrev ltB:List UInt8→List UInt8→Prop:=lex fun a b:UInt8=>a<b
theorem Dk5:TO ltB:=Hv1.lex
theorem Xb:∀a b:List UInt8,Op.bytesLess a b=true↔ltB a b
 |[],[]=>by simp [Op.bytesLess,lex]
 |[],_::_=>by simp [Op.bytesLess,lex]
 |_::_,[]=>by simp [Op.bytesLess,lex]
 |a::x,b::y=>by have ih:=Xb x y;simp only [Op.bytesLess,An,decide_eq_true_eq,Ax,beq_iff_eq,lex];rw [ih]
theorem Tf (a b:List UInt8):cmpS a b<0↔ltB a b:=by
 rw [←Xb];unfold cmpS;cases h:Op.bytesLess a b
 ·simp only [Ac,if_false,iff_false];split<;>omega
 ·simp
abbrev ltL:List (List UInt8)→List (List UInt8)→Prop:=lex ltB
theorem to_L:TO ltL:=Dk5.lex
def om (a b:List (List UInt8)):Int:=match P4 a b with
 |some c=>c
 |none=>if a.length<b.length then -1 else if b.length<a.length then 1 else 0
theorem gt:∀a b:List (List UInt8),om a b<0↔ltL a b
 |[],[]=>by simp [om,P4,lex]
 |[],_::_=>by simp [om,P4,lex]
 |_::_,[]=>by simp [om,P4,lex]
 |x::xs,y::ys=>by
  have ih:=gt xs ys;simp only [om,P4,lex] at ih ⊢;by_cases h:x=y
  ·subst h;rw [if_pos rfl];simp only [A9,Nat.add_lt_add_iff_right,true_and];rw [ih];constructor
   ·exact fun h=> .inr h
   ·rintro (h|h)
    ·exact absurd h (Dk5.irr x)
    ·exact h
  ·rw [if_neg h];simp only;rw [Tf];simp [h]
theorem Z8 (a b:List (List UInt8)):ol a b=om a.reverse b.reverse:=by unfold ol om;cases P4 a.reverse b.reverse<;>simp
theorem Ax3 (a b:List (List UInt8)):ol a b<0↔ltL a.reverse b.reverse:=by rw [←gt,Z8]
def ltN (a b:List UInt8):Prop:=if vld a=true then (if vld b=true then ltL (lbl a).reverse (lbl b).reverse else True) else (if vld b=true then False else ltB a b)
theorem gp (a b:List UInt8):Nc a b<0↔ltN a b:=by
 unfold ltN;rcases Ad (vld a) with ha|ha
 ·rcases Ad (vld b) with hb|hb
  ·rw [Tg ha hb,Ax3,if_pos ha,if_pos hb]
  ·unfold Nc;simp [ha,hb]
 ·rcases Ad (vld b) with hb|hb
  ·unfold Nc;simp [ha,hb]
  ·have e:Nc a b=cmpS a b:=by unfold Nc;simp [ha,hb]
   rw [e,Tf];simp [ha,hb]
theorem Gr4:TO ltN:=by
 refine ⟨fun a h=> ?_,fun a b c h1 h2=> ?_,fun a b=> ?_⟩
 ·unfold ltN at h;split at h
  ·exact to_L.irr _ h
  ·exact Dk5.irr _ h
 ·unfold ltN at*;rcases Ad (vld a) with ha|ha<;>rcases Ad (vld b) with hb|hb<;>rcases Ad (vld c) with hc|hc<;>
   simp only [ha,hb,hc,if_true,Ac,if_false] at h1 h2 ⊢
  ·exact to_L.tr _ _ _ h1 h2
  ·exact Dk5.tr _ _ _ h1 h2
 ·unfold ltN;rcases Ad (vld a) with ha|ha<;>rcases Ad (vld b) with hb|hb<;>simp only [ha,hb,if_true,Ac,if_false]
  ·rcases to_L.tri (lbl a).reverse (lbl b).reverse with h|h|h
   ·exact .inl h
   ·exact .inr (.inl (z5 ha hb (List.reverse_inj.1 h)))
   ·exact .inr (.inr h)
  ·simp
  ·simp
  ·exact Dk5.tri a b
theorem L6 {a b:List UInt8}:Nc a b=0↔a=b:=by
 constructor
 ·intro h;rcases Ad (vld a) with ha|ha
  ·rcases Ad (vld b) with hb|hb
   ·rw [Tg ha hb] at h;have key:∀x y:List (List UInt8),om x y=0→x=y:=by
     intro x
     induction x with
     |nil=>intro y hy;cases y with
      |nil=>rfl
      |cons=>simp [om,P4] at hy
     |cons x xs ih=>intro y hy;cases y with
      |nil=>simp [om,P4] at hy
      |cons y ys=>
       simp only [om,P4] at hy ih;by_cases e:x=y
       ·subst e;rw [if_pos rfl] at hy;simp only [A9,Nat.add_lt_add_iff_right] at hy;rw [ih ys hy]
       ·rw [if_neg e] at hy;exact absurd (Ik.1 hy) e
    rw [Z8] at h;exact z5 ha hb (List.reverse_inj.1 (key _ _ h))
   ·unfold Nc at h;simp [ha,hb] at h
  ·rcases Ad (vld b) with hb|hb
   ·unfold Nc at h;simp [ha,hb] at h
   ·have e:Nc a b=cmpS a b:=by unfold Nc;simp [ha,hb]
    rw [e] at h;exact Ik.1 h
 ·rintro rfl;have h1:=gp a a;have h2:¬Nc a a<0:=fun h=>Gr4.irr a (h1.1 h);have key:∀x:List (List UInt8),om x x=0:=by
   intro x
   induction x with
   |nil=>rfl
   |cons x xs ih=>
    simp only [om,P4] at ih ⊢;simp only [if_true,A9,Nat.add_lt_add_iff_right];exact ih
  rcases Ad (vld a) with ha|ha
  ·rw [Tg ha ha];rw [Z8];exact key _
  ·have e:Nc a a=cmpS a a:=by unfold Nc;simp [ha]
   rw [e];exact Ik.2 rfl
end Go.X.G
/- Stable sorting, in plain words: what is sorted and keeps the order of what is alike is one list alone. -/
namespace Go.X.G
open Go Go.X
structure TP {α:Type} (le:α→α→Bool):Prop where
 tr:∀a b c,le a b=true→le b c=true→le a c=true
 tot:∀a b,le a b=true∨le b a=true
theorem TP.refl {α:Type} {le:α→α→Bool} (h:TP le) (a:α):le a a=true:=by rcases h.tot a a with q|q<;>exact q
def eqv {α:Type} (le:α→α→Bool) (a b:α):Bool:=le a b && le b a
structure Stab {α:Type} (le:α→α→Bool) (r l:List α):Prop where
 sorted:r.Pairwise fun a b=>le a b=true
 cls:∀x,r.filter (eqv le x)=l.filter (eqv le x)
theorem Stab.mem {α:Type} {le:α→α→Bool} (ht:TP le) {r l:List α} (h:Stab le r l) (x:α):x∈r↔x∈l:=by
 have e:eqv le x x=true:=by unfold eqv;rw [ht.refl];rfl
 have h1:x∈r↔x∈r.filter (eqv le x):=by rw [Ef];simp [e]
 have h2:x∈l↔x∈l.filter (eqv le x):=by rw [Ef];simp [e]
 rw [h1,h.cls,←h2]
theorem eq {α:Type} {le:α→α→Bool} (ht:TP le):∀(r s:List α),(r.Pairwise fun a b=>le a b=true)→(s.Pairwise fun a b=>le a b=true)→(∀x,r.filter (eqv le x)=s.filter (eqv le x))→r=s
 |[],s,_,_,h=>by
  cases s with
  |nil=>rfl
  |cons y t=>
   have:=h y;rw [List.filter_nil,Ev (by unfold eqv;rw [ht.refl];rfl)] at this;cases this
 |x::r,[],_,_,h=>by have:=h x;rw [List.filter_nil,Ev (by unfold eqv;rw [ht.refl];rfl)] at this;cases this
 |x::r,y::s,hr,hs,h=>by
  obtain ⟨r1,r2⟩:=Bh.1 hr;obtain ⟨s1,s2⟩:=Bh.1 hs;have hmem:∀z,z∈x::r↔z∈y::s:=fun z=>by
   have e:eqv le z z=true:=by unfold eqv;rw [ht.refl];rfl
   have a1:z∈x::r↔z∈(x::r).filter (eqv le z):=by rw [Ef];simp [e]
   have a2:z∈y::s↔z∈(y::s).filter (eqv le z):=by rw [Ef];simp [e]
   rw [a1,h,←a2]
  have hxy:le x y=true:=by
   rcases A6.1 ((hmem y).2 (.head _)) with q|q
   ·rw [q];exact ht.refl x
   ·exact r1 y q
  have hyx:le y x=true:=by
   rcases A6.1 ((hmem x).1 (.head _)) with q|q
   ·rw [q];exact ht.refl y
   ·exact s1 x q
  have e:x=y:=by have:=h x;rw [Ev (by unfold eqv;rw [ht.refl];rfl),Ev (by unfold eqv;rw [hxy,hyx];rfl)] at this;injection this
  subst e;have:r=s:=eq ht r s r2 s2 fun z=>by
   have:=h z;simp only [N9] at this;split at this
   ·injection this
   ·exact this
  rw [this]
theorem Stab.one {α:Type} {le:α→α→Bool} (ht:TP le) {r s l:List α} (h1:Stab le r l) (h2:Stab le s l):r=s:=
 eq ht r s h1.sorted h2.sorted fun x=>by rw [h1.cls,h2.cls]
def mrg {α:Type} (le:α→α→Bool):List α→List α→List α
 |[],b=>b
 |x::a,[]=>x::a
 |x::a,y::b=>if le x y=true then x::mrg le a (y::b) else y::mrg le (x::a) b
termination_by a b=>a.length+b.length
theorem Jv {α:Type} (le:α→α→Bool) (a:List α):mrg le a []=a:=by cases a<;>simp [mrg]
theorem mrg_mem {α:Type} (le:α→α→Bool) (z:α):∀(a b:List α),z∈mrg le a b↔z∈a∨z∈b
 |[],b=>by simp [mrg]
 |x::a,[]=>by simp [mrg]
 |x::a,y::b=>by
  unfold mrg;split
  ·rw [A6,mrg_mem le z a (y::b)];simp only [A6];grind
  ·rw [A6,mrg_mem le z (x::a) b];simp only [A6];grind
termination_by a b=>a.length+b.length
theorem Mr {α:Type} {le:α→α→Bool} (ht:TP le):∀(a b:List α),(a.Pairwise fun x y=>le x y=true)→(b.Pairwise fun x y=>le x y=true)→(mrg le a b).Pairwise fun x y=>le x y=true
 |[],b,_,hb=>by simpa [mrg] using hb
 |x::a,[],ha,_=>by simpa [mrg] using ha
 |x::a,y::b,ha,hb=>by
  obtain ⟨a1,a2⟩:=Bh.1 ha;obtain ⟨b1,b2⟩:=Bh.1 hb;unfold mrg;split
  ·rename_i h;refine Bh.2 ⟨fun z hz=> ?_,Mr ht a (y::b) a2 hb⟩;rcases (mrg_mem le z a (y::b)).1 hz with hz|hz
   ·exact a1 z hz
   ·rcases A6.1 hz with rfl|hz
    ·exact h
    ·exact ht.tr _ _ _ h (b1 z hz)
  ·rename_i h;have h':le y x=true:=(ht.tot x y).resolve_left h;refine Bh.2 ⟨fun z hz=> ?_,Mr ht (x::a) b ha b2⟩;rcases (mrg_mem le z (x::a) b).1 hz with hz|hz
   ·rcases A6.1 hz with rfl|hz
    ·exact h'
    ·exact ht.tr _ _ _ h' (a1 z hz)
   ·exact b1 z hz
termination_by a b=>a.length+b.length
theorem Zj {α:Type} {le:α→α→Bool} (ht:TP le) (z:α):∀(a b:List α),(a.Pairwise fun x y=>le x y=true)→(mrg le a b).filter (eqv le z)=a.filter (eqv le z)++b.filter (eqv le z)
 |[],b,_=>by simp [mrg]
 |x::a,[],_=>by simp [mrg]
 |x::a,y::b,ha=>by
  obtain ⟨a1,a2⟩:=Bh.1 ha;unfold mrg;split
  ·simp only [N9];rw [Zj ht z a (y::b) a2];simp only [N9];split<;>simp
  ·rename_i h;rw [N9,Zj ht z (x::a) b ha];by_cases hy:eqv le z y=true
   ·-- then nothing of the first list is like z
    have hno:(x::a).filter (eqv le z)=[]:=by
     rw [Rn];intro w hw hzw;unfold eqv at hy hzw;simp only [Ax] at hy hzw;have hxw:le x w=true:=by
      rcases A6.1 hw with rfl|hw
      ·exact ht.refl _
      ·exact a1 w hw
     exact h (ht.tr _ _ _ hxw (ht.tr _ _ _ hzw.2 hy.1))
    rw [hno,Ev hy,if_pos hy];rfl
   ·rw [if_neg hy,List.filter_cons_of_neg hy]
termination_by a b=>a.length+b.length
theorem Stab.mrg {α:Type} {le:α→α→Bool} (ht:TP le) {r s l m:List α} (h1:Stab le r l) (h2:Stab le s m):Stab le (mrg le r s) (l++m):=
 ⟨Mr ht r s h1.sorted h2.sorted,fun x=>by rw [Zj ht x r s h1.sorted,h1.cls,h2.cls,I5]⟩
theorem Jq {α:Type} (le:α→α→Bool) (a2 b2:List α):∀(a1 b1:List α),(∀x∈a1,∀y∈b2,le x y=true)→(∀x∈a2,∀y∈b1,le x y=false)→mrg le (a1++a2) (b1++b2)=mrg le a1 b1++mrg le a2 b2
 |[],[],_,_=>by simp [mrg]
 |x::a1,[],h1,h2=>by
  rw [Jv,C0];have ih:=Jq le a2 b2 a1 [] (fun w hw=>h1 w (.tail _ hw)) h2;rw [Jv,C0] at ih;cases b2 with
  |nil=>rw [Jv,Jv]
  |cons y b=>
   rw [B0];have e:mrg le (x::(a1++a2)) (y::b)=x::mrg le (a1++a2) (y::b):=by
    conv=>lhs;unfold mrg
    rw [if_pos (h1 x (.head _) y (.head _))]
   rw [e,ih,B0]
 |[],y::b1,h1,h2=>by
  have ih:=Jq le a2 b2 [] b1 h1 (fun x hx w hw=>h2 x hx w (.tail _ hw));cases a2 with
  |nil=>simp [mrg]
  |cons x a=>
   rw [C0] at ih ⊢;rw [B0];have e:mrg le (x::a) (y::(b1++b2))=y::mrg le (x::a) (b1++b2):=by
    conv=>lhs;unfold mrg
    rw [if_neg (by rw [h2 x (.head _) y (.head _)];simp)]
   rw [e,ih];simp [mrg]
 |x::a1,y::b1,h1,h2=>by
  rw [B0,B0];by_cases h:le x y=true
  ·have ih:=Jq le a2 b2 a1 (y::b1) (fun w hw=>h1 w (.tail _ hw)) h2;have e1:mrg le (x::(a1++a2)) (y::(b1++b2))=x::mrg le (a1++a2) (y::(b1++b2)):=by
    conv=>lhs;unfold mrg
    rw [if_pos h]
   have e2:mrg le (x::a1) (y::b1)=x::mrg le a1 (y::b1):=by
    conv=>lhs;unfold mrg
    rw [if_pos h]
   rw [e1,e2,B0,←ih];rfl
  ·have ih:=Jq le a2 b2 (x::a1) b1 h1 (fun w hw v hv=>h2 w hw v (.tail _ hv));have e1:mrg le (x::(a1++a2)) (y::(b1++b2))=y::mrg le (x::(a1++a2)) (b1++b2):=by
    conv=>lhs;unfold mrg
    rw [if_neg h]
   have e2:mrg le (x::a1) (y::b1)=y::mrg le (x::a1) b1:=by
    conv=>lhs;unfold mrg
    rw [if_neg h]
   rw [e1,e2,B0,←ih];rfl
termination_by a1 b1=>a1.length+b1.length
end Go.X.G
/- Sorted lists of names, each once. -/
namespace Go.X.G
open Go Go.X
def X5 {α:Type} (e:α→α→Bool):α→List α→List α
 |_,[]=>[]
 |p,c::r=>if e c p=true then X5 e c r else c::X5 e c r
def cpt {α:Type} (e:α→α→Bool):List α→List α
 |[]=>[]
 |x::r=>x::X5 e x r
theorem Xy {α:Type} (e:α→α→Bool) (c:α):∀(r:List α) (p:α),X5 e p (r++[c])=X5 e p r++(if e c ((p::r).getLast (by simp))=true then [] else [c])
 |[],p=>by simp only [C0,X5,List.getLast_singleton];rfl
 |x::r,p=>by
  have ih:=Xy e c r x;simp only [B0,X5,List.getLast_cons_cons];split
  ·exact ih
  ·rw [ih];rfl
theorem Tc {α:Type} (e:α→α→Bool) (c:α) (l:List α) (h:l≠[]):cpt e (l++[c])=cpt e l++(if e c (l.getLast h)=true then [] else [c]):=by
 cases l with
 |nil=>exact absurd rfl h
 |cons x r=>
  show x::X5 e x (r++[c])=_;rw [Xy];rfl
theorem gf {α:Type} (e:α→α→Bool):∀(r:List α) (p:α),(X5 e p r).length≤r.length
 |[],_=>by simp [X5]
 |c::r,p=>by have:=gf e r c;simp only [X5];split<;>simp<;>omega
theorem Fw9 {α:Type} (e:α→α→Bool) (l:List α):(cpt e l).length≤l.length:=by
 cases l with
 |nil=>simp [cpt]
 |cons x r=>have:=gf e r x;simp [cpt];exact this
abbrev eqs {α:Type} [DecidableEq α]:α→α→Bool:=fun a b=>decide (a=b)
def setN (l:List (List UInt8)):List (List UInt8):=cpt eqs (l.mergeSort fun x y=> !decide (Nc y x<0))
end Go.X.G
/- Data of records: what the reference's functions give. -/
namespace Go.X.G
open Go Go.X
def Gr9 (t:Int):List UInt8:=
 if t=1 then [65] else if t=2 then [78,83] else if t=5 then [67,78,65,77,69] else if t=6 then [83,79,65] else if t=12 then [80,84,82]
 else if t=15 then [77,88] else if t=16 then [84,88,84] else if t=28 then [65,65,65,65] else if t=33 then [83,82,86] else if t=39 then [68,78,65,77,69]
 else if t=43 then [68,83] else if t=46 then [82,82,83,73,71] else if t=47 then [78,83,69,67] else if t=48 then [68,78,83,75,69,89] else []
theorem t15 (t:Int):t=1∨t=2∨t=5∨t=6∨t=12∨t=15∨t=16∨t=28∨t=33∨t=39∨t=43∨t=46∨t=47∨t=48∨(t≠1∧t≠2∧t≠5∧t≠6∧t≠12∧t≠15∧t≠16∧t≠28∧t≠33∧t≠39∧t≠43∧t≠46∧t≠47∧t≠48):=by omega
theorem bh (t:Int):S yd 1 [.i .i64 t]=some [.s (Gr9 t)]:=by
 refine Hy7 (N:=1) rfl ?_;rcases t15 t with rfl|rfl|rfl|rfl|rfl|rfl|rfl|rfl|rfl|rfl|rfl|rfl|rfl|rfl|⟨h0,h1,h2,h3,h4,h5,h6,h7,h8,h9,h10,h11,h12,h13⟩
 all_goals simp (disch:=omega) only [Hj3,xe,EVP,EV,simprocAttr]
 all_goals first|rfl|(unfold Gr9;simp only [if_neg, *];rfl)
def knw (t:Int):Bool:=decide (t=1)||decide (t=2)||decide (t=5)||decide (t=6)||decide (t=12)||decide (t=15)||decide (t=16)||decide (t=28)||decide (t=33)||decide (t=39)||decide (t=43)||decide (t=46)||decide (t=47)||decide (t=48)
theorem Cm7 (t:Int):decide (Gr9 t≠[])=knw t:=by
 unfold Gr9 knw;rcases t15 t with rfl|rfl|rfl|rfl|rfl|rfl|rfl|rfl|rfl|rfl|rfl|rfl|rfl|rfl|⟨h0,h1,h2,h3,h4,h5,h6,h7,h8,h9,h10,h11,h12,h13⟩
 all_goals simp [*]
theorem B4 (t:Int):S Qk 1 [.i .i64 t]=some [.b (knw t)]:=by refine Hc2 (N:=1) rfl ?_;simp (disch:=omega) only [Hk4,bh,Cm7,xe,EVP,EV,simprocAttr]
def Dv (d:Dat):Bool:=d.v6||(decide (d.hi=0) && decide (d.lo<4294967296))
theorem Xf (d:Dat):S mc 1 [Hd d]=some [.b (Dv d)]:=by refine Hy5 (N:=1) rfl ?_;unfold Dv;cases h:d.v6<;>by_cases h2:d.hi=0<;>simp (disch:=omega) [Hj1,h,h2,xe,EVP,EV,simprocAttr]
def inB (n most:Int):Bool:=decide (0≤n) && decide (n≤most)
theorem nz (n m:Int):S H6 2 [.i .i64 n, .i .i64 m]=some [.b (inB n m)]:=by refine Hy2 (N:=1) rfl ?_;simp (disch:=omega) only [Gt9,inB,xe,EVP,EV,simprocAttr]
theorem Bt3 (n:Int):S yb 1 [.i .i64 n]=some [.b (inB n 4294967295)]:=by refine Hy3 (N:=1) rfl ?_;simp (disch:=omega) only [Hj0,inB,xe,EVP,EV,simprocAttr];congr 5;simp;omega
def Fw (s:List UInt8):Bool:=decide (1≤s.length) && decide (s.length≤255)
theorem R8 (s:List UInt8):S Y6 1 [.s s]=some [.b (Fw s)]:=by refine Hy1 (N:=1) rfl ?_;simp (disch:=omega) only [Gt8,Fw,xe,EVP,EV,simprocAttr];congr 5<;>simp<;>omega
theorem ql {n:List UInt8} (h:vld n=true):0<n.length:=by
 unfold vld nm at h;split at h
 ·rename_i e;simp [e]
 ·split at h
  ·omega
  ·cases h
def E3 (n:List UInt8):Bool:=vld n && decide (n[0]? ≠some 42)
theorem Gd (n:List UInt8) (hn:n.length≤9223372036854775807):S P9 1 [.s n]=some [.b (E3 n)]:=by
 refine Hy4 (N:=1) rfl ?_;unfold E3;cases h:vld n
 ·simp (disch:=omega) only [Fl9,P0,h,xe,EVP,EV,simprocAttr];rfl
 ·have h0:=Az (ql h);have h1:=Em0 (n[0]'(ql h)) 42 (by omega);simp (disch:=omega) only [Fl9,P0,h,h0,xe,EVP,EV,simprocAttr];simp;exact h1
def bit (set:Int) (t:Nat):Int:=set / 2 ^ t % 2
theorem Gp4 (x:Int):IntKind.u64.wrap ((BitVec.ofInt IntKind.u64.bits x &&& BitVec.ofInt IntKind.u64.bits 1).toNat:Int)=x % 2:=by
 have h2:(BitVec.ofInt 64 x &&& BitVec.ofInt 64 1).toNat=(BitVec.ofInt 64 x).toNat % 2:=by rw [BitVec.toNat_and];show (BitVec.ofInt 64 x).toNat &&& 1=_;exact Nat.and_one_is_mod _
 show IntKind.u64.wrap (((BitVec.ofInt 64 x &&& BitVec.ofInt 64 1).toNat:Nat):Int)=_;rw [h2,BitVec.toNat_ofInt];rw [Gr2]<;>omega
end Go.X.G
/- Data of records: bytes. -/
namespace Go.X.G
open Go Go.X
def jv (set:Int) (i:Nat):Nat→Bool
 |0=>true
 |k+1=>(!decide (bit set i=1)||knw (i:Int)) && jv set (i+1) k
theorem Gp6 (set:Int) (N:Nat) (hN:64<N):
  Dw4.ev S N [.i .u64 set]=some (if jv set 0 64=true then .yld 0 [] else .ret [.b false]):=by
 refine Fx 64 (fun i=>[.i .i64 (i:Int)]) (fun i=>if jv set i (64 - i)=true then .yld 0 [] else .ret [.b false]) rfl hN (fun i hi=> ?_) ?_
 ·obtain ⟨k,hk⟩:∃k,64 - i=k+1:=⟨63 - i,by omega⟩;have hk':64 - (i+1)=k:=by omega
  have hb:IntKind.u64.bits=64:=rfl;have hi':i<IntKind.u64.bits:=by rw [hb];exact hi
  have h0:X.bin .shr (.i .u64 set) (.i .u64 (i:Int))=some (.i .u64 (set / 2 ^ i)):=jg _ _ _ _ hi';have h1:set / 2 ^ i % 2=bit set i:=rfl;rw [hk,hk'];simp only [jv];by_cases h2:bit set i=1<;>rcases Ad (knw (i:Int)) with h3|h3<;>simp (disch:=omega) only [Eh8,B4,Pr,Gp4,h0,h1,h2,h3,xe,EVP,EV,simprocAttr]
  all_goals simp [Out.goes]
 ·simp (disch:=omega) [Eh8,xe,EVP,EV,simprocAttr,Out.goes,jv]
theorem Gp5 (set:Int):S yz 1 [.i .u64 set]=some [.b (jv set 0 64)]:=by refine Hy0 (N:=65) rfl ?_;simp (disch:=omega) only [Eh8,Gp6,xe,EVP,EV,simprocAttr];cases jv set 0 64<;>rfl
def be (v:Int):Nat→List UInt8
 |0=>[]
 |n+1=>UInt8.ofNat (v / 256 ^ n % 256).toNat::be v n
theorem Dj (v:Int):∀n,(be v n).length=n
 |0=>rfl
 |n+1=>by simp [be,Dj v n]
theorem O3 (z:Int) (h1:0≤z) (h2:z<256):((UInt8.ofNat z.toNat).toNat:Int)=z:=by simp;omega
theorem Z7 (v:Int) (j:Nat):v / 256 ^ j / 256=v / 256 ^ (j+1):=by rw [Int.pow_succ,Int.ediv_ediv_of_nonneg (Int.le_of_lt (Int.pow_pos (by decide)))]
theorem Xw (v:Int) (j:Nat) (h:0≤v):0≤v / 256 ^ j:=Int.ediv_nonneg h (Int.le_of_lt (Int.pow_pos (by decide)))
theorem Xx (v:Int) (j:Nat) (h:0≤v):v / 256 ^ j≤v:=Int.ediv_le_self _ h
theorem xm (v:Int) (n i:Nat) (p q:PV) (N:Nat) (hN:i<N) (hi:i≤1000) (h0:0≤v) (h1:v≤18446744073709551615):
  Aj0.ev S N [.i .u64 v,p,q, .i .i64 (i:Int)]=some (.yld 2 [.i .u64 (v / 256 ^ i)]):=by
 refine Fx i (fun j=>[.i .u64 (v / 256 ^ j), .i .i64 (j:Int)]) (fun j=> .yld 2 [.i .u64 (v / 256 ^ i)]) (by simp [Tv,Zp,Hs8,Ht2]) hN (fun j hj=> ?_) ?_
 ·left;have h2:=Xw v j h0;have h3:=Xx v j h0;have h4:=Z7 v j;simp (disch:=omega) only [Ul,h4,xe,EVP,EV,simprocAttr];simp
 ·simp (disch:=omega) only [Ul,xe,EVP,EV,simprocAttr];simp [Out.goes]
theorem xn (v:Int) (n:Nat) (N:Nat) (hN:n+1<N) (hn:n≤1000) (h0:0≤v) (h1:v≤18446744073709551615):
  Zx.ev S N [.i .u64 v, .i .i64 (n:Int)]=some (.yld 0 [.l 1 (Bf (be v n))]):=by
 have key:=Hw (fn:=S) (N:=N) (η:=[.i .u64 v, .i .i64 (n:Int)]) (id:=1) (init:=[(.c (.l 1 [])),(.bin .sub (.v 1) (.c (.i .i64 (1))))]) (body:=ah) (α:=Nat×List UInt8) (fun a=>[.l 1 (Bf a.2), .i .i64 ((a.1:Int) - 1)]) (fun a=> .yld 0 [.l 1 (Bf (a.2++be v a.1))]) (fun a=>a.1+a.2.length=n) (fun a=>a.1) (n,[]) (by simp (disch:=omega) only [xe,EVP,EV,simprocAttr];rfl) rfl (by simp only;omega) ?_
 ·simpa [Zx] using key
 ·rintro ⟨m,acc⟩ hm;simp only at hm ⊢;cases m with
  |zero=>
   right;simp (disch:=omega) only [Ul,xe,EVP,EV,simprocAttr];simp [be,Out.goes]
  |succ m=>
   left;have h2:=Xw v m h0;have h3:=Xx v m h0;have e:((m+1:Nat):Int) - 1=(m:Int):=by omega
   have e2:=O3 (v / 256 ^ m % 256) (by omega) (by omega);have e3:=Jm acc;refine ⟨(m,acc++[UInt8.ofNat (v / 256 ^ m % 256).toNat]),?_,by simp;omega,by simp,by simp [be]⟩;rw [e];have hin:=xm v n m (.i .i64 (n:Int)) (.l 1 (Bf acc)) N (by omega) (by omega) h0 h1;simp (disch:=omega) only [Ul,hin,xe,EVP,EV,simprocAttr];rw [←M4,e2]
theorem O4 (v:Int) (n:Nat) (hn:n≤1000) (h0:0≤v) (h1:v≤18446744073709551615):S O5 2 [.i .u64 v, .i .i64 (n:Int)]=some [.s (be v n)]:=by refine Ft3 (N:=n+2) rfl ?_;simp (disch:=omega) only [Ul,xn,xe,EVP,EV,simprocAttr]
theorem Bt6 (v:Int) (n i:Nat) (p q:PV) (N:Nat) (hN:i<N) (hi:i≤1000) (h0:0≤v) (h1:v≤9223372036854775807):
  Aj2.ev S N [.i .i64 v,p,q, .i .i64 (i:Int)]=some (.yld 2 [.i .i64 (v / 256 ^ i)]):=by
 refine Fx i (fun j=>[.i .i64 (v / 256 ^ j), .i .i64 (j:Int)]) (fun j=> .yld 2 [.i .i64 (v / 256 ^ i)]) (by simp [Tv,Zp,Hs8,Ht2]) hN (fun j hj=> ?_) ?_
 ·left;have h2:=Xw v j h0;have h3:=Xx v j h0;have h4:=Z7 v j;simp (disch:=omega) only [Um,h4,xe,EVP,EV,simprocAttr];simp
 ·simp (disch:=omega) only [Um,xe,EVP,EV,simprocAttr];simp [Out.goes]
theorem Bt7 (v:Int) (n:Nat) (N:Nat) (hN:n+1<N) (hn:n≤1000) (h0:0≤v) (h1:v≤9223372036854775807):
  Zy.ev S N [.i .i64 v, .i .i64 (n:Int)]=some (.yld 0 [.l 1 (Bf (be v n))]):=by
 have key:=Hw (fn:=S) (N:=N) (η:=[.i .i64 v, .i .i64 (n:Int)]) (id:=1) (init:=[(.c (.l 1 [])),(.bin .sub (.v 1) (.c (.i .i64 (1))))]) (body:=am) (α:=Nat×List UInt8) (fun a=>[.l 1 (Bf a.2), .i .i64 ((a.1:Int) - 1)]) (fun a=> .yld 0 [.l 1 (Bf (a.2++be v a.1))]) (fun a=>a.1+a.2.length=n) (fun a=>a.1) (n,[]) (by simp (disch:=omega) only [xe,EVP,EV,simprocAttr];rfl) rfl (by simp only;omega) ?_
 ·simpa [Zy] using key
 ·rintro ⟨m,acc⟩ hm;simp only at hm ⊢;cases m with
  |zero=>
   right;simp (disch:=omega) only [Um,xe,EVP,EV,simprocAttr];simp [be,Out.goes]
  |succ m=>
   left;have h2:=Xw v m h0;have h3:=Xx v m h0;have e:((m+1:Nat):Int) - 1=(m:Int):=by omega
   have e2:=O3 (v / 256 ^ m % 256) (by omega) (by omega);have e3:=Jm acc;refine ⟨(m,acc++[UInt8.ofNat (v / 256 ^ m % 256).toNat]),?_,by simp;omega,by simp,by simp [be]⟩;rw [e];have hin:=Bt6 v n m (.i .i64 (n:Int)) (.l 1 (Bf acc)) N (by omega) (by omega) h0 h1;simp (disch:=omega) only [Um,hin,xe,EVP,EV,simprocAttr];rw [←M4,e2]
theorem Js (v:Int) (n:Nat) (hn:n≤1000) (h0:0≤v) (h1:v≤9223372036854775807):S D2 2 [.i .i64 v, .i .i64 (n:Int)]=some [.s (be v n)]:=by refine Gj1 (N:=n+2) rfl ?_;simp (disch:=omega) only [Um,Bt7,xe,EVP,EV,simprocAttr]
end Go.X.G
/- Data of records: the wire form. -/
namespace Go.X.G
open Go Go.X
theorem Pv {s:List UInt8} (h:I4 s=true):s.length≤63:=by
 unfold I4 at h;simp at h;rcases h with h|h
 ·simp [h]
 ·omega
theorem Sj:∀(r:List UInt8) (f:Bool) (cur:List UInt8) (l:List (List UInt8)),spl f cur r=some l→∀x∈l,I4 x=true
 |[],f,cur,l,h=>by simp [spl] at h;subst h;simp
 |c::r,f,cur,l,h=>by
  simp only [spl] at h;split at h
  ·split at h
   ·rename_i h2;obtain ⟨m,hm,rfl⟩:=Av.1 h;intro x hx;simp at hx;rcases hx with rfl|hx
    ·exact h2.1
    ·exact Sj r _ _ _ hm x hx
   ·cases h
  ·exact Sj r _ _ _ h
theorem Lr (n:List UInt8):∀x∈lbl n,I4 x=true:=by
 unfold lbl nm;split
 ·simp
 ·split
  ·cases h:spl true [] n with
   |none=>simp
   |some l=>simpa using Sj _ _ _ _ h
  ·simp
def wireL (l:List (List UInt8)):List UInt8:=l.flatMap fun x=>be (x.length:Int) 1++x
def G4 (n:List UInt8):List UInt8:=wireL (lbl n)++be 0 1
theorem Lq:∀(l:List (List UInt8)),(∀x∈l,I4 x=true)→(wireL l).length≤64*l.length
 |[],_=>by simp [wireL]
 |x::l,h=>by have h1:=Pv (h x (by simp));have h2:=Lq l (fun y hy=>h y (by simp [hy]));simp only [wireL,cm,Ab,Dj,A9] at h2 ⊢;omega
theorem Lk (n:List UInt8):(G4 n).length≤20000:=by have h1:=Lq (lbl n) (Lr n);have h2:=Jy n;simp only [G4,Ab,Dj];omega
theorem bz (n:List UInt8) (N:Nat) (hN:254<N):
  Zz.ev S N [.s n,Cp (lbl n)]=some (.yld 0 [.s (wireL (lbl n))]):=by
 have hl:=Jy n;have key:=E2 (fn:=S) (N:=N) (η:=[.s n,Cp (lbl n)]) (id:=1) (init:=[(.c (.s [])),(.c (.i .i64 (0)))]) (body:=bj) (lbl n) (fun i (g:List UInt8)=>[.s g, .i .i64 (i:Int)]) (fun i g r=> .yld 0 [.s (g++wireL r)]) (fun i g=>g.length≤64*i) [] rfl (Af _) (by omega) (fun i g c r hd hi hc hI=> ?_) (fun g hI=> ?_)
 ·simpa [Zz] using key
 ·left;have h1:=Pv (Lr n c (By hc));have h2:=Js (c.length:Int) 1 (by omega) (by omega) (by omega);have h3:=Dj (c.length:Int) 1;have h4:(be (c.length:Int) 1++c).length=1+c.length:=by rw [Ab,h3]
  refine ⟨g++(be (c.length:Int) 1++c),?_,?_,?_⟩
  ·simp only [Int.natCast_one] at h2;simp (disch:=omega) only [qb,hc,h2,xe,EVP,EV,simprocAttr]
  ·rw [Ab,h4];omega
  ·simp [wireL]
 ·simp (disch:=omega) only [qb,xe,EVP,EV,simprocAttr];simp [Out.goes,wireL]
theorem Dn (n:List UInt8) (hn:n.length≤9223372036854775807):S Jk 1 [.s n]=some [.s (G4 n)]:=by refine Gj2 (N:=255) rfl ?_;have h1:=Lq (lbl n) (Lr n);have h2:=Jy n;have h3:=Dj 0 1;have h4:=Js 0 1 (by omega) (by omega) (by omega);simp only [Int.natCast_one] at h4;simp (disch:=omega) only [qb,o8,bz,h4,xe,EVP,EV,simprocAttr];rfl
def bmV (set:Int) (i:Nat):Nat→Int
 |0=>0
 |j+1=>bmV set i j*2+bit set (i*8+j)
theorem Bp2 (set:Int) (t:Nat):0≤bit set t∧bit set t≤1:=by unfold bit;omega
theorem Rz (set:Int) (i:Nat):∀j,0≤bmV set i j∧bmV set i j<2 ^ j
 |0=>by simp [bmV]
 |j+1=>by have h1:=Rz set i j;have h2:=Bp2 set (i*8+j);simp only [bmV,Int.pow_succ];omega
def bmB (set:Int) (i:Nat):UInt8:=UInt8.ofNat (bmV set i 8).toNat
def bmL (set:Int):Nat→Nat
 |0=>0
 |i+1=>if bmV set i 8≠0 then i+1 else bmL set i
theorem Bn5 (set:Int):∀i,bmL set i≤i
 |0=>Af _
 |i+1=>by have:=Bn5 set i;simp only [bmL];split<;>omega
def bmap (set:Int):List UInt8:=((List.range 8).map (bmB set)).take (bmL set 8)
theorem Bn9 (set:Int) (p q:PV) (i:Nat) (hi:i<8) (N:Nat) (hN:8<N):
  Aj1.ev S N [.i .u64 set,p,q, .i .i64 (i:Int)]=some (.yld 2 [.i .i64 (bmV set i 8)]):=by
 refine Fx 8 (fun j=>[.i .i64 (bmV set i j), .i .i64 (j:Int)]) (fun j=> .yld 2 [.i .i64 (bmV set i 8)]) rfl hN (fun j hj=> ?_) ?_
 ·left;have hb:IntKind.u64.bits=64:=rfl;have hi':i*8+j<IntKind.u64.bits:=by rw [hb];omega
  have e:((i:Int)*8+(j:Int))=((i*8+j:Nat):Int):=by simp
  have h0:X.bin .shr (.i .u64 set) (.i .u64 ((i*8+j:Nat):Int))=some (.i .u64 (set / 2 ^ (i*8+j))):=jg _ _ _ _ hi';have h1:set / 2 ^ (i*8+j) % 2=bit set (i*8+j):=rfl;have h2:=Rz set i j;have h3:(2:Int) ^ j≤128:=(by decide:∀j,j<8→(2:Int) ^ j≤128) j hj;have h4:=Bp2 set (i*8+j);simp (disch:=omega) only [Qz,Pr,Gp4,h0,h1,←e,xe,EVP,EV,simprocAttr];refine ⟨?_,trivial⟩;rw [e,h0];simp (disch:=omega) only [Pr,Gp4,h0,h1,xe,EVP,EV,simprocAttr];rfl
 ·simp (disch:=omega) only [Qz,xe,EVP,EV,simprocAttr];simp [Out.goes]
theorem Bp0 (set:Int) (N:Nat) (hN:8<N):
  Ak2.ev S N [.i .u64 set]=some (.yld 0 [.l 1 (Bf ((List.range 8).map (bmB set))), .i .i64 (bmL set 8:Int)]):=by
 refine Fx 8 (fun i=>[.l 1 (Bf ((List.range i).map (bmB set))), .i .i64 (bmL set i:Int), .i .i64 (i:Int)]) (fun _=> .yld 0 [.l 1 (Bf ((List.range 8).map (bmB set))), .i .i64 (bmL set 8:Int)]) rfl hN (fun i hi=> ?_) ?_
 ·left;have h1:=Bn9 set (.l 1 (Bf ((List.range i).map (bmB set)))) (.i .i64 (bmL set i:Int)) i hi N hN;have h2:=Rz set i 8;have h3:(2:Int) ^ 8=256:=rfl;have h4:=O3 (bmV set i 8) (by omega) (by omega);have h5:(Bf ((List.range i).map (bmB set))).length=i:=by simp [Jm]
  have h6:Bf ((List.range (i+1)).map (bmB set))=Bf ((List.range i).map (bmB set))++[.i .u8 (bmV set i 8)]:=by rw [List.range_succ,List.map_append,←h4];exact (M4 _ _).symm
  rw [h6];by_cases h7:bmV set i 8=0
  ·simp (disch:=omega) only [Qz,h1,bmL,h7,xe,EVP,EV,simprocAttr];simp
  ·simp (disch:=omega) only [Qz,h1,bmL,xe,EVP,EV,simprocAttr];simp [h7]
 ·simp (disch:=omega) only [Qz,xe,EVP,EV,simprocAttr];simp [Out.goes]
theorem Bn8 (set:Int):S Wj 1 [.i .u64 set]=some [.s (bmap set)]:=by
 refine Gj0 (N:=9) rfl ?_;have h1:=Bn5 set 8;have h2:(Bf ((List.range 8).map (bmB set))).length=8:=by simp [Jm]
 have h3:List.drop 0 (List.take (bmL set 8) (Bf ((List.range 8).map (bmB set))))=Bf (bmap set):=by simp only [Ez,bmap,Bf,List.map_take]
 simp (disch:=omega) only [Qz,Bp0,h3,xe,EVP,EV,simprocAttr]
theorem Ts (set:Int):(bmap set).length≤8:=by simp [bmap];omega
def Lv (d:Dat):List UInt8:=if d.v6 then be d.hi 8++be d.lo 8 else be d.lo 4
theorem jy (d:Dat) (h:d.wf):S Wk 1 [Hd d]=some (if Dv d=true then [.s (Lv d), .i .i64 0] else [.s [], .i .i64 3]):=by refine Gj3 (N:=1) rfl ?_;have h1:=h.hi;have h2:=h.lo;have a1:=O4 d.hi 8 (by omega) h1.1 h1.2;have a2:=O4 d.lo 8 (by omega) h2.1 h2.2;have a3:=O4 d.lo 4 (by omega) h2.1 h2.2;have b1:=Dj d.hi 8;have b2:=Dj d.lo 8;simp only [Int.cast_ofNat_Int] at a1 a2 a3;unfold Lv;rcases Ad (Dv d) with h3|h3<;>rcases Ad d.v6 with h4|h4<;>simp (disch:=omega) only [Fm6,Xf,h3,h4,a1,a2,a3,xe,EVP,EV,simprocAttr]
def usd (t:Int) (d:Dat):Dat:=
 if t=1∨t=28 then ⟨d.v6,d.hi,d.lo,[],[],[],0,0,0,0,0,0,0⟩
 else if t=2∨t=5∨t=12∨t=39 then ⟨false,0,0,d.host,[],[],0,0,0,0,0,0,0⟩
 else if t=6 then ⟨false,0,0,d.host,d.mail,[],d.a,d.b,d.c,d.d,d.e,0,0⟩
 else if t=15 then ⟨false,0,0,d.host,[],[],d.a,0,0,0,0,0,0⟩
 else if t=16 then ⟨false,0,0,[],[],d.text,0,0,0,0,0,0,0⟩
 else if t=33 then ⟨false,0,0,d.host,[],[],d.a,d.b,d.c,0,0,0,0⟩
 else if t=43∨t=48 then ⟨false,0,0,[],[],d.text,d.a,d.b,d.c,0,0,0,0⟩
 else if t=46 then ⟨false,0,0,d.host,[],d.text,d.a,d.b,d.c,d.d,d.e,d.f,0⟩
 else ⟨false,0,0,d.host,[],[],0,0,0,0,0,0,d.bits⟩
theorem F3 (t:Int) (d:Dat):S yc 2 [.i .i64 t,d.pv]=some [(usd t d).pv]:=by
 refine Hy6 (N:=1) rfl ?_;rcases t15 t with rfl|rfl|rfl|rfl|rfl|rfl|rfl|rfl|rfl|rfl|rfl|rfl|rfl|rfl|⟨h0,h1,h2,h3,h4,h5,h6,h7,h8,h9,h10,h11,h12,h13⟩
 all_goals simp (disch:=omega) only [Hj2,xe,EVP,EV,simprocAttr]
 all_goals first|rfl|(unfold usd;simp [*])
end Go.X.G
/- Data of records: which are valid. -/
namespace Go.X.G
open Go Go.X
def Cj (t:Int) (d:Dat):Bool:=
 if t=1 then Dv d && !d.v6
 else if t=28 then d.v6
 else if t=6 then E3 d.host && E3 d.mail && inB d.a 4294967295 && inB d.b 2147483647 && inB d.c 2147483647 && inB d.d 2147483647 && inB d.e 2147483647
 else if t=15 then E3 d.host && inB d.a 65535
 else if t=16 then decide (d.text.length≤255)
 else if t=33 then E3 d.host && inB d.a 65535 && inB d.b 65535 && inB d.c 65535
 else if t=43 then inB d.a 65535 && inB d.b 255 && inB d.c 255 && Fw d.text
 else if t=46 then knw d.a && decide (d.a≠46) && inB d.b 127 && inB d.c 2147483647 && inB d.d 4294967295 && inB d.e 4294967295 && inB d.f 65535 && E3 d.host && Fw d.text
 else if t=47 then vld d.host && decide (d.bits≠0) && jv d.bits 0 64
 else if t=48 then (decide (d.a=256)||decide (d.a=257)) && decide (d.b=3) && inB d.c 255 && Fw d.text
 else E3 d.host
def Dk (t:Int) (d:Dat):Bool:=knw t && decide (usd t d=d) && Cj t d
theorem D3 (t:Int) (d:Dat) (h:d.wf):S y3 2 [.i .i64 t,d.pv]=some [.b (Dk t d)]:=by
 refine Hc1 (N:=1) rfl ?_;have g1:=h.host;have g2:=h.mail;have g3:=h.text;unfold d8 at g1 g2 g3;rcases Ad (knw t) with hk|hk
 ·by_cases hu:usd t d=d
  ·rcases t15 t with rfl|rfl|rfl|rfl|rfl|rfl|rfl|rfl|rfl|rfl|rfl|rfl|rfl|rfl|⟨h0,h1,h2,h3,h4,h5,h6,h7,h8,h9,h10,h11,h12,h13⟩
   ·rcases ch2 (Dv d) (d.v6) with e0|⟨e0,e1⟩|⟨e0,e1⟩
    all_goals simp (disch:=omega) only [Kc,B4,F3,Xf,xe,EVP,EV,simprocAttr,hk,hu, *]
    all_goals (unfold Dk Cj;simp [*])
   ·simp (disch:=omega) only [Kc,B4,F3,Gd,xe,EVP,EV,simprocAttr,hk,hu];unfold Dk Cj;simp [*]
   ·simp (disch:=omega) only [Kc,B4,F3,Gd,xe,EVP,EV,simprocAttr,hk,hu];unfold Dk Cj;simp [*]
   ·rcases ch7 (E3 d.host) (E3 d.mail) (inB d.a 4294967295) (inB d.b 2147483647) (inB d.c 2147483647) (inB d.d 2147483647) (inB d.e 2147483647) with e0|⟨e0,e1⟩|⟨e0,e1,e2⟩|⟨e0,e1,e2,e3⟩|⟨e0,e1,e2,e3,e4⟩|⟨e0,e1,e2,e3,e4,e5⟩|⟨e0,e1,e2,e3,e4,e5,e6⟩|⟨e0,e1,e2,e3,e4,e5,e6⟩
    all_goals simp (disch:=omega) only [Kc,B4,F3,Gd,Bt3,nz,xe,EVP,EV,simprocAttr,hk,hu, *]
    all_goals (unfold Dk Cj;simp [*])
   ·simp (disch:=omega) only [Kc,B4,F3,Gd,xe,EVP,EV,simprocAttr,hk,hu];unfold Dk Cj;simp [*]
   ·rcases ch2 (E3 d.host) (inB d.a 65535) with e0|⟨e0,e1⟩|⟨e0,e1⟩
    all_goals simp (disch:=omega) only [Kc,B4,F3,Gd,nz,xe,EVP,EV,simprocAttr,hk,hu, *]
    all_goals (unfold Dk Cj;simp [*])
   ·simp (disch:=omega) only [Kc,B4,F3,Gd,xe,EVP,EV,simprocAttr,hk,hu];unfold Dk Cj;simp [*];omega
   ·simp (disch:=omega) only [Kc,B4,F3,Gd,xe,EVP,EV,simprocAttr,hk,hu];unfold Dk Cj;simp [*]
   ·rcases ch4 (E3 d.host) (inB d.a 65535) (inB d.b 65535) (inB d.c 65535) with e0|⟨e0,e1⟩|⟨e0,e1,e2⟩|⟨e0,e1,e2,e3⟩|⟨e0,e1,e2,e3⟩
    all_goals simp (disch:=omega) only [Kc,B4,F3,Gd,nz,xe,EVP,EV,simprocAttr,hk,hu, *]
    all_goals (unfold Dk Cj;simp [*])
   ·simp (disch:=omega) only [Kc,B4,F3,Gd,xe,EVP,EV,simprocAttr,hk,hu];unfold Dk Cj;simp [*]
   ·rcases ch4 (inB d.a 65535) (inB d.b 255) (inB d.c 255) (Fw d.text) with e0|⟨e0,e1⟩|⟨e0,e1,e2⟩|⟨e0,e1,e2,e3⟩|⟨e0,e1,e2,e3⟩
    all_goals simp (disch:=omega) only [Kc,B4,F3,nz,R8,xe,EVP,EV,simprocAttr,hk,hu, *]
    all_goals (unfold Dk Cj;simp [*])
   ·rcases ch9 (knw d.a) (decide (d.a≠46)) (inB d.b 127) (inB d.c 2147483647) (inB d.d 4294967295) (inB d.e 4294967295) (inB d.f 65535) (E3 d.host) (Fw d.text) with e0|⟨e0,e1⟩|⟨e0,e1,e2⟩|⟨e0,e1,e2,e3⟩|⟨e0,e1,e2,e3,e4⟩|⟨e0,e1,e2,e3,e4,e5⟩|⟨e0,e1,e2,e3,e4,e5,e6⟩|⟨e0,e1,e2,e3,e4,e5,e6,e7⟩|⟨e0,e1,e2,e3,e4,e5,e6,e7,e8⟩|⟨e0,e1,e2,e3,e4,e5,e6,e7,e8⟩
    all_goals simp (disch:=omega) only [Kc,B4,F3,Gd,nz,R8,xe,EVP,EV,simprocAttr,hk,hu, *]
    all_goals (unfold Dk Cj;simp [*])
   ·rcases ch3 (vld d.host) (decide (d.bits≠0)) (jv d.bits 0 64) with e0|⟨e0,e1⟩|⟨e0,e1,e2⟩|⟨e0,e1,e2⟩
    all_goals simp (disch:=omega) only [Kc,B4,F3,P0,Gp5,xe,EVP,EV,simprocAttr,hk,hu, *]
    all_goals (unfold Dk Cj;simp [*])
   ·rcases ch4 (decide (d.a=256)||decide (d.a=257)) (decide (d.b=3)) (inB d.c 255) (Fw d.text) with e0|⟨e0,e1⟩|⟨e0,e1,e2⟩|⟨e0,e1,e2,e3⟩|⟨e0,e1,e2,e3⟩
    all_goals simp (disch:=omega) only [Kc,B4,F3,nz,R8,xe,EVP,EV,simprocAttr,hk,hu, *]
    all_goals (unfold Dk Cj;simp [*])
   ·simp [knw, *] at hk
  ·simp (disch:=omega) only [Kc,B4,F3,xe,EVP,EV,simprocAttr,hk,hu];unfold Dk;simp [hu]
 ·simp (disch:=omega) only [Kc,B4,xe,EVP,EV,simprocAttr,hk];unfold Dk;simp [hk]
def Hh (t:Int) (d:Dat):List UInt8:=
 if t=1∨t=28 then Lv d
 else if t=6 then G4 d.host++G4 d.mail++be d.a 4++be d.b 4++be d.c 4++be d.d 4++be d.e 4
 else if t=15 then be d.a 2++G4 d.host
 else if t=16 then be (d.text.length:Int) 1++d.text
 else if t=33 then be d.a 2++be d.b 2++be d.c 2++G4 d.host
 else if t=43∨t=48 then be d.a 2++be d.b 1++be d.c 1++d.text
 else if t=46 then be d.a 2++be 253 1++be d.b 1++be d.c 4++be d.d 4++be d.e 4++be d.f 2++G4 d.host++d.text
 else if t=47 then G4 d.host++be 0 1++be ((bmap d.bits).length:Int) 1++bmap d.bits
 else G4 d.host
theorem knw_cases {t:Int} (h:knw t=true):t=1∨t=2∨t=5∨t=6∨t=12∨t=15∨t=16∨t=28∨t=33∨t=39∨t=43∨t=46∨t=47∨t=48:=by simp [knw] at h;omega
theorem P2 (v:Int) (h0:0≤v) (h1:v≤9223372036854775807):S D2 2 [.i .i64 v, .i .i64 1]=some [.s (be v 1)]:=Js v 1 (by omega) h0 h1
theorem P1 (v:Int) (h0:0≤v) (h1:v≤9223372036854775807):S D2 2 [.i .i64 v, .i .i64 2]=some [.s (be v 2)]:=Js v 2 (by omega) h0 h1
theorem Bt8 (v:Int) (h0:0≤v) (h1:v≤9223372036854775807):S D2 2 [.i .i64 v, .i .i64 4]=some [.s (be v 4)]:=Js v 4 (by omega) h0 h1
theorem N7 (t:Int) (d:Dat) (h:d.wf):S mq 2 [.i .i64 t,d.pv]=some (if Dk t d=true then [.s (Hh t d), .i .i64 0] else if knw t=true then [.s [], .i .i64 5] else [.s [], .i .i64 4]):=by
 refine Hw5 (N:=1) rfl ?_;have g1:=h.host;have g2:=h.mail;have g3:=h.text;unfold d8 at g1 g2 g3;have g4:=Lk d.host;have g5:=Lk d.mail;have g6:=Ts d.bits;rcases Ad (knw t) with hk|hk
 ·rcases Ad (Dk t d) with hv|hv
  ·rw [if_pos hv];have hv':=hv;rcases knw_cases hk with rfl|rfl|rfl|rfl|rfl|rfl|rfl|rfl|rfl|rfl|rfl|rfl|rfl|rfl
   ·simp [Dk,Cj] at hv';simp (disch:=omega) only [Kb,B4,D3 _ _ h,jy d h,hk,hv,hv'.2.1,xe,EVP,EV,simprocAttr];rfl
   ·simp (disch:=omega) only [Kb,B4,D3 _ _ h,Dn,hk,hv,xe,EVP,EV,simprocAttr];rfl
   ·simp (disch:=omega) only [Kb,B4,D3 _ _ h,Dn,hk,hv,xe,EVP,EV,simprocAttr];rfl
   ·simp [Dk,Cj,inB,Fw] at hv';simp (disch:=first|omega|(simp only [Ab,Dj];omega)) only [Kb,B4,D3 _ _ h,Dn,Bt8,hk,hv,xe,EVP,EV,simprocAttr];rfl
   ·simp (disch:=omega) only [Kb,B4,D3 _ _ h,Dn,hk,hv,xe,EVP,EV,simprocAttr];rfl
   ·simp [Dk,Cj,inB,Fw] at hv';simp (disch:=first|omega|(simp only [Ab,Dj];omega)) only [Kb,B4,D3 _ _ h,Dn,P1,hk,hv,xe,EVP,EV,simprocAttr];rfl
   ·simp [Dk,Cj,inB,Fw] at hv';simp (disch:=first|omega|(simp only [Ab,Dj];omega)) only [Kb,B4,D3 _ _ h,Dn,P2,hk,hv,xe,EVP,EV,simprocAttr];rfl
   ·simp [Dk,Cj] at hv';have ha:Dv d=true:=by simp [Dv,hv'.2]
    simp (disch:=omega) only [Kb,B4,D3 _ _ h,jy d h,hk,hv,ha,xe,EVP,EV,simprocAttr];rfl
   ·simp [Dk,Cj,inB,Fw] at hv';simp (disch:=first|omega|(simp only [Ab,Dj];omega)) only [Kb,B4,D3 _ _ h,Dn,P1,hk,hv,xe,EVP,EV,simprocAttr];rfl
   ·simp (disch:=omega) only [Kb,B4,D3 _ _ h,Dn,hk,hv,xe,EVP,EV,simprocAttr];rfl
   ·simp [Dk,Cj,inB,Fw] at hv';simp (disch:=first|omega|(simp only [Ab,Dj];omega)) only [Kb,B4,D3 _ _ h,Dn,P2,P1,hk,hv,xe,EVP,EV,simprocAttr];rfl
   ·simp [Dk,Cj,inB,Fw] at hv';have k1:0≤d.a:=by have:=knw_cases hv'.2.1.1.1.1.1.1.1.1;omega
    have k2:=h.a.2;simp (disch:=first|omega|(simp only [Ab,Dj];omega)) only [Kb,B4,D3 _ _ h,Dn,P2,P1,Bt8,hk,hv,xe,EVP,EV,simprocAttr];rfl
   ·simp (disch:=first|omega|(simp only [Ab,Dj];omega)) only [Kb,B4,D3 _ _ h,Dn,Bn8,P2,hk,hv,xe,EVP,EV,simprocAttr];rfl
   ·simp [Dk,Cj,inB,Fw] at hv';simp (disch:=first|omega|(simp only [Ab,Dj];omega)) only [Kb,B4,D3 _ _ h,Dn,P2,P1,hk,hv,xe,EVP,EV,simprocAttr];rfl
  ·simp (disch:=omega) only [Kb,B4,D3 _ _ h,hk,hv,xe,EVP,EV,simprocAttr]
 ·have hv:Dk t d=false:=by simp [Dk,hk]
  simp (disch:=omega) only [Kb,B4,hk,hv,xe,EVP,EV,simprocAttr]
def Cs1 (t:Int) (a b:Dat):Int:=
 if Dk t a && Dk t b then cmpS (Hh t a) (Hh t b) else if Dk t a then -1 else if Dk t b then 1 else 0
theorem cq (t:Int) (a b:Dat) (ha:a.wf) (hb:b.wf):S yx 3 [.i .i64 t,a.pv,b.pv]=some [.i .i64 (Cs1 t a b)]:=by
 refine Hx7 (N:=1) rfl ?_;unfold Cs1 cmpS;rcases Ad (Dk t a) with h1|h1<;>rcases Ad (Dk t b) with h2|h2
 ·simp (disch:=omega) only [Fl7,N7 _ _ ha,N7 _ _ hb,h1,h2,xe,EVP,EV,simprocAttr];cases Op.bytesLess (Hh t a) (Hh t b)
  ·by_cases h3:Hh t a=Hh t b<;>simp [h3]
  ·simp
 all_goals rcases Ad (knw t) with h3|h3<;>simp (disch:=omega) [Fl7,N7 _ _ ha,N7 _ _ hb,h1,h2,h3,xe,EVP,EV,simprocAttr]
end Go.X.G
/- Lists of records: what the reference's functions give. -/
namespace Go.X.G
open Go Go.X
def Iq3 (r:Rec):Bool:=vld r.name && knw r.typ && decide (0≤r.ttl) && decide (r.ttl≤2147483647) && Dk r.typ r.data
def Z9 (a b:Int):Int:=if a<b then -1 else if b<a then 1 else 0
theorem l9 (a b:Int):S y2 2 [.i .i64 a, .i .i64 b]=some [.i .i64 (Z9 a b)]:=by
 refine Hb7 (N:=1) rfl ?_;unfold Z9;simp (disch:=omega) only [Hk1,xe,EVP,EV,simprocAttr]
 grind
def Nt (a b:Rec):Int:=
 if Nc a.name b.name≠0 then Nc a.name b.name else if Z9 a.typ b.typ≠0 then Z9 a.typ b.typ else Cs1 a.typ a.data b.data
theorem W2 (a b:Rec) (ha:a.wf) (hb:b.wf):S mt 2 [a.pv,b.pv]=some [.i .i64 (Nt a b)]:=by refine Hb8 (N:=1) rfl ?_;have g1:=ha.name;have g2:=hb.name;unfold d8 at g1 g2;unfold Nt;simp (disch:=omega) only [Hk2,cw,l9,cq _ _ _ ha.data hb.data,xe,EVP,EV,simprocAttr];by_cases h1:Nc a.name b.name=0<;>by_cases h2:Z9 a.typ b.typ=0<;>simp [h1,h2]
def isK (n:List UInt8) (t:Int) (r:Rec):Bool:=decide (r.name=n) && decide (r.typ=t)
def findR (l:List Rec) (n:List UInt8) (t:Int):List Rec:=l.filter (isK n t)
theorem Dj5 (l:List Rec) (n:List UInt8) (t:Int) (hl:l.length≤1000000):S y6 3 [Al l, .s n, .i .i64 t]=some [Al (findR l n t)]:=by
 refine Hd0 (N:=l.length+1) rfl ?_;have key:Dx6.ev S (l.length+1) [Al l, .s n, .i .i64 t]=some (.yld 0 [Al ([]++findR l n t)]):=by
  refine E2 l (fun i (g:List Rec)=>[Al g, .i .i64 (i:Int)]) (fun i g r=> .yld 0 [Al (g++findR r n t)]) (fun i g=>g.length≤i) [] rfl (Cv _) (by omega) (fun i g c r hd hi hc hI=> ?_) (fun g hI=> ?_)
  ·left;by_cases h:isK n t c=true
   ·refine ⟨g++[c],?_,by simp;omega,by simp [findR,h]⟩;simp [isK] at h;simp (disch:=omega) only [qj,hc,h.1,h.2,xe,EVP,EV,simprocAttr]
   ·refine ⟨g,?_,by omega,by simp [findR,h]⟩;simp [isK] at h;by_cases h1:c.name=n
    ·simp (disch:=omega) only [qj,hc,h1,h h1,xe,EVP,EV,simprocAttr]
    ·simp (disch:=omega) only [qj,hc,h1,xe,EVP,EV,simprocAttr]
  ·simp (disch:=omega) only [qj,xe,EVP,EV,simprocAttr];simp [findR,Out.goes]
 simp (disch:=omega) only [qj,key,xe,EVP,EV,simprocAttr]
theorem Dj4 (l:List Rec) (n:List UInt8) (t:Int) (hl:l.length≤1000000):S y7 3 [Al l, .s n, .i .i64 t]=some [Al (findR l n t)]:=by
 refine Hd1 (N:=l.length+1) rfl ?_;have key:Dx7.ev S (l.length+1) [Al l, .s n, .i .i64 t]=some (.yld 0 [Al ([]++findR l n t)]):=by
  refine E2 l (fun i (g:List Rec)=>[Al g, .i .i64 (i:Int)]) (fun i g r=> .yld 0 [Al (g++findR r n t)]) (fun i g=>g.length≤i) [] rfl (Cv _) (by omega) (fun i g c r hd hi hc hI=> ?_) (fun g hI=> ?_)
  ·left;by_cases h:isK n t c=true
   ·refine ⟨g++[c],?_,by simp;omega,by simp [findR,h]⟩;simp [isK] at h;simp (disch:=omega) only [qk,hc,h.1,h.2,xe,EVP,EV,simprocAttr]
   ·refine ⟨g,?_,by omega,by simp [findR,h]⟩;simp [isK] at h;by_cases h1:c.name=n
    ·simp (disch:=omega) only [qk,hc,h1,h h1,xe,EVP,EV,simprocAttr]
    ·by_cases h2:c.typ=t<;>simp (disch:=omega) only [qk,hc,h1,h2,xe,EVP,EV,simprocAttr]
  ·simp (disch:=omega) only [qk,xe,EVP,EV,simprocAttr];simp [findR,Out.goes]
 simp (disch:=omega) only [qk,key,xe,EVP,EV,simprocAttr]
theorem Xp (a b:List Rec) (ha:a.length≤1000000):S nj 2 [Al a,Al b]=some [.b (decide (a=b))]:=by
 refine Hd4 (N:=a.length+1) rfl ?_;by_cases hl:a.length=b.length
 ·have key:Dy0.ev S (a.length+1) [Al a,Al b]=some (if a.drop 0=b.drop 0 then .yld 0 [] else .ret [.b false]):=by
   refine F0 a (fun i=>[.i .i64 (i:Int)]) (fun i r=>if r=b.drop i then .yld 0 [] else .ret [.b false]) rfl (by omega) (fun i c r hd hi hc=> ?_) ?_
   ·obtain ⟨y,r',hb,hd2,hd3⟩:∃y r',b[i]? =some y∧b.drop i=y::r'∧b.drop (i+1)=r':=⟨b[i]'(by omega),_,Az (by omega),C1 (by omega),rfl⟩;rw [hd2,hd3];by_cases h:c=y
    ·subst h;left;simp (disch:=omega) only [jz,hc,hb,xe,EVP,EV,simprocAttr];simp
    ·right;simp (disch:=omega) only [jz,hc,hb,h,xe,EVP,EV,simprocAttr];simp [h,Out.goes]
   ·have hd2:b.drop a.length=[]:=Ep (by omega);rw [hd2];simp (disch:=omega) only [jz,xe,EVP,EV,simprocAttr];simp [Out.goes]
  simp only [Ez] at key;by_cases h:a=b
  ·rw [if_pos h] at key;simp (disch:=omega) only [jz,key,xe,EVP,EV,simprocAttr]
   try simp [h]
  ·rw [if_neg h] at key;simp (disch:=omega) only [jz,key,xe,EVP,EV,simprocAttr]
   try simp [h]
 ·have h:a≠b:=fun h=>hl (by rw [h]);simp (disch:=omega) [jz,h,xe,EVP,EV,simprocAttr]
def S9 (x:Rec):List Rec→List Rec
 |[]=>[x]
 |y::r=>if Nt y x<0 then y::S9 x r else if Nt y x=0 then (if x.ttl<y.ttl then x::r else y::r) else x::y::r
def Hq (l:List Rec):List Rec:=l.foldl (fun acc x=>S9 x acc) []
def Ip (x:Rec):List Rec→Nat
 |[]=>0
 |y::r=>if Nt y x<0 then Ip x r+1 else 0
theorem fr (x:Rec):∀l,Ip x l≤l.length
 |[]=>Af _
 |y::r=>by have:=fr x r;simp only [Ip];split<;>simp;omega
theorem Aq9 (x:Rec):∀(l:List Rec),S9 x l=match l[Ip x l]? with
  |some y=>if Nt y x=0 then (if x.ttl<y.ttl then l.set (Ip x l) x else l) else l.take (Ip x l)++[x]++l.drop (Ip x l)
  |none=>l.take (Ip x l)++[x]++l.drop (Ip x l)
 |[]=>rfl
 |y::r=>by
  simp only [S9,Ip];by_cases h:Nt y x<0
  ·simp only [if_pos h,C8];rw [Aq9 x r];cases h2:r[Ip x r]? with
   |none=>simp
   |some z=>by_cases h3:Nt z x=0<;>by_cases h4:x.ttl<z.ttl<;>simp [h3,h4]
  ·simp only [if_neg h,Cl];by_cases h3:Nt y x=0<;>by_cases h4:x.ttl<y.ttl<;>simp [h3,h4]
theorem S8 (x:Rec):∀l,(S9 x l).length≤l.length+1
 |[]=>by simp [S9]
 |y::r=>by
  have:=S8 x r;simp only [S9];split
  ·simp;omega
  ·split
   ·split<;>simp
   ·simp
theorem insR_mem (x:Rec):∀(l:List Rec) (y:Rec),y∈S9 x l→y=x∨y∈l
 |[],y,h=>by simp [S9] at h;exact .inl h
 |z::r,y,h=>by
  simp only [S9] at h;split at h
  ·simp at h;rcases h with h|h
   ·exact .inr (by simp [h])
   ·rcases insR_mem x r y h with h|h
    ·exact .inl h
    ·exact .inr (by simp [h])
  ·split at h
   ·split at h
    ·simp at h;rcases h with h|h
     ·exact .inl h
     ·exact .inr (by simp [h])
    ·exact .inr h
   ·simp at h;rcases h with h|h
    ·exact .inl h
    ·exact .inr (by simpa using h)
theorem Fg7 (l g:List Rec) (i:Nat) (x:Rec) (hx:l[i]? =some x) (hw:∀r∈l,r.wf) (hg:∀r∈g,r.wf) (N:Nat) (hN:g.length<N) (hl:g.length≤1000000):
  z9.ev S N [Al l,Al g, .i .i64 (i:Int)]=some (.yld 2 [.i .i64 (Ip x g:Int)]):=by
 have key:z9.ev S N [Al l,Al g, .i .i64 (i:Int)]=some (.yld 2 [.i .i64 ((0+Ip x g:Nat):Int)]):=by
  refine F0 g (fun k=>[.i .i64 (k:Int)]) (fun k r=> .yld 2 [.i .i64 ((k+Ip x r:Nat):Int)]) rfl hN (fun k c r hd hk hc=> ?_) ?_
  ·have h1:=W2 c x (hg c (By hc)) (hw x (By hx));by_cases h:Nt c x<0
   ·left;simp (disch:=omega) only [R3,hc,hx,h1,h,xe,EVP,EV,simprocAttr];refine ⟨trivial,?_⟩;simp only [Ip,if_pos h];congr 3;push_cast;omega
   ·right;simp (disch:=omega) only [R3,hc,hx,h1,xe,EVP,EV,simprocAttr];simp [Ip,h,Out.goes]
  ·simp (disch:=omega) only [R3,xe,EVP,EV,simprocAttr];simp [Ip,Out.goes]
 simpa using key
theorem Fg8 (l:List Rec) (hw:∀r∈l,r.wf) (N:Nat) (hN:l.length<N) (hl:l.length≤1000000):
  Dx3.ev S N [Al l]=some (.yld 0 [Al (Hq l)]):=by
 refine E2 l (fun i (g:List Rec)=>[Al g, .i .i64 (i:Int)]) (fun i g r=> .yld 0 [Al (r.foldl (fun acc x=>S9 x acc) g)]) (fun i g=>g.length≤i∧∀r∈g,r.wf) [] rfl ⟨Af _,fun r h=>by cases h⟩ hN (fun i g c r hd hi hc hI=> ?_) (fun g hI=> ?_)
 ·left;obtain ⟨h1,h2⟩:=hI;have hcw:=hw c (By hc);have h3:=Fg7 l g i c hc hw h2 N (by omega) (by omega);have h4:=fr c g;have h5:=S8 c g;refine ⟨S9 c g,?_,⟨by omega,fun r hr=> ?_⟩,rfl⟩
  ·rw [Aq9];cases h6:g[Ip c g]? with
   |none=>
    have h7:=List.getElem?_eq_none_iff.1 h6;have h8:Ip c g=g.length:=by omega
    simp (disch:=first|omega|(simp;omega)) only [R3,hc,h3,h8,xe,EVP,EV,simprocAttr];simp
   |some y=>
    have h7:=(Aq.1 h6).1;have h8:=W2 y c (h2 y (By h6)) hcw;by_cases h9:Nt y c=0
    ·by_cases h10:c.ttl<y.ttl
     ·simp (disch:=omega) only [R3,hc,h3,h6,h8,h9,h10,xe,EVP,EV,simprocAttr]
     ·simp (disch:=omega) only [R3,hc,h3,h6,h8,h9,h10,xe,EVP,EV,simprocAttr]
    ·simp (disch:=first|omega|(simp;omega)) only [R3,hc,h3,h6,h8,h9,xe,EVP,EV,simprocAttr];simp
  ·rcases insR_mem c g r hr with h|h
   ·subst h;exact hcw
   ·exact h2 r h
 ·simp (disch:=omega) only [R3,xe,EVP,EV,simprocAttr];simp [Out.goes]
theorem Dj0 (l:List Rec) (hw:∀r∈l,r.wf) (hl:l.length≤1000000):S y4 1 [Al l]=some [Al (Hq l)]:=by refine Hc6 (N:=l.length+1) rfl ?_;simp (disch:=omega) only [R3,Fg8 l hw,xe,EVP,EV,simprocAttr]
end Go.X.G
/- Zones: what the reference's check gives. -/
namespace Go.X.G
open Go Go.X
def i6 (n top:List UInt8):Bool:=decide (n≠top) && under n top
def Ik9 (l:List Rec) (n:List UInt8) (t:Int):Bool:=decide (0<(findR l n t).length)
def Tt (r x:Rec):Bool:=
 !decide (x.name=r.name)||(!(decide (x.typ=r.typ) && decide (r.typ≠46) && decide (x.ttl≠r.ttl)) && !(decide (x.typ=r.typ) && (decide (r.typ=6)||decide (r.typ=5)||decide (r.typ=39)) && decide (x≠r)) &&
  !(decide (r.typ=5) && decide (x.typ≠5) && decide (x.typ≠46) && decide (x.typ≠47)))
def Bp5 (z:Zone) (r:Rec):Bool:=z.recs.all (Tt r)
def Cf9 (z:Zone) (r x:Rec):Bool:=
 !(decide (x.typ=39) && i6 r.name x.name) && !(decide (x.typ=2) && i6 x.name z.origin && i6 r.name x.name && decide (r.typ≠1) && decide (r.typ≠28))
def Er3 (t:Int):Bool:=decide (t=2)||decide (t=43)||decide (t=47)||decide (t=46)||decide (t=1)||decide (t=28)
def Er4 (z:Zone) (r:Rec):Bool:=
 if (lbl r.name)[0]? =some [42]∧(r.typ=2∨r.typ=39) then false
 else z.recs.all (Cf9 z r) && (if i6 r.name z.origin && Ik9 z.recs r.name 2 then Er3 r.typ else decide (r.typ≠43))
def Er0 (z:Zone) (r:Rec):Bool:=under r.name z.origin && !(decide (r.typ=6) && decide (r.name≠z.origin)) && Bp5 z r && Er4 z r
end Go.X.G
/- The order of records; what a checked zone is like. -/
namespace Go.X.G
open Go Go.X
theorem TO.prod {α β:Type} {l1:α→α→Prop} {l2:β→β→Prop} (h1:TO l1) (h2:TO l2):TO (fun p q:α×β=>l1 p.1 q.1∨(p.1=q.1∧l2 p.2 q.2)) where
 irr:=fun p h=>by
  rcases h with h|⟨_,h⟩
  ·exact h1.irr _ h
  ·exact h2.irr _ h
 tr:=fun p q r a b=>by
  rcases a with a|⟨a,a'⟩<;>rcases b with b|⟨b,b'⟩
  ·exact .inl (h1.tr _ _ _ a b)
  ·exact .inl (b▸a)
  ·exact .inl (a▸b)
  ·exact .inr ⟨a.trans b,h2.tr _ _ _ a' b'⟩
 tri:=fun p q=>by
  rcases h1.tri p.1 q.1 with a|a|a
  ·exact .inl (.inl a)
  ·rcases h2.tri p.2 q.2 with b|b|b
   ·exact .inl (.inr ⟨a,b⟩)
   ·exact .inr (.inl (Prod.ext a b))
   ·exact .inr (.inr (.inr ⟨a.symm,b⟩))
  ·exact .inr (.inr (.inl a))
theorem Gr5:TO (fun a b:Int=>a<b):=⟨fun a h=>by omega,fun a b c h1 h2=>by omega,fun a b=>by omega⟩
theorem gr (a b:Int):Z9 a b<0↔a<b:=by unfold Z9;split<;>(try split)<;>omega
theorem L8 (a b:Int):Z9 a b=0↔a=b:=by unfold Z9;split<;>(try split)<;>omega
abbrev Key:=List UInt8×Int×List UInt8
abbrev ltK:Key→Key→Prop:=fun p q=>ltN p.1 q.1∨(p.1=q.1∧(p.2.1<q.2.1∨(p.2.1=q.2.1∧ltB p.2.2 q.2.2)))
theorem Iq4:TO ltK:=Gr4.prod (Gr5.prod Dk5)
def Ik8 (r:Rec):Key:=(r.name,r.typ,Hh r.typ r.data)
abbrev ltR (a b:Rec):Prop:=ltK (Ik8 a) (Ik8 b)
structure ZOk (z:Zone):Prop where
 origin:vld z.origin=true
 small:z.recs.length≤2048
 valid:∀r∈z.recs,Iq3 r=true
 rising:z.recs.Pairwise ltR
 soa:(findR z.recs z.origin 6).length=1
 ns:Ik9 z.recs z.origin 2=true
 recs:∀r∈z.recs,Er0 z r=true
theorem ZOk.beside {z:Zone} (h:ZOk z) {r x:Rec} (hr:r∈z.recs) (hx:x∈z.recs):Tt r x=true:=by have:=h.recs r hr;unfold Er0 at this;simp only [Ax] at this;have h2:=this.1.2;unfold Bp5 at h2;exact Cd.1 h2 x hx
theorem ZOk.under {z:Zone} (h:ZOk z) {r:Rec} (hr:r∈z.recs):under r.name z.origin=true:=by have:=h.recs r hr;unfold Er0 at this;simp only [Ax] at this;exact this.1.1.1
theorem ZOk.single {z:Zone} (h:ZOk z) (n:List UInt8) (t:Int) (ht:t=6∨t=5∨t=39):(findR z.recs n t).length≤1:=by
 have hp:(findR z.recs n t).Pairwise ltR:=h.rising.filter _;have hm:∀x∈findR z.recs n t,x∈z.recs∧x.name=n∧x.typ=t:=fun x hx=>by obtain ⟨h1,h2⟩:=Ef.1 hx;simp only [isK,Ax,decide_eq_true_eq] at h2;exact ⟨h1,h2.1,h2.2⟩
 generalize findR z.recs n t=l at*
 match l,hp,hm with
 |[],_,_=>simp
 |[_],_,_=>simp
 |a::b::r,hp,hm=>
  exfalso;have hab:ltR a b:=(Bh.1 hp).1 b (.head _);obtain ⟨a1,a2,a3⟩:=hm a (.head _);obtain ⟨b1,b2,b3⟩:=hm b (.tail _ (.head _));have hb:=h.beside a1 b1;have e:b=a:=by
   unfold Tt at hb;rw [a2,a3,b2,b3] at hb;have ht':(decide (t=6)||decide (t=5)||decide (t=39))=true:=by rcases ht with h|h|h<;>simp [h]
   rw [ht'] at hb;simp only [decide_true,Xs,Bool.false_or,Mq,Bool.true_and,Ax,Cq,decide_eq_false_iff_not,ne_eq,Classical.not_not] at hb;exact hb.1.2
  rw [e] at hab;exact Iq4.irr _ hab
end Go.X.G
/- The order of any records; what is sorted stably and made compact is what the reference sorts. -/
namespace Go.X.G
open Go Go.X
def Fw8 (t:Int) (d:Dat):Int×List UInt8:=if Dk t d=true then (0,Hh t d) else (1,[])
abbrev ltD:Int×List UInt8→Int×List UInt8→Prop:=fun p q=>p.1<q.1∨(p.1=q.1∧ltB p.2 q.2)
theorem Iq5:TO ltD:=Gr5.prod Dk5
theorem Cs0 (t:Int) (a b:Dat):Cs1 t a b<0↔ltD (Fw8 t a) (Fw8 t b):=by unfold Cs1 Fw8 ltD;rcases Ad (Dk t a) with h1|h1<;>rcases Ad (Dk t b) with h2|h2<;>simp [h1,h2,Tf,Dk5.irr]
theorem Ax5 (t:Int) (a b:Dat):Cs1 t a b=0↔Fw8 t a=Fw8 t b:=by unfold Cs1 Fw8;rcases Ad (Dk t a) with h1|h1<;>rcases Ad (Dk t b) with h2|h2<;>simp [h1,h2,Ik]
abbrev Gp9:=List UInt8×Int×Int×List UInt8
abbrev ltF:Gp9→Gp9→Prop:=fun p q=>ltN p.1 q.1∨(p.1=q.1∧(p.2.1<q.2.1∨(p.2.1=q.2.1∧ltD p.2.2 q.2.2)))
theorem to_F:TO ltF:=Gr4.prod (Gr5.prod Iq5)
def E5 (r:Rec):Gp9:=(r.name,r.typ,Fw8 r.typ r.data)
theorem Tl (a b:Rec):Nt a b<0↔ltF (E5 a) (E5 b):=by
 unfold Nt ltF E5;simp only;by_cases h1:Nc a.name b.name=0
 ·rw [if_neg (by simp [h1])];have e1:=L6.1 h1;have n1:¬ltN a.name b.name:=by rw [e1];exact Gr4.irr _
  by_cases h2:Z9 a.typ b.typ=0
  ·rw [if_neg (by simp [h2])];have e2:=(L8 _ _).1 h2;rw [e2,Cs0];constructor
   ·intro h;exact .inr ⟨e1, .inr ⟨rfl,h⟩⟩
   ·rintro (h|⟨_,h|⟨_,h⟩⟩)
    ·exact absurd h n1
    ·omega
    ·exact h
  ·rw [if_pos h2,gr];have e2:a.typ≠b.typ:=fun e=>h2 ((L8 _ _).2 e);constructor
   ·intro h;exact .inr ⟨e1, .inl h⟩
   ·rintro (h|⟨_,h|⟨h,_⟩⟩)
    ·exact absurd h n1
    ·exact h
    ·exact absurd h e2
 ·rw [if_pos h1,gp];have e1:a.name≠b.name:=fun e=>h1 (L6.2 e);constructor
  ·intro h;exact .inl h
  ·rintro (h|⟨h,_⟩)
   ·exact h
   ·exact absurd h e1
theorem Kw (a b:Rec):Nt a b=0↔E5 a=E5 b:=by
 unfold Nt E5;by_cases h1:Nc a.name b.name=0
 ·rw [if_neg (by simp [h1])];have e1:=L6.1 h1;by_cases h2:Z9 a.typ b.typ=0
  ·rw [if_neg (by simp [h2])];have e2:=(L8 _ _).1 h2;rw [e2,Ax5];simp [e1]
  ·rw [if_pos h2];have e2:a.typ≠b.typ:=fun e=>h2 ((L8 _ _).2 e);constructor
   ·intro h;exact absurd h h2
   ·intro h;injection h with _ h;injection h with h _;exact absurd h e2
 ·rw [if_pos h1];have e1:a.name≠b.name:=fun e=>h1 (L6.2 e);constructor
  ·intro h;exact absurd h h1
  ·intro h;injection h with h _;exact absurd h e1
def Fx2 (a b:Rec):Int:=if Nt a b≠0 then Nt a b else Z9 a.ttl b.ttl
abbrev ltT:Gp9×Int→Gp9×Int→Prop:=fun p q=>ltF p.1 q.1∨(p.1=q.1∧p.2<q.2)
theorem to_T:TO ltT:=to_F.prod Gr5
theorem Cr9 (a b:Rec):Fx2 a b<0↔ltT (E5 a,a.ttl) (E5 b,b.ttl):=by
 unfold Fx2;by_cases h:Nt a b=0
 ·have e:=(Kw a b).1 h;rw [if_neg (by simp [h]),gr];simp only [ltT,e,true_and];exact ⟨.inr,fun q=>q.resolve_left (to_F.irr _)⟩
 ·rw [if_pos h,Tl];have e:E5 a≠E5 b:=fun e=>h ((Kw a b).2 e);simp only [ltT,e,false_and,or_false]
def leR (a b:Rec):Bool:= !decide (Fx2 b a<0)
theorem K2 (a b:Rec):leR a b=true↔¬ltT (E5 b,b.ttl) (E5 a,a.ttl):=by unfold leR;simp [←Cr9]
theorem Hv0:TP leR where
 tr:=fun a b c h1 h2=>by rw [K2] at*;exact to_T.ntr h2 h1
 tot:=fun a b=>by
  simp only [K2];rcases to_T.tri (E5 a,a.ttl) (E5 b,b.ttl) with h|h|h
  ·exact .inl (to_T.asym h)
  ·rw [h];exact .inl (to_T.irr _)
  ·exact .inr (to_T.asym h)
theorem Av6 (a b:Rec):eqv leR a b=true↔E5 a=E5 b∧a.ttl=b.ttl:=by
 unfold eqv;rw [Ax,K2,K2];constructor
 ·rintro ⟨h1,h2⟩;rcases to_T.tri (E5 a,a.ttl) (E5 b,b.ttl) with h|h|h
  ·exact absurd h h2
  ·injection h with h3 h4;exact ⟨h3,h4⟩
  ·exact absurd h h1
 ·rintro ⟨h1,h2⟩;rw [h1,h2];exact ⟨to_T.irr _,to_T.irr _⟩
theorem Sq {α:Type} {P:List α→Prop} (h0:P []) (h1:∀l x,P l→P (l++[x])):∀(n:Nat) (l:List α),l.length=n→P l
 |0,l,h=>by rw [Bq h];exact h0
 |n+1,l,h=>by
  have hne:l≠[]:=fun e=>by rw [e] at h;simp at h
  rw [←List.dropLast_concat_getLast hne];exact h1 _ _ (Sq h0 h1 n _ (by rw [List.length_dropLast];omega))
def Eh2 (l:List Rec) (z:Rec):Prop:=∃l1 l2,l=l1++z::l2∧(∀y∈l1,E5 y=E5 z→z.ttl<y.ttl)∧∀y∈l2,E5 y=E5 z→z.ttl≤y.ttl
theorem Eh2.mem {l:List Rec} {z:Rec} (h:Eh2 l z):z∈l:=by obtain ⟨l1,l2,rfl,_⟩:=h;simp
theorem Hb (l:List Rec) (x z:Rec):Eh2 (l++[x]) z↔(z=x∧∀y∈l,E5 y=E5 x→x.ttl<y.ttl)∨(Eh2 l z∧(E5 z=E5 x→z.ttl≤x.ttl)):=by
 constructor
 ·rintro ⟨l1,l2,h,h1,h2⟩;rcases List.eq_nil_or_concat l2 with rfl|⟨l3,w,rfl⟩
  ·obtain ⟨q1,q2⟩:=List.append_inj' h rfl;injection q2 with q2 _;subst q1;subst q2;exact .inl ⟨rfl,h1⟩
  ·rw [List.concat_eq_append,←B0,←Ap] at h;obtain ⟨q1,q2⟩:=List.append_inj' h rfl;injection q2 with q2 _;subst q1;subst q2;refine .inr ⟨⟨l1,l3,rfl,h1,fun y hy=>h2 y (by simp [hy])⟩,fun e=>h2 x (by simp) e.symm⟩
 ·rintro (⟨rfl,h⟩|⟨⟨l1,l2,rfl,h1,h2⟩,h⟩)
  ·exact ⟨l,[],rfl,h,fun y hy=>by simp at hy⟩
  ·refine ⟨l1,l2++[x],by simp,h1,fun y hy e=> ?_⟩;rcases B5.1 hy with hy|hy
   ·exact h2 y hy e
   ·have:y=x:=by simpa using hy
    subst this;exact h e.symm
theorem Ff7 (l:List Rec):∀y∈l,∃z,Eh2 l z∧E5 z=E5 y∧z.ttl≤y.ttl:=by
 refine Sq (P:=fun l=>∀y∈l,∃z,Eh2 l z∧E5 z=E5 y∧z.ttl≤y.ttl) ?_ ?_ _ l rfl
 ·intro y h;simp at h
 ·intro l x ih y hy;by_cases hx:∀w∈l,E5 w=E5 x→x.ttl<w.ttl
  ·rcases B5.1 hy with hy|hy
   ·obtain ⟨z,h1,h2,h3⟩:=ih y hy;by_cases e:E5 z=E5 x∧x.ttl<z.ttl
    ·exact ⟨x,(Hb l x x).2 (.inl ⟨rfl,hx⟩),by rw [←e.1,h2],by have:=e.2;omega⟩
    ·exact ⟨z,(Hb l x z).2 (.inr ⟨h1,fun q=>Int.le_of_not_gt fun r=>e ⟨q,r⟩⟩),h2,h3⟩
   ·have:y=x:=by simpa using hy
    subst this;exact ⟨y,(Hb l y y).2 (.inl ⟨rfl,hx⟩),rfl,Ik4 _⟩
  ·have:∃w∈l,E5 w=E5 x∧w.ttl≤x.ttl:=by apply Classical.byContradiction;intro h;exact hx fun w hw e=>Int.lt_of_not_ge fun q=>h ⟨w,hw,e,q⟩
   obtain ⟨w,hw,hw1,hw2⟩:=this;obtain ⟨z,h1,h2,h3⟩:=ih w hw;rcases B5.1 hy with hy|hy
   ·obtain ⟨z',g1,g2,g3⟩:=ih y hy;by_cases e:E5 z'=E5 x∧x.ttl<z'.ttl
    ·exact ⟨z,(Hb l x z).2 (.inr ⟨h1,fun _=>by omega⟩),by rw [h2,hw1,←e.1,g2],by have:=e.2;omega⟩
    ·exact ⟨z',(Hb l x z').2 (.inr ⟨g1,fun q=>Int.le_of_not_gt fun r=>e ⟨q,r⟩⟩),g2,g3⟩
   ·have:y=x:=by simpa using hy
    subst this;exact ⟨z,(Hb l y z).2 (.inr ⟨h1,fun _=>by omega⟩),by rw [h2,hw1],by omega⟩
abbrev Dv0 (l:List Rec):Prop:=l.Pairwise fun a b=>ltF (E5 a) (E5 b)
theorem Aq8 (x:Rec):∀(l:List Rec),Dv0 l→(Dv0 (S9 x l)∧∀z,z∈S9 x l↔(z=x∧∀y∈l,E5 y=E5 x→x.ttl<y.ttl)∨(z∈l∧(E5 z=E5 x→z.ttl≤x.ttl)))
 |[],_=>by simp [S9]
 |y::r,h=>by
  obtain ⟨h1,h2⟩:=Bh.1 h;obtain ⟨i1,i2⟩:=Aq8 x r h2;simp only [S9];by_cases c:Nt y x<0
  ·rw [if_pos c];have c':=(Tl y x).1 c;have ne:E5 y≠E5 x:=fun e=>to_F.irr _ (by rw [e] at c';exact c');refine ⟨Bh.2 ⟨fun w hw=> ?_,i1⟩,fun z=> ?_⟩
   ·rcases (i2 w).1 hw with ⟨rfl,_⟩|⟨hw,_⟩
    ·exact c'
    ·exact h1 w hw
   ·rw [A6,i2];simp only [A6,forall_eq_or_imp,ne,false_implies,true_and];constructor
    ·rintro (rfl|h|⟨h,h'⟩)
     ·exact .inr ⟨.inl rfl,fun e=>absurd e ne⟩
     ·exact .inl h
     ·exact .inr ⟨.inr h,h'⟩
    ·rintro (h|⟨rfl|h,h'⟩)
     ·exact .inr (.inl h)
     ·exact .inl rfl
     ·exact .inr (.inr ⟨h,h'⟩)
  ·rw [if_neg c];by_cases e:Nt y x=0
   ·have ke:=(Kw y x).1 e;have hr:∀w∈r,E5 w≠E5 x:=fun w hw q=>to_F.irr (E5 y) (by have:=h1 w hw;rw [q,←ke] at this;exact this);rw [if_pos e];by_cases t:x.ttl<y.ttl
    ·rw [if_pos t];refine ⟨Bh.2 ⟨fun w hw=>by rw [←ke];exact h1 w hw,h2⟩,fun z=> ?_⟩;simp only [A6,forall_eq_or_imp,ke,t,true_implies,true_and];constructor
     ·rintro (rfl|h)
      ·exact .inl ⟨rfl,fun w hw q=>absurd q (hr w hw)⟩
      ·exact .inr ⟨.inr h,fun q=>absurd q (hr z h)⟩
     ·rintro (⟨h,_⟩|⟨rfl|h,h'⟩)
      ·exact .inl h
      ·have:=h' ke;omega
      ·exact .inr h
    ·rw [if_neg t];refine ⟨h,fun z=> ?_⟩;simp only [A6,forall_eq_or_imp,ke,t,false_and,and_false,false_or,forall_const,true_implies];constructor
     ·rintro (rfl|h)
      ·exact ⟨.inl rfl,fun _=>by omega⟩
      ·exact ⟨.inr h,fun q=>absurd q (hr z h)⟩
     ·exact fun h=>h.1
   ·rw [if_neg e];have hxy:ltF (E5 x) (E5 y):=by
     rcases to_F.tri (E5 x) (E5 y) with q|q|q
     ·exact q
     ·exact absurd ((Kw y x).2 q.symm) e
     ·exact absurd ((Tl y x).2 q) c
    have hall:∀w∈y::r,ltF (E5 x) (E5 w):=fun w hw=>by
     rcases A6.1 hw with rfl|hw
     ·exact hxy
     ·exact to_F.tr _ _ _ hxy (h1 w hw)
    have hne:∀w∈y::r,E5 w≠E5 x:=fun w hw q=>to_F.irr _ (by have:=hall w hw;rw [q] at this;exact this);refine ⟨Bh.2 ⟨hall,h⟩,fun z=> ?_⟩;rw [A6];constructor
    ·rintro (rfl|h)
     ·exact .inl ⟨rfl,fun w hw q=>absurd q (hne w hw)⟩
     ·exact .inr ⟨h,fun q=>absurd q (hne z h)⟩
    ·rintro (⟨h,_⟩|⟨h,_⟩)
     ·exact .inl h
     ·exact .inr h
theorem jf (l:List Rec):Dv0 (Hq l)∧∀z,z∈Hq l↔Eh2 l z:=by
 refine Sq (P:=fun l=>Dv0 (Hq l)∧∀z,z∈Hq l↔Eh2 l z) ?_ ?_ _ l rfl
 ·refine ⟨List.Pairwise.nil,fun z=>⟨fun h=>by simp [Hq] at h,fun h=>by have:=h.mem;simp at this⟩⟩
 ·intro l x ih;have e:Hq (l++[x])=S9 x (Hq l):=by simp [Hq]
  obtain ⟨i1,i2⟩:=Aq8 x (Hq l) ih.1;rw [e];refine ⟨i1,fun z=> ?_⟩;rw [i2,Hb,ih.2];have:(∀y∈Hq l,E5 y=E5 x→x.ttl<y.ttl)↔∀y∈l,E5 y=E5 x→x.ttl<y.ttl:=by
   constructor
   ·intro h y hy q;obtain ⟨w,w1,w2,w3⟩:=Ff7 l y hy;have:=h w ((ih.2 w).2 w1) (by rw [w2,q]);omega
   ·intro h y hy q;exact h y ((ih.2 y).1 hy).mem q
  rw [this]
theorem sr:∀(a b:List Rec),Dv0 a→Dv0 b→(∀x,x∈a↔x∈b)→a=b
 |[],[],_,_,_=>rfl
 |[],y::b,_,_,h=>absurd ((h y).2 (.head _)) (by simp)
 |x::a,[],_,_,h=>absurd ((h x).1 (.head _)) (by simp)
 |x::a,y::b,ha,hb,h=>by
  have ha':=Bh.1 ha;have hb':=Bh.1 hb;have hxy:x=y:=by
   rcases A6.1 ((h x).1 (.head _)) with h1|h1
   ·exact h1
   ·rcases A6.1 ((h y).2 (.head _)) with h2|h2
    ·exact h2.symm
    ·exact absurd (hb'.1 x h1) (to_F.asym (ha'.1 y h2))
  subst hxy;rw [sr a b ha'.2 hb'.2 fun z=> ?_];constructor
  ·intro hz;rcases A6.1 ((h z).1 (.tail _ hz)) with rfl|h1
   ·exact absurd (ha'.1 z hz) (to_F.irr _)
   ·exact h1
  ·intro hz;rcases A6.1 ((h z).2 (.tail _ hz)) with rfl|h1
   ·exact absurd (hb'.1 z hz) (to_F.irr _)
   ·exact h1
abbrev eqF:Rec→Rec→Bool:=fun a b=>decide (Nt a b=0)
theorem Dy9:∀(r:List Rec) (p:Rec),(p::r).Pairwise (fun a b=>leR a b=true)→(Dv0 (p::X5 eqF p r)∧∀z,z∈X5 eqF p r↔∃s1 s2,r=s1++z::s2∧∀y∈p::s1,E5 y≠E5 z)
 |[],p,_=>by simp [X5]
 |c::r,p,h=>by
  obtain ⟨h1,h2⟩:=Bh.1 h;obtain ⟨i1,i2⟩:=Dy9 r c h2;have hpc:=(K2 p c).1 (h1 c (.head _));simp only [X5];by_cases e:Nt c p=0
  ·rw [if_pos (by simp [e])];have ke:=(Kw c p).1 e;refine ⟨?_,fun z=> ?_⟩
   ·obtain ⟨j1,j2⟩:=Bh.1 i1;exact Bh.2 ⟨fun w hw=>by rw [←ke];exact j1 w hw,j2⟩
   ·rw [i2];constructor
    ·rintro ⟨s1,s2,rfl,q⟩;refine ⟨c::s1,s2,rfl,fun y hy=> ?_⟩;rcases A6.1 hy with rfl|hy
     ·rw [←ke];exact q c (.head _)
     ·exact q y hy
    ·rintro ⟨s1,s2,h,q⟩;cases s1 with
     |nil=>
      injection h with h _;subst h;exact absurd ke.symm (q p (.head _))
     |cons w s1=>
      injection h with h h';subst h;exact ⟨s1,s2,h',fun y hy=>q y (.tail _ hy)⟩
  ·rw [if_neg (by simp [e])];have ne:E5 c≠E5 p:=fun q=>e ((Kw c p).2 q);have hlt:ltF (E5 p) (E5 c):=by
    rcases to_F.tri (E5 p) (E5 c) with q|q|q
    ·exact q
    ·exact absurd q.symm ne
    ·exact absurd (.inl q) hpc
   obtain ⟨j1,j2⟩:=Bh.1 i1;refine ⟨Bh.2 ⟨fun w hw=> ?_,i1⟩,fun z=> ?_⟩
   ·rcases A6.1 hw with rfl|hw
    ·exact hlt
    ·exact to_F.tr _ _ _ hlt (j1 w hw)
   ·rw [A6];constructor
    ·rintro (rfl|hz)
     ·exact ⟨[],r,rfl,fun y hy=>by have:y=p:=by simpa using hy
                                   subst this;exact ne.symm⟩
     ·obtain ⟨s1,s2,rfl,q⟩:=(i2 z).1 hz;refine ⟨c::s1,s2,rfl,fun y hy=> ?_⟩;rcases A6.1 hy with rfl|hy
      ·intro q2;exact to_F.irr _ (by have:=to_F.tr _ _ _ hlt (j1 z hz);rw [q2] at this;exact this)
      ·exact q y hy
    ·rintro ⟨s1,s2,h,q⟩;cases s1 with
     |nil=>injection h with h _;exact .inl h.symm
     |cons w s1=>
      injection h with h h';subst h;exact .inr ((i2 z).2 ⟨s1,s2,h',fun y hy=>q y (.tail _ hy)⟩)
theorem Ij5 (s:List Rec) (h:s.Pairwise fun a b=>leR a b=true):Dv0 (cpt eqF s)∧∀z,z∈cpt eqF s↔∃s1 s2,s=s1++z::s2∧∀y∈s1,E5 y≠E5 z:=by
 cases s with
 |nil=>simp [cpt]
 |cons p r=>
  obtain ⟨i1,i2⟩:=Dy9 r p h;refine ⟨i1,fun z=> ?_⟩;show z∈p::X5 eqF p r↔_;rw [A6,i2];constructor
  ·rintro (rfl|⟨s1,s2,rfl,q⟩)
   ·exact ⟨[],r,rfl,by simp⟩
   ·exact ⟨p::s1,s2,rfl,q⟩
  ·rintro ⟨s1,s2,h,q⟩;cases s1 with
   |nil=>injection h with h _;exact .inl h.symm
   |cons w s1=>
    injection h with h h';subst h;exact .inr ⟨s1,s2,h',q⟩
theorem Cc4 {s l:List Rec} (h:Stab leR s l):cpt eqF s=Hq l:=by
 obtain ⟨i1,i2⟩:=Ij5 s h.sorted;obtain ⟨j1,j2⟩:=jf l;refine sr _ _ i1 j1 fun z=> ?_;rw [i2,j2];have hz:eqv leR z z=true:=(Av6 z z).2 ⟨rfl,rfl⟩;have hm:=h.mem Hv0;constructor
 ·rintro ⟨s1,s2,rfl,q⟩;have hs1:s1.filter (eqv leR z)=[]:=by rw [Rn];intro y hy hyz;exact q y hy ((Av6 z y).1 hyz).1.symm
  have hc:=h.cls z;rw [I5,hs1,C0,Ev hz] at hc;obtain ⟨l1,l2,rfl,g1,_,_⟩:=List.filter_eq_cons_iff.1 hc.symm;have key:∀y,y∈l1++z::l2→E5 y=E5 z→z.ttl≤y.ttl:=fun y hy e=>by
   rcases B5.1 ((hm y).2 hy) with w|w
   ·exact absurd e (q y w)
   ·rcases A6.1 w with rfl|w
    ·exact Ik4 _
    ·have:=(K2 z y).1 ((Bh.1 (K5.1 h.sorted).2.1).1 y w);exact Int.le_of_not_gt fun t=>this (.inr ⟨e,t⟩)
  refine ⟨l1,l2,rfl,fun y hy e=> ?_,fun y hy e=>key y (by simp [hy]) e⟩;have k1:=key y (by simp [hy]) e;have k2:=g1 y hy;rw [Av6] at k2;have:z.ttl≠y.ttl:=fun t=>k2 ⟨e.symm,t⟩;omega
 ·rintro ⟨l1,l2,rfl,q1,q2⟩;have hl1:l1.filter (eqv leR z)=[]:=by rw [Rn];intro y hy hyz;obtain ⟨a,b⟩:=(Av6 z y).1 hyz;have:=q1 y hy a.symm;omega
  have hc:=h.cls z;rw [I5,hl1,C0,Ev hz] at hc;obtain ⟨s1,s2,rfl,g1,_,_⟩:=List.filter_eq_cons_iff.1 hc;refine ⟨s1,s2,rfl,fun y hy e=> ?_⟩;have k1:=(K2 y z).1 ((K5.1 h.sorted).2.2 y hy z (by simp));have k2:¬z.ttl<y.ttl:=fun t=>k1 (.inr ⟨e.symm,t⟩);have k3:z.ttl≤y.ttl:=by
   rcases B5.1 ((hm y).1 (by simp [hy])) with w|w
   ·have:=q1 y w e;omega
   ·rcases A6.1 w with rfl|w
    ·exact Ik4 _
    ·exact q2 y w e
  exact g1 y hy ((Av6 z y).2 ⟨e.symm,by omega⟩)
end Go.X.G
/- Valid data are known by their bytes; records that are alike. -/
namespace Go.X.G
open Go Go.X
end Go.X.G
