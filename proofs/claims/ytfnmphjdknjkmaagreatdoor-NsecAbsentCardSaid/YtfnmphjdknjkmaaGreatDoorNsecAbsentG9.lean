/- Names: what the reference's functions give. -/
import Derived.Test.YtfnmphjdknjkmaaGreatDoorNsecAbsentG7
import Derived.Test.YtfnmphjdknjkmaaGreatDoorNsecAbsentG8
open Bool renaming eq_false_or_eq_true→Ak,and_eq_true→Aw,or_eq_true→Ap,not_eq_true'→A7,eq_iff_iff→C2,and_true→Od,eq_false_iff→pd
open Int renaming toNat_natCast→G3
open List renaming getElem?_eq_some_iff→Av,getElem?_eq_getElem→Az,length_append→Ac,mem_cons→Am,append_assoc→As,length_cons→A3,mem_of_getElem?→A9,length_pos_iff→Bb,length_nil→Bf,getD_eq_getElem?_getD→Bl,take_append_drop→Bs,length_drop→B3,cons_append→B4,getElem?_cons_zero→Cj,nil_append→Cb,take_add_one→Cl,drop_eq_getElem_cons→Ct,drop_drop→C0,take_length→Dq,drop_zero→D3,length_map→E8,mem_cons_self→Gk,mem_of_mem_drop→Gb,drop_eq_nil_of_le→G2,cons_prefix_cons→Hg,drop_append_of_le_length→Ip,getLast_eq_getElem→Jj,flatMap_cons→Jq,isSuffixOf_iff_suffix→Kt,append_cancel_right→Oc,reverse_prefix→Gw6,count_eq_zero→In4
open Nat renaming le_refl→Af,zero_le→Cc,mod_eq_of_lt→Dk,one_mul→Ez
open Option renaming map_eq_some_iff→Ax,map_some→A5
open Option.some renaming injEq→Aq
set_option maxHeartbeats 1000000
set_option linter.unusedVariables false
set_option linter.unusedSimpArgs false
namespace Go.X.G
open Go Go.X
def N3 (c:UInt8):Bool:=decide (97≤(c.toNat:Int)) && decide ((c.toNat:Int)≤122)||decide (48≤(c.toNat:Int)) && decide ((c.toNat:Int)≤57)||decide ((c.toNat:Int)=45)||decide ((c.toNat:Int)=95)
theorem Am4 (c:UInt8):(decide (97≤(c.toNat:Int)) && decide ((c.toNat:Int)≤122)||decide (48≤(c.toNat:Int)) && decide ((c.toNat:Int)≤57)||decide ((c.toNat:Int)=45)||decide ((c.toNat:Int)=95))=N3 c:=rfl
def Iz (s:List UInt8):Bool:=decide (s=[42])||(decide (1≤s.length) && decide (s.length≤63) && s.all N3)
theorem Am9 (s:List UInt8) (N:Nat) (hN:s.length<N) (hs:s.length≤4294967296):
  Cq6.ev S N [.s s]=some (if s.all N3=true then .yld 0 [] else .ret [.b false]):=by
 refine Ew s (fun i=>[.i .i64 (i:Int)]) (fun i r=>if r.all N3=true then .yld 0 [] else .ret [.b false]) rfl hN (fun i c r hd hi hc=> ?_) ?_
 ·simp (disch:=omega) only [Bq4,xe,EV,simprocAttr,hc,Am4];cases h:N3 c<;>simp [h,Out.goes]
 ·simp (disch:=omega) [Bq4,xe,EV,simprocAttr,Out.goes]
theorem Am8 (s:List UInt8) (hs:s.length≤4294967296):S c9 1 [.s s]=some [.b (Iz s)]:=by
 refine Hn4 (N:=s.length+1) rfl ?_;simp (disch:=omega) only [Bq4,Am9,xe,EV,simprocAttr];unfold Iz
 grind
end Go.X.G
/- Names: what the reference's functions give. -/
namespace Go.X.G
open Go Go.X
def spl (first:Bool) (cur:List UInt8):List UInt8→Option (List (List UInt8))
 |[]=>some []
 |c::r=>if c=46 then (if Iz cur=true∧(cur=[42]→first=true) then (spl false [] r).map (cur::·) else none) else spl first (cur++[c]) r
def nm (n:List UInt8):Option (List (List UInt8)):=
 if n=[46] then some [] else if 2≤n.length∧n.length≤254∧n[n.length - 1]? =some 46 then spl true [] n else none
def lbl (n:List UInt8):List (List UInt8):=(nm n).getD []
def vld (n:List UInt8):Bool:=(nm n).isSome
theorem Gy7 {α:Type} (n:List α) (i j:Nat) (c:α) (h:n[i]? =some c) (hj:j≤i):(n.take (i+1)).drop j=(n.take i).drop j++[c]:=by have hi:i<n.length:=(Av.1 h).1;rw [Cl,h,Ip (by simp;omega)];rfl
theorem Gy8 {α:Type} (n:List α) (i:Nat):(n.take i).drop i=[]:=by rw [List.drop_eq_nil_iff];simp;omega
def Uw (l:List (List UInt8)):Option (List (List UInt8))→Out
 |some ls=> .yld 0 [.l 1 ((l++ls).map .s)]
 |none=> .ret [.l 1 [], .b false]
theorem Eq6 (n:List UInt8) (N:Nat) (hN:n.length<N) (hs:n.length≤1000):
  Es8.ev S N [.s n]=some (Uw [] (spl true [] n)):=by
 refine Fx n (fun i (g:List (List UInt8)×Nat)=>[.l 1 (g.1.map .s), .i .i64 (g.2:Int), .i .i64 (i:Int)]) (fun i g r=>Uw g.1 (spl (decide (g.2=0)) ((n.take i).drop g.2) r)) (fun i g=>g.1.length≤i∧g.2≤i) ([],0) rfl ⟨Af _,Af _⟩ hN (fun i g c r hd hi hc hI=> ?_) (fun g hI=> ?_)
 ·obtain ⟨l,st⟩:=g;obtain ⟨h1,h2⟩:=hI;simp only at h1 h2 ⊢;have hl:((n.take i).drop st).length≤4294967296:=by simp;omega
  have hm:(l.map PV.s).length=l.length:=E8 ..;have hd':=Gy0 c 46 (by omega);by_cases hdot:c=46
  ·have hdi:=hd'.2 hdot;simp (disch:=omega) only [Zv,xe,EV,simprocAttr,hc,Am8];simp only [spl,if_pos hdot];by_cases h:Iz ((n.take i).drop st)=true∧((n.take i).drop st=[42]→st=0)
   ·obtain ⟨h3,h4⟩:=h;left;refine ⟨(l++[(n.take i).drop st],i+1),?_,?_,?_⟩
    ·rw [if_neg (by simp only [h3];intro h;simp at h;have:=h4 h.1;omega)];simp
    ·simp;omega
    ·simp only [Gy8];rw [if_pos ⟨h3,by simpa using h4⟩];cases h9:spl false [] r<;>simp [h9,Uw]
   ·right;have h':¬(Iz ((n.take i).drop st)=true∧((n.take i).drop st=[42]→decide (st=0)=true)):=by simpa using h
    rw [if_neg h'];refine ⟨?_,rfl⟩;rw [if_pos]
    ·rfl
    ·cases h5:Iz ((n.take i).drop st)
     ·simp
     ·simp only [h5,true_and] at h;have ⟨h6,h7⟩:=Classical.not_imp.1 h;simp [h6];omega
  ·have hdi:¬(c.toNat:Int)=46:=fun h=>hdot (hd'.1 h);left;refine ⟨(l,st),?_,?_,?_⟩
   ·simp (disch:=omega) only [Zv,xe,EV,simprocAttr,hc]
   ·simp only;omega
   ·simp only [spl];rw [if_neg hdot,Gy7 n i st c hc h2]
 ·simp (disch:=omega) [Zv,xe,EV,simprocAttr,Out.goes,spl,Uw]
theorem split_ok (n:List UInt8) (hs:n.length≤9223372036854775807):S O8 1 [.s n]=some [Bd (lbl n), .b (vld n)]:=by
 refine Jk8 (N:=n.length+1) rfl ?_;unfold Bd lbl vld nm;by_cases h1:n=[46]
 ·simp (disch:=omega) [Zv,xe,EV,simprocAttr,h1]
 ·rw [if_neg h1];by_cases h2:n.length<2
  ·simp (disch:=omega) only [Zv,xe,EV,simprocAttr,h1];have h3:¬(2≤n.length∧n.length≤254∧n[n.length - 1]? =some 46):=by omega
   rw [if_neg h3];rfl
  ·by_cases h3:254<n.length
   ·simp (disch:=omega) only [Zv,xe,EV,simprocAttr,h1];have h3:¬(2≤n.length∧n.length≤254∧n[n.length - 1]? =some 46):=by omega
    rw [if_neg h3];rfl
   ·have h4:=Az (l:=n) (i:=n.length - 1) (by omega);have h5:((n.length:Int) - 1).toNat=n.length - 1:=by omega
    have h6:=Gy0 (n[n.length - 1]'(by omega)) 46 (by omega);simp (disch:=omega) only [Zv,xe,EV,simprocAttr,h1,h4,h5,Eq6];by_cases h7:n[n.length - 1]'(by omega)=46
    ·rw [if_pos (show 2≤n.length∧n.length≤254∧some (n[n.length - 1]'(by omega))=some 46 from ⟨by omega,by omega,by rw [h7]⟩),if_neg (fun h=>h (h6.2 h7))];cases h8:spl true [] n
     ·simp [Uw,Df9]
     ·simp (disch:=omega) [Zv,Uw,xe,EV,simprocAttr]
    ·rw [if_neg (show¬(2≤n.length∧n.length≤254∧some (n[n.length - 1]'(by omega))=some 46) from fun h=>h7 (by simpa using h.2.2)),if_pos (show (((n[n.length - 1]'(by omega)).toNat:Int)≠46) from fun h=>h7 (h6.1 h))];rfl
end Go.X.G
/- Names: what the reference's functions give, ctd. -/
namespace Go.X.G
open Go Go.X
theorem i7:∀(r:List UInt8) (f:Bool) (cur:List UInt8) (l:List (List UInt8)),spl f cur r=some l→l.length≤r.length
 |[],f,cur,l,h=>by simp [spl] at h;simp [←h]
 |c::r,f,cur,l,h=>by
  simp only [spl] at h;split at h
  ·split at h
   ·obtain ⟨m,hm,rfl⟩:=Ax.1 h;have:=i7 r _ _ _ hm;simp;omega
   ·cases h
  ·have:=i7 r _ _ _ h;simp;omega
theorem Ij8 {n:List UInt8} {l:List (List UInt8)} (h:nm n=some l):l.length≤254:=by
 unfold nm at h;split at h
 ·injection h with h;subst h;simp
 ·split at h
  ·rename_i h2;have:=i7 _ _ _ _ h;omega
  ·cases h
theorem G7 (n:List UInt8):(lbl n).length≤254:=by
 unfold lbl;cases h:nm n with
 |none=>simp
 |some l=>exact Ij8 h
theorem Ty (n:List UInt8) (hs:n.length≤9223372036854775807):S Bm5 1 [.s n]=some [.b (vld n)]:=by refine Jk2 (N:=1) rfl ?_;simp (disch:=omega) only [In6,split_ok,xe,EVP,EV,simprocAttr]
theorem As3 (n:List UInt8) (hs:n.length≤9223372036854775807):S Al0 1 [.s n]=some [Bd (lbl n)]:=by refine Jk0 (N:=1) rfl ?_;simp (disch:=omega) only [In5,split_ok,xe,EVP,EV,simprocAttr]
def Pw {α:Type} [DecidableEq α]:List α→List α→Nat
 |x::xs,y::ys=>if x=y then Pw xs ys+1 else 0
 |_,_=>0
def Ft (a b:List (List UInt8)):Nat:=Pw a.reverse b.reverse
theorem Cz0 {α:Type} [DecidableEq α]:∀(a b:List α),Pw a b≤a.length∧Pw a b≤b.length
 |[],b=>by simp [Pw]
 |x::xs,[]=>by simp [Pw]
 |x::xs,y::ys=>by have:=Cz0 xs ys;simp only [Pw];split<;>simp<;>omega
theorem Wr (a b:List (List UInt8)):Ft a b≤a.length∧Ft a b≤b.length:=by have:=Cz0 a.reverse b.reverse;simpa [Ft] using this
theorem Gb9 (a b:List (List UInt8)) (N:Nat) (hN:a.length<N) (ha:a.length≤1000000) (hb:b.length≤1000000):
  Ck1.ev S N [Bd a,Bd b]=some (.yld 0 [.i .i64 (Ft a b:Int)]):=by
 have key:=Js (fn:=S) (N:=N) (η:=[Bd a,Bd b]) (id:=1) (init:=[(.c (.i .i64 (0)))]) (body:=Dc9) (α:=Nat) (fun k=>[.i .i64 (k:Int)]) (fun k=> .yld 0 [.i .i64 ((k+Pw (a.reverse.drop k) (b.reverse.drop k):Nat):Int)]) (fun k=>k≤a.length∧k≤b.length) (fun k=>a.length - k) 0 rfl ⟨Cc _,Cc _⟩ (by omega) ?_
 ·simpa [Ft,Ck1] using key
 ·rintro k ⟨h1,h2⟩;by_cases h3:k<a.length
  ·by_cases h4:k<b.length
   ·have e1:((a.length:Int) - 1 - k).toNat=a.length - 1 - k:=by omega
    have e2:((b.length:Int) - 1 - k).toNat=b.length - 1 - k:=by omega
    have g1:a[a.length - 1 - k]? =some (a[a.length - 1 - k]'(by omega)):=Az (by omega);have g2:b[b.length - 1 - k]? =some (b[b.length - 1 - k]'(by omega)):=Az (by omega);have d1:a.reverse.drop k=(a[a.length - 1 - k]'(by omega))::a.reverse.drop (k+1):=by rw [Ct (by simpa using h3)];simp
    have d2:b.reverse.drop k=(b[b.length - 1 - k]'(by omega))::b.reverse.drop (k+1):=by rw [Ct (by simpa using h4)];simp
    simp (disch:=omega) only [Dm6,xe,EVP,EV,simprocAttr,e1,e2,g1,g2];rw [d1,d2];simp only [Pw];by_cases h:a[a.length - 1 - k]'(by omega)=b[b.length - 1 - k]'(by omega)
    ·left;refine ⟨k+1,by simp [h],⟨by omega,by omega⟩,by omega,?_⟩;rw [if_pos h];congr 3
     push_cast
     omega
    ·right;simp [h,Out.goes]
   ·right;have d2:b.reverse.drop k=[]:=G2 (by simp;omega);have z:Pw (a.reverse.drop k) []=0:=by cases a.reverse.drop k<;>rfl
    rw [d2,z];simp (disch:=omega) [Dm6,xe,EVP,EV,simprocAttr,Out.goes]
  ·right;have d1:a.reverse.drop k=[]:=G2 (by simp;omega);have z:Pw [] (b.reverse.drop k)=0:=rfl;rw [d1,z];simp (disch:=omega) [Dm6,xe,EVP,EV,simprocAttr,Out.goes]
theorem Wp (a b:List (List UInt8)) (ha:a.length≤1000000) (hb:b.length≤1000000):S jr 2 [Bd a,Bd b]=some [.i .i64 (Ft a b:Int)]:=by refine Jk7 (N:=a.length+1) rfl ?_;simp (disch:=omega) only [Dm6,Gb9,xe,EVP,EV,simprocAttr]
def under (n top:List UInt8):Bool:=vld n && vld top && decide (Ft (lbl n) (lbl top)=(lbl top).length)
theorem J1 (n top:List UInt8) (hn:n.length≤9223372036854775807) (ht:top.length≤9223372036854775807):S j5 2 [.s n, .s top]=some [.b (under n top)]:=by
 refine Jx3 (N:=1) rfl ?_;have h1:=G7 n;have h2:=G7 top;unfold under;cases h3:vld n<;>cases h4:vld top<;>simp (disch:=omega) only [Ir4,split_ok,Wp,h3,h4,xe,EVP,EV,simprocAttr]
 all_goals (simp;try omega)
def cmpS (a b:List UInt8):Int:=if Op.bytesLess a b then -1 else if a=b then 0 else 1
theorem Ny (a b:List UInt8):S Al2 2 [.s a, .s b]=some [.i .i64 (cmpS a b)]:=by
 refine Jk6 (N:=1) rfl ?_;unfold cmpS;simp (disch:=omega) only [In8,xe,EVP,EV,simprocAttr];cases h:Op.bytesLess a b
 ·by_cases h2:a=b<;>simp [h2]
 ·simp
def Hd (a b:List UInt8):Int:=
 if vld a && vld b then
  let k:=Ft (lbl a) (lbl b)
  if k<(lbl a).length∧k<(lbl b).length then cmpS ((lbl a).getD ((lbl a).length - 1 - k) []) ((lbl b).getD ((lbl b).length - 1 - k) [])
  else if (lbl a).length<(lbl b).length then -1 else if (lbl b).length<(lbl a).length then 1 else 0
 else if vld a then -1 else if vld b then 1 else cmpS a b
theorem Kb (a b:List UInt8) (hn:a.length≤9223372036854775807) (ht:b.length≤9223372036854775807):S Am1 2 [.s a, .s b]=some [.i .i64 (Hd a b)]:=by
 refine Jx2 (N:=1) rfl ?_;have h1:=G7 a;have h2:=G7 b;have h5:=Wr (lbl a) (lbl b);unfold Hd;cases h3:vld a<;>cases h4:vld b
 ·simp (disch:=omega) [Bk3,split_ok,Ny,h3,h4,xe,EVP,EV,simprocAttr]
 ·simp (disch:=omega) [Bk3,split_ok,Ny,h3,h4,xe,EVP,EV,simprocAttr]
 ·simp (disch:=omega) [Bk3,split_ok,Ny,h3,h4,xe,EVP,EV,simprocAttr]
 ·by_cases h6:Ft (lbl a) (lbl b)<(lbl a).length∧Ft (lbl a) (lbl b)<(lbl b).length
  ·obtain ⟨h7,h8⟩:=h6;have e1:(((lbl a).length:Int) - 1 - (Ft (lbl a) (lbl b):Int)).toNat=(lbl a).length - 1 - Ft (lbl a) (lbl b):=by omega
   have e2:(((lbl b).length:Int) - 1 - (Ft (lbl a) (lbl b):Int)).toNat=(lbl b).length - 1 - Ft (lbl a) (lbl b):=by omega
   have g1:=Az (l:=lbl a) (i:=(lbl a).length - 1 - Ft (lbl a) (lbl b)) (by omega);have g2:=Az (l:=lbl b) (i:=(lbl b).length - 1 - Ft (lbl a) (lbl b)) (by omega);simp (disch:=omega) only [Bk3,split_ok,Wp,Ny,h3,h4,e1,e2,g1,g2,xe,EVP,EV,simprocAttr];simp [h7,h8,g1,g2]
  ·simp (disch:=omega) only [Bk3,split_ok,Wp,Ny,h3,h4,xe,EVP,EV,simprocAttr];simp only [h6]
   grind
end Go.X.G
/- The library's functions on strings. -/
namespace Go.X.G
open Go Go.X
theorem Gp4 (x:List UInt8) (c:UInt8):S vh 2 [.s x, .i .u8 (c.toNat:Int)]=some [.i .i64 (x.count c:Int)]:=
 Hh3 (args:=[.s x, .i .u8 (c.toNat:Int)]) (by simp [XK.run,Ac5,Lib.countByte])
theorem Gh8 (x:List UInt8) (c:UInt8):S vt 2 [.s x, .i .u8 (c.toNat:Int)]=some [.i .i64 (Lib.indexByte x c)]:=
 Hh4 (args:=[.s x, .i .u8 (c.toNat:Int)]) (by simp [XK.run,Ac5])
theorem Gp5 (x y:List UInt8):S v7 2 [.s x, .s y]=some [.i .i64 (Lib.compareBytes x y)]:=
 Hl4 (args:=[.s x, .s y]) (by simp [XK.run,Ev5])
theorem Oz (x:List UInt8) (c:UInt8):S U0 2 [.s x, .i .u8 (c.toNat:Int)]=some [.i .i64 (Lib.indexByte x c)]:=by refine Hl3 (N:=1) rfl ?_;simp (disch:=omega) only [Hy6,Gh8,xe,EVP,EV,simprocAttr]
theorem gj (x:List UInt8) (c:UInt8):S c7 2 [.s x, .i .u8 (c.toNat:Int)]=some [.i .i64 (Lib.indexByte x c)]:=by refine Hn0 (N:=1) rfl ?_;simp (disch:=omega) only [Hz1,Oz,xe,EVP,EV,simprocAttr]
theorem Mf (c:UInt8):∀(x:List UInt8),c∉x→Lib.indexByte x c= -1
 |[],_=>rfl
 |b::l,h=>by have h1:b≠c:=fun e=>h (by simp [e]);have h2:=Mf c l (fun e=>h (by simp [e]));simp [Lib.indexByte,h1,h2]
theorem Jn (c:UInt8) (post:List UInt8):∀(pre:List UInt8),c∉pre→Lib.indexByte (pre++c::post) c=(pre.length:Int)
 |[],_=>by simp [Lib.indexByte]
 |b::l,h=>by
  have h1:b≠c:=fun e=>h (by simp [e]);have h2:=Jn c post l (fun e=>h (by simp [e]));simp only [B4,Lib.indexByte,h2];simp [h1]
  try omega
theorem dot_split (c:UInt8):∀(s:List UInt8),c∉s∨∃pre post,s=pre++c::post∧c∉pre
 |[]=> .inl (by simp)
 |b::l=>by
  by_cases h:b=c
  ·exact .inr ⟨[],l,by simp [h],by simp⟩
  ·rcases dot_split c l with h1|⟨pre,post,rfl,h2⟩
   ·exact .inl (by simp [h1,Ne.symm h])
   ·exact .inr ⟨b::pre,post,by simp,by simp [h2,Ne.symm h]⟩
def pcs (cur:List UInt8):List UInt8→List (List UInt8)
 |[]=>[cur]
 |c::r=>if c=46 then cur::pcs [] r else pcs (cur++[c]) r
def cut (s:List UInt8):List (List UInt8):=pcs [] s
theorem Bl3 (post:List UInt8):∀(pre cur:List UInt8),(46:UInt8)∉pre→pcs cur (pre++46::post)=(cur++pre)::pcs [] post
 |[],cur,_=>by simp [pcs]
 |b::l,cur,h=>by have h1:b≠46:=fun e=>h (by simp [e]);have h2:=Bl3 post l (cur++[b]) (fun e=>h (by simp [e]));simp [pcs,h1,h2]
theorem W6:∀(s cur:List UInt8),(46:UInt8)∉s→pcs cur s=[cur++s]
 |[],cur,_=>by simp [pcs]
 |b::l,cur,h=>by have h1:b≠46:=fun e=>h (by simp [e]);have h2:=W6 l (cur++[b]) (fun e=>h (by simp [e]));simp [pcs,h1,h2]
theorem Cy9 (s:List UInt8):(cut s).length=s.count 46+1:=by
 have:∀(s cur:List UInt8),(pcs cur s).length=s.count 46+1:=by
  intro s
  induction s with
  |nil=>intro cur;rfl
  |cons c r ih=>
   intro cur;by_cases h:c=46<;>simp [pcs,h,ih]
 exact this s []
theorem As4 (s:List UInt8) (hs:s.length≤9223372036854775807):S b8 2 [.s s, .s [46]]=some [.i .i64 (Lib.indexByte s 46)]:=by
 refine Hh2 (N:=1) rfl ?_;have h1:=Oz s 46;have e:(((46:UInt8).toNat:Nat):Int)=46:=rfl;rw [e] at h1;by_cases h:[46]=s
 ·subst h;simp (disch:=omega) only [Em5,xe,EVP,EV,simprocAttr];rfl
 ·simp (disch:=omega) only [Em5,h,h1,e,xe,EVP,EV,simprocAttr]
theorem f9 (s:List UInt8) (hs:s.length≤9223372036854775807):S Us 2 [.s s, .s [46]]=some [.i .i64 (Lib.indexByte s 46)]:=by refine Hl0 (N:=1) rfl ?_;simp (disch:=omega) only [Hy4,As4,xe,EVP,EV,simprocAttr]
theorem Dh0 (s:List UInt8):S cq 2 [.s s, .s [46]]=some [.i .i64 (s.count 46:Int)]:=by refine Hl1 (N:=1) rfl ?_;have h1:=Gp4 s 46;have e:(((46:UInt8).toNat:Nat):Int)=46:=rfl;rw [e] at h1;simp (disch:=omega) only [Hy5,h1,e,xe,EVP,EV,simprocAttr]
def Cw9 (done rest:List (List UInt8)):Out:=
 .yld 0 [.s ((done++rest).getLastD []),Bd ((done++rest).dropLast++[[]]), .i .i64 (((done++rest).length:Int) - 1)]
theorem lc (s:List UInt8) (N:Nat) (hN:s.length<N) (hs:s.length≤1000000) (p q:PV):
  kf.ev S N [.s s, .s [46], .i .i64 0,p, .i .i64 ((s.count 46:Int)+1)]=some (Cw9 [] (cut s)):=by
 have hc0:s.count 46≤s.length:=List.count_le_length;have key:=Js (fn:=S) (N:=N) (η:=[.s s, .s [46], .i .i64 0,p, .i .i64 ((s.count 46:Int)+1)]) (id:=1) (init:=[(.v 0),(.rep 1 (.mn (.v 4) (.bin .add (.slen (.v 0)) (.c (.i .i64 (1))))) (.c (.s []))),(.c (.i .i64 (0)))]) (body:=oc) (α:=List (List UInt8)×List UInt8)
  (fun a=>[.s a.2,Bd (a.1++List.replicate (a.2.count 46+1) []), .i .i64 (a.1.length:Int)]) (fun a=>Cw9 a.1 (cut a.2)) (fun a=>a.1.length+a.2.count 46=s.count 46∧a.2.length≤s.length) (fun a=>a.2.length) ([],s) ?_ ⟨by simp,Af _⟩ hN ?_
 ·simpa [kf] using key
 ·have e:((s.count 46:Int)+1).toNat=s.count 46+1:=by omega
  simp (disch:=omega) only [e,xe,EVP,EV,simprocAttr]
 ·rintro ⟨done,rest⟩ ⟨h1,h2⟩;simp only at h1 h2 ⊢;rcases dot_split 46 rest with h|⟨pre,post,rfl,h⟩
  ·right;have c0:rest.count 46=0:=In4.2 h;have i0:=Mf 46 rest h;have cu:cut rest=[rest]:=by simpa [cut] using W6 rest [] h
   refine ⟨?_,rfl⟩;rw [c0];rw [c0] at h1;simp (disch:=omega) only [Bq2,f9,i0,xe,EVP,EV,simprocAttr];simp [Cw9,cu,List.getLastD_eq_getLast?]
  ·left;have c0:(pre++46::post).count 46=post.count 46+1:=by rw [List.count_append,In4.2 h];simp
   have i0:=Jn 46 post pre h;have cu:cut (pre++46::post)=pre::cut post:=by simpa [cut] using Bl3 post pre [] h
   have hl:(pre++46::post).length=pre.length+post.length+1:=by simp;omega
   have sl1:List.drop (0:Int).toNat (List.take ((pre.length:Int)+0).toNat (pre++46::post))=pre:=by simp
   have sl2:List.drop ((pre.length:Int)+1).toNat (List.take (pre++46::post).length (pre++46::post))=post:=by
    have:((pre.length:Int)+1).toNat=pre.length+1:=by omega
    rw [this,Dq,List.drop_append];simp
   have sl3:(done++[]::[]::List.replicate (post.count 46) ([]:List UInt8)).length=done.length+post.count 46+2:=by simp;omega
   refine ⟨(done++[pre],post),?_,⟨by simp;omega,by simp only;omega⟩,by simp;omega,by simp [Cw9,cu]⟩;rw [c0];rw [c0] at h1;simp (disch:=omega) only [Bq2,f9,i0,sl1,sl2,xe,EVP,EV,simprocAttr];simp [List.replicate_succ,List.set_append]
theorem lz (s:List UInt8) (hs:s.length≤1000000):S c5 4 [.s s, .s [46], .i .i64 0, .i .i64 (-1)]=some [Bd (cut s)]:=by
 refine Hm7 (N:=s.length+1) rfl ?_;have h1:=Cy9 s;have h2:s.count 46≤s.length:=List.count_le_length;obtain ⟨l,x,hx⟩:∃l x,cut s=l++[x]:=⟨(cut s).dropLast,(cut s).getLast (by intro e;simp [e] at h1),(List.dropLast_concat_getLast _).symm⟩;have h3:l.length=s.count 46:=by rw [hx] at h1;simpa using h1
 have h4:((l.length:Int)+1 - 1)=(l.length:Int):=by omega
 have h5:((l++[([]:List UInt8)]).length:Int)=l.length+1:=by simp
 have h6:((l++[x]).length:Int)=l.length+1:=by simp
 have g1:(l++[([]:List UInt8)])[l.length]? =some []:=by simp
 have g2:(l++[x]).getLastD []=x:=by simp [List.getLastD_eq_getLast?]
 have g3:(l++[([]:List UInt8)]).set l.length x=l++[x]:=by simp
 have hk:=lc s (s.length+1) (by omega) hs (.i .i64 (-1)) .u;rw [hx] at hk ⊢;simp only [Cw9,Cb,List.dropLast_concat] at hk;simp (disch:=omega) only [Bq2,Dh0,hk,h4,h6,g1,g2,g3,xe,EVP,EV,simprocAttr];have g4:((l.length:Int)+1).toNat=(l++[x]).length:=by simp
 rw [g4,Dq];rfl
theorem f5 (s:List UInt8) (hs:s.length≤1000000):S Vk 2 [.s s, .s [46]]=some [Bd (cut s)]:=by refine Hp7 (N:=1) rfl ?_;simp (disch:=omega) only [Hz8,lz,xe,EVP,EV,simprocAttr]
theorem Y2 (s t:List UInt8) (hs:s.length≤9223372036854775807):S c6 2 [.s s, .s t]=some [.b (t.isSuffixOf s)]:=by
 refine Hm8 (N:=1) rfl ?_;by_cases h:t.length≤s.length
 ·have e:((s.length:Int) - (t.length:Int)).toNat=s.length - t.length:=by omega
  simp (disch:=omega) only [En0,e,xe,EVP,EV,simprocAttr];simp only [Dq];congr 4;rw [C2,Kt,decide_eq_true_eq];refine ⟨fun h=>h▸List.drop_suffix _ _,fun h=> ?_⟩;obtain ⟨p,rfl⟩:=h;simp
 ·have h2:t.isSuffixOf s=false:=by rw [pd,ne_eq,Kt];exact fun h'=>h h'.length_le
  simp (disch:=omega) only [En0,h2,xe,EVP,EV,simprocAttr]
theorem Lm (s t:List UInt8) (hs:s.length≤9223372036854775807):S Vq 2 [.s s, .s t]=some [.b (t.isSuffixOf s)]:=by refine Hp8 (N:=1) rfl ?_;simp (disch:=omega) only [Hz9,Y2,xe,EVP,EV,simprocAttr]
theorem o8 (x y:List UInt8):S dj 2 [.s x, .s y]=some [.i .i64 (Lib.compareBytes x y)]:=by refine Hn5 (N:=1) rfl ?_;simp (disch:=omega) only [Hz2,Gp5,xe,EVP,EV,simprocAttr]
theorem o5 (x y:List UInt8):S bz 2 [.s x, .s y]=some [.i .i64 (Lib.compareBytes x y)]:=by refine Jq1 (N:=1) rfl ?_;simp (disch:=omega) only [In9,o8,xe,EVP,EV,simprocAttr]
end Go.X.G
/- Names and their labels. -/
namespace Go.X.G
open Go Go.X
def flat (l:List (List UInt8)):List UInt8:=l.flatMap fun x=>x++[46]
def jn (l:List (List UInt8)):List UInt8:=if l=[] then [46] else flat l
def Gp (first:Bool):List (List UInt8)→Bool
 |[]=>true
 |p::r=>Iz p && (!decide (p=[42])||first) && Gp false r
theorem Gg9:N3 46=false:=by decide
theorem Lv {p:List UInt8} (h:Iz p=true):(46:UInt8)∉p:=by
 unfold Iz at h;simp at h;rcases h with rfl|⟨_,h⟩
 ·decide
 ·intro h2;have:=h 46 h2;rw [Gg9] at this;cases this
theorem wl {p:List UInt8} (h:Iz p=true):p≠[]:=by rintro rfl;simp [Iz] at h
theorem G8 {p:List UInt8}:∀{f:Bool} {l:List (List UInt8)},Gp f l=true→p∈l→Iz p=true
 |f,q::r,h,hp=>by
  simp only [Gp,Aw] at h;rcases Am.1 hp with rfl|hp
  ·exact h.1.1
  ·exact G8 h.2 hp
theorem An1:∀{l:List (List UInt8)},Gp false l=true→Gp true l=true
 |[],_=>rfl
 |p::r,h=>by simp only [Gp,Aw] at h ⊢;exact ⟨⟨h.1.1,by simp⟩,h.2⟩
theorem eq:∀{f:Bool} {a b:List (List UInt8)},Gp f (a++b)=(Gp f a && Gp (f && a.isEmpty) b)
 |f,[],b=>by simp [Gp]
 |f,p::r,b=>by simp only [B4,Gp,eq (a:=r)];simp [Bool.and_assoc]
theorem An2 {f:Bool} {l:List (List UInt8)} (h:Gp f l=true) (k:Nat):Gp f (l.drop k)=true:=by
 rw [←Bs k l,eq,Aw] at h;have h2:=h.2;cases f with
 |false=>simpa using h2
 |true=>
  cases he:(l.take k).isEmpty with
  |true=>rw [he] at h2;exact h2
  |false=>rw [he] at h2;exact An1 h2
theorem Rx:∀(m:List UInt8) (f:Bool) (cur:List UInt8),spl f cur (m++[46])=if Gp f (pcs cur m)=true then some (pcs cur m) else none
 |[],f,cur=>by simp only [Cb,spl,if_true,pcs,Gp,A5,Od];by_cases h:Iz cur=true<;>by_cases h2:cur=[42]<;>cases f<;>simp [h,h2]
 |c::r,f,cur=>by
  simp only [B4,spl,pcs];by_cases hc:c=46
  ·simp only [if_pos hc];rw [Rx r false []];simp only [Gp];by_cases h:Iz cur=true<;>by_cases h2:cur=[42]<;>cases f<;>by_cases h3:Gp false (pcs [] r)=true<;>simp [h,h2,h3]
  ·simp only [if_neg hc];exact Rx r f (cur++[c])
theorem Rs (b:List UInt8):∀(a cur:List UInt8),pcs cur (a++46::b)=pcs cur a++cut b
 |[],cur=>by simp [pcs,cut]
 |c::r,cur=>by
  simp only [B4,pcs];split
  ·rw [Rs b r []];rfl
  ·exact Rs b r _
theorem Q0:∀(m cur:List UInt8),flat (pcs cur m)=cur++m++[46]
 |[],cur=>by simp [pcs,flat]
 |c::r,cur=>by
  simp only [pcs];split
  ·rename_i h;have:=Q0 r [];simp only [flat,Jq] at this ⊢;rw [this,h];simp
  ·rw [Q0 r (cur++[c])];simp
theorem X3 (a b:List (List UInt8)):flat (a++b)=flat a++flat b:=by simp [flat]
theorem Ht1 (cur m:List UInt8):pcs cur m≠[]:=by
 cases m with
 |nil=>simp [pcs]
 |cons c r=>
  simp only [pcs];split
  ·simp
  ·intro h;have:=Q0 r (cur++[c]);rw [h] at this;simp [flat] at this
theorem Q2:∀(l:List (List UInt8)),(∀p∈l,(46:UInt8)∉p)→cut (flat l)=l++[[]]
 |[],_=>rfl
 |p::l,h=>by
  have h1:flat (p::l)=p++46::flat l:=by simp [flat]
  rw [h1];show pcs [] _=_;rw [Rs,W6 p [] (h p (by simp)),Q2 l (fun q hq=>h q (by simp [hq]))];simp
theorem I2:∀(l:List (List UInt8)),l≠[]→∃m,flat l=m++[46]
 |[p],_=>⟨p,by simp [flat]⟩
 |p::q::r,_=>by obtain ⟨m,hm⟩:=I2 (q::r) (by simp);exact ⟨p++[46]++m,by simp only [flat,Jq] at hm ⊢;rw [hm];simp⟩
theorem xy {l:List (List UInt8)} (hl:l≠[]) (h:∀p∈l,(46:UInt8)∉p) {m:List UInt8} (hm:flat l=m++[46]):cut m=l:=by
 have h1:=Q2 l h;rw [hm] at h1;have h2:cut (m++[46])=cut m++[[]]:=by show pcs [] (m++46::[])=_;rw [Rs];rfl
 rw [h2] at h1;exact Oc h1
theorem Jc {l:List (List UInt8)} (h:Gp true l=true) (hl:l≠[]):2≤(flat l).length:=by
 cases l with
 |nil=>exact absurd rfl hl
 |cons p r=>
  have h1:=wl (G8 h (Gk ..));have:0<p.length:=Bb.2 h1;simp [flat];omega
theorem Gd6 {l:List (List UInt8)} (h:Gp true l=true) (hl:l≠[]) (hlen:(flat l).length≤254):nm (flat l)=some l:=by obtain ⟨m,hm⟩:=I2 l hl;have h1:=xy hl (fun p hp=>Lv (G8 h hp)) hm;have h2:=Jc h hl;unfold nm;rw [if_neg (by intro e;rw [e] at h2;simp at h2),if_pos ⟨h2,hlen,by rw [hm];simp⟩,hm,Rx];have:pcs [] m=l:=h1;rw [this,if_pos h]
theorem Gd5 {n:List UInt8} {l:List (List UInt8)} (h:nm n=some l):(n=[46]∧l=[])∨(l≠[]∧Gp true l=true∧n=flat l∧n.length≤254):=by
 unfold nm at h;split at h
 ·rename_i e;injection h with h;exact .inl ⟨e,h.symm⟩
 ·split at h
  ·rename_i h1;right;obtain ⟨h2,h3,h4⟩:=h1;obtain ⟨m,hm⟩:∃m,n=m++[46]:=by
    refine ⟨n.dropLast,?_⟩;have:n≠[]:=by intro e;simp [e] at h2
    have h5:=List.dropLast_concat_getLast this;rw [←h5];congr 1
    ·simp
    ·have h6:n[n.length - 1]? =some (n.getLast this):=by rw [Jj];exact Az _
     rw [h6] at h4;injection h4 with h4;simp [h4]
   rw [hm,Rx] at h;split at h
   ·rename_i h5;injection h with h;subst h;refine ⟨Ht1 _ _,h5,?_,by omega⟩;rw [Q0,hm];simp
   ·cases h
  ·cases h
theorem Gx8 {n:List UInt8}:vld n=true↔nm n=some (lbl n):=by unfold vld lbl;cases nm n<;>simp
theorem vld_cases {n:List UInt8} (h:vld n=true):(n=[46]∧lbl n=[])∨(lbl n≠[]∧Gp true (lbl n)=true∧n=flat (lbl n)∧n.length≤254):=Gd5 (Gx8.1 h)
theorem qc {n:List UInt8} (h:vld n=true):Gp true (lbl n)=true:=by
 rcases vld_cases h with ⟨_,h⟩|⟨_,h,_⟩
 ·rw [h];rfl
 ·exact h
theorem T8 {n:List UInt8} (h:vld n=true):n=jn (lbl n):=by
 unfold jn;rcases vld_cases h with ⟨h1,h2⟩|⟨h1,_,h2,_⟩
 ·rw [h2,if_pos rfl];exact h1
 ·rw [if_neg h1];exact h2
theorem Jh {n:List UInt8} (h:vld n=true):n.length≤254:=by
 rcases vld_cases h with ⟨h1,_⟩|⟨_,_,_,h⟩
 ·simp [h1]
 ·exact h
theorem Qs:lbl [46]=[]:=rfl
theorem ep {l:List (List UInt8)} (h:Gp true l=true) (hl:l≠[]):flat l≠[46]:=by intro e;have:=Jc h hl;rw [e] at this;simp at this
theorem kw {n:List UInt8} (h:vld n=true):lbl n=[]↔n=[46]:=by
 rcases vld_cases h with ⟨h1,h2⟩|⟨h1,h2,h3,_⟩
 ·simp [h1,Qs]
 ·constructor
  ·intro e;exact absurd e h1
  ·intro e;rw [h3] at e;exact absurd e (ep h2 h1)
theorem Hc5 {l:List (List UInt8)} (h:Gp true l=true) (hlen:(flat l).length≤254):vld (jn l)=true∧lbl (jn l)=l:=by
 unfold jn;by_cases hl:l=[]
 ·subst hl;exact ⟨rfl,rfl⟩
 ·rw [if_neg hl];have:=Gd6 h hl hlen;exact ⟨by simp [vld,this],by simp [lbl,this]⟩
theorem Xl {a b:List UInt8} (ha:vld a=true) (hb:vld b=true) (h:lbl a=lbl b):a=b:=by rw [T8 ha,T8 hb,h]
theorem X2 (l:List (List UInt8)) (k:Nat):(flat (l.drop k)).length≤(flat l).length:=by
 have:flat l=flat (l.take k)++flat (l.drop k):=by rw [←X3,Bs]
 rw [this,Ac];omega
theorem Hc {n:List UInt8} (h:vld n=true) (k:Nat):vld (jn ((lbl n).drop k))=true∧lbl (jn ((lbl n).drop k))=(lbl n).drop k:=by
 refine Hc5 (An2 (qc h) k) ?_;rcases vld_cases h with ⟨_,h1⟩|⟨_,_,h1,h2⟩
 ·rw [h1];simp [flat]
 ·have:=X2 (lbl n) k;rw [←h1] at this;omega
theorem An0 {s:List UInt8} (h:Iz s=true):s.length≤63:=by
 unfold Iz at h;simp at h;rcases h with h|h
 ·simp [h]
 ·omega
theorem Ec1 {n:List UInt8} (h:vld n=false):lbl n=[]:=by
 unfold lbl;unfold vld at h;cases h1:nm n with
 |none=>rfl
 |some l=>rw [h1] at h;cases h
theorem Bt7 (n:List UInt8):∀x∈lbl n,Iz x=true:=fun x hx=>by
 rcases Ak (vld n) with h|h
 ·exact G8 (qc h) hx
 ·rw [Ec1 h] at hx;cases hx
theorem Nw {n:List UInt8} (h:vld n=true):0<n.length:=by
 rcases vld_cases h with ⟨h1,_⟩|⟨h1,h2,h3,_⟩
 ·simp [h1]
 ·have:=Jc h2 h1;rw [h3];omega
end Go.X.G
/- Names: what the program's functions give. -/
namespace Go.X.G
open Go Go.X
def ord (s:List UInt8):Bool:=decide (1≤s.length) && decide (s.length≤63) && s.all N3
theorem Cw3 (s:List UInt8):Iz s=(decide (s=[42])||ord s):=rfl
theorem Ey1:ord [42]=false:=by decide
theorem jd (s:List UInt8) (N:Nat) (hN:s.length<N) (hs:s.length≤9223372036854775807):
  Cq9.ev S N [.s s]=some (if s.all N3=true then .yld 0 [] else .ret [.b false]):=by
 refine Ew s (fun i=>[.i .i64 (i:Int)]) (fun i r=>if r.all N3=true then .yld 0 [] else .ret [.b false]) rfl hN (fun i c r hd hi hc=> ?_) ?_
 ·have key:ol.ev S N ([.s s]++[.i .i64 (i:Int)])=some (if N3 c=true then .yld 1 [.i .i64 ((i:Int)+1)] else .ret [.b false]):=by
   simp (disch:=omega) only [Zb,hc,xe,EVP,EV,simprocAttr];unfold N3
   grind
  rw [key];rcases Ak (N3 c) with h|h<;>simp [h,Out.goes]
 ·simp (disch:=omega) [Zb,xe,EVP,EV,simprocAttr,Out.goes]
theorem J9 (s:List UInt8) (hs:s.length≤9223372036854775807):S dy 1 [.s s]=some [.b (ord s)]:=by
 refine Hp6 (N:=s.length+1) rfl ?_;unfold ord;by_cases h1:s=[]
 ·subst h1;simp (disch:=omega) [Zb,xe,EVP,EV,simprocAttr]
 ·have h2:1≤s.length:=Bb.2 h1;by_cases h3:s.length≤63
  ·simp (disch:=omega) only [Zb,jd,h1,xe,EVP,EV,simprocAttr];cases s.all N3<;>simp [h2,h3]
  ·simp (disch:=omega) only [Zb,h1,xe,EVP,EV,simprocAttr];simp [h3]
def okP (i:Nat) (p:List UInt8):Bool:=ord p||(decide (i=0) && decide (p=[42]))
def Ez0:Nat→List (List UInt8)→Bool
 |_,[]=>true
 |i,p::r=>okP i p && Ez0 (i+1) r
theorem bk:∀(l:List (List UInt8)) (i:Nat),Ez0 i l=Gp (decide (i=0)) l
 |[],_=>rfl
 |p::r,i=>by
  have h1:=bk r (i+1);simp only [Ez0,Gp,h1,okP,Cw3];by_cases h2:p=[42]
  ·subst h2;by_cases h3:i=0<;>simp [Ey1,h3]
  ·simp [h2]
theorem Dg1 (p q:PV) (l:List (List UInt8)) (hl:l.length≤1000000) (hw:∀x∈l,x.length≤9223372036854775807) (N:Nat) (hN:l.length<N):
  Et2.ev S N [p,q,Bd l]=some (if Ez0 0 l=true then .yld 0 [] else .ret [.b false]):=by
 refine Ew l (fun i=>[.i .i64 (i:Int)]) (fun i r=>if Ez0 i r=true then .yld 0 [] else .ret [.b false]) rfl hN (fun i c r hd hi hc=> ?_) ?_
 ·have hcw:=hw c (A9 hc);have key:Dd0.ev S N ([p,q,Bd l]++[.i .i64 (i:Int)])=some (if okP i c=true then .yld 1 [.i .i64 ((i:Int)+1)] else .ret [.b false]):=by
   rcases Ak (ord c) with h1|h1
   ·simp (disch:=omega) only [Wx,J9,hc,h1,xe,EVP,EV,simprocAttr];simp [okP,h1]
   ·by_cases h2:i=0
    ·subst h2;by_cases h3:c=[42]
     ·subst h3;simp (disch:=omega) only [Wx,J9,hc,h1,xe,EVP,EV,simprocAttr];simp [okP]
     ·simp (disch:=omega) only [Wx,J9,hc,h1,h3,xe,EVP,EV,simprocAttr];simp [okP,h1,h3]
    ·simp (disch:=omega) only [Wx,J9,hc,h1,xe,EVP,EV,simprocAttr];simp [okP,h1,h2]
  rw [key];rcases Ak (okP i c) with h|h<;>simp [h,Ez0,Out.goes]
 ·simp (disch:=omega) only [Wx,xe,EVP,EV,simprocAttr];simp [Out.goes,Ez0]
theorem W7:∀(m cur:List UInt8) (x:List UInt8),x∈pcs cur m→x.length≤cur.length+m.length
 |[],cur,x,h=>by simp [pcs] at h;subst h;simp
 |c::r,cur,x,h=>by
  simp only [pcs] at h;split at h
  ·rcases Am.1 h with rfl|h
   ·omega
   ·have:=W7 r [] x h;simp at this ⊢;omega
  ·have:=W7 r _ x h;simp at this ⊢;omega
theorem Eg2 (m x:List UInt8) (h:x∈cut m):x.length≤m.length:=by simpa using W7 m [] x h
theorem Ig8 (m:List UInt8):(cut m).length≤m.length+1:=by have:=Cy9 m;have:m.count 46≤m.length:=List.count_le_length;omega
theorem Bv9 (n:List UInt8):([46]:List UInt8).isSuffixOf n=true↔∃m,n=m++[46]:=by rw [Kt];exact ⟨fun ⟨m,h⟩=>⟨m,h.symm⟩,fun ⟨m,h⟩=>⟨m,h.symm⟩⟩
theorem Dn0 (m:List UInt8) (hm:m≠[]) (hl:m.length≤253):vld (m++[46])=Ez0 0 (cut m):=by have h1:m++[46]≠[46]:=fun e=>hm (Oc (bs:=[46]) (by simpa using e));have h2:0<m.length:=Bb.2 hm;unfold vld nm;rw [if_neg h1,if_pos ⟨by simp;omega,by simp;omega,by simp⟩,Rx,bk];have e:pcs [] m=cut m:=rfl;have e2:Gp (decide ((0:Nat)=0)) (cut m)=Gp true (cut m):=rfl;rw [e,e2];cases Gp true (cut m)<;>rfl
theorem Ec0 (m:List UInt8) (h:vld (m++[46])=true) (hm:m≠[]):lbl (m++[46])=cut m:=by
 rcases vld_cases h with ⟨h1,_⟩|⟨h1,h2,h3,_⟩
 ·exact absurd (Oc (bs:=[46]) (by simpa using h1)) hm
 ·exact (xy h1 (fun p hp=>Lv (G8 h2 hp)) h3.symm).symm
theorem Br (n:List UInt8) (hn:n.length≤9223372036854775807):S Kj 1 [.s n]=some [.b (vld n)]:=by
 refine Jv3 (N:=300) rfl ?_;by_cases h0:n=[46]
 ·subst h0;simp (disch:=omega) only [Wx,xe,EVP,EV,simprocAttr];rfl
 ·by_cases h1:255≤n.length
  ·have hv:vld n=false:=by rw [pd];intro h;have:=Jh h;omega
   simp (disch:=omega) only [Wx,h0,hv,xe,EVP,EV,simprocAttr]
  ·rcases Ak (([46]:List UInt8).isSuffixOf n) with h2|h2
   ·obtain ⟨m,rfl⟩:=(Bv9 n).1 h2;have hm:m≠[]:=fun e=>h0 (by simp [e]);have hl:(m++[46]).length=m.length+1:=by simp
    have hml:m.length≤1000000:=by omega
    have e:List.drop 0 (List.take (((m++[46]).length:Int) - 1).toNat (m++[46]))=m:=by
     have:(((m++[46]).length:Int) - 1).toNat=m.length:=by omega
     rw [this];simp
    have hc:=Ig8 m;have hv:=Dn0 m hm (by omega);have hk:=Dg1 (.s (m++[46])) (.b true) (cut m) (by omega) (fun x hx=>by have:=Eg2 m x hx;omega) 300 (by omega);simp (disch:=omega) only [Wx,Lm,f5,e,hk,h0,h2,xe,EVP,EV,simprocAttr];rw [hv];cases Ez0 0 (cut m)<;>simp
   ·have hv:vld n=false:=by
     rw [pd];intro h;rcases vld_cases h with ⟨h3,_⟩|⟨h3,_,h5,_⟩
     ·exact h0 h3
     ·obtain ⟨m,hm⟩:=I2 _ h3;have:=(Bv9 n).2 ⟨m,h5.trans hm⟩;rw [h2] at this;cases this
    simp (disch:=omega) only [Wx,Lm,h0,h2,hv,xe,EVP,EV,simprocAttr]
theorem Py (n:List UInt8) (hn:n.length≤9223372036854775807):S js 1 [.s n]=some [Bd (lbl n)]:=by
 refine Jq0 (N:=1) rfl ?_;by_cases h0:n=[46]
 ·subst h0;simp (disch:=omega) only [Gx2,Qs,xe,EVP,EV,simprocAttr]
 ·rcases Ak (vld n) with h1|h1
  ·obtain ⟨m,hm,rfl⟩:∃m,m≠[]∧n=m++[46]:=by
    rcases vld_cases h1 with ⟨h3,_⟩|⟨h3,_,h5,_⟩
    ·exact absurd h3 h0
    ·obtain ⟨m,hm⟩:=I2 _ h3;exact ⟨m,fun e=>h0 (by rw [h5,hm,e];rfl),h5.trans hm⟩
   have hl:(m++[46]).length=m.length+1:=by simp
   have e:List.drop 0 (List.take (((m++[46]).length:Int) - 1).toNat (m++[46]))=m:=by
    have:(((m++[46]).length:Int) - 1).toNat=m.length:=by omega
    rw [this];simp
   have hl2:=Jh h1;have e2:=Ec0 m h1 hm;simp (disch:=omega) only [Gx2,Br,f5,e,e2,h0,h1,xe,EVP,EV,simprocAttr]
  ·have e:lbl n=[]:=by
    unfold lbl;unfold vld at h1;cases h:nm n with
    |none=>rfl
    |some l=>rw [h] at h1;cases h1
   simp (disch:=omega) only [Gx2,Br,h0,h1,e,xe,EVP,EV,simprocAttr]
theorem N9 (p:List UInt8) (l:List (List UInt8)):flat (p::l)=p++46::flat l:=by simp [flat]
def O5 (n:List UInt8):List UInt8:=if vld n=true∧n≠[46] then jn ((lbl n).drop 1) else []
def wm (n:List UInt8):Bool:=vld n && !decide (n=[46])
theorem V6 (n:List UInt8) (hn:n.length≤9223372036854775807):S Vv 1 [.s n]=some [.s (O5 n), .b (wm n)]:=by
 refine Hr1 (N:=1) rfl ?_;unfold O5 wm;by_cases h0:n=[46]
 ·subst h0;simp (disch:=omega) only [qw,xe,EVP,EV,simprocAttr];simp
 ·rcases Ak (vld n) with h1|h1
  ·rcases vld_cases h1 with ⟨h3,_⟩|⟨h3,h4,h5,h6⟩
   ·exact absurd h3 h0
   ·cases hl:lbl n with
    |nil=>exact absurd hl h3
    |cons p r=>
     rw [hl] at h4 h5;have hp:=Lv (G8 h4 (Gk ..));have hi:=gj n 46;have hc:(((46:UInt8).toNat:Nat):Int)=46:=rfl;have hx:Lib.indexByte n 46=(p.length:Int):=by rw [h5,N9];exact Jn 46 _ p hp
     rw [hc,hx] at hi;have hlen:n.length=p.length+1+(flat r).length:=by rw [h5,N9];simp;omega
     have e:List.drop ((p.length:Int)+1).toNat (List.take n.length n)=flat r:=by
      have:((p.length:Int)+1).toNat=p.length+1:=by omega
      rw [this,Dq,h5,N9];simp
     by_cases h7:r=[]
     ·subst h7;have e2:flat []=[]:=rfl;simp (disch:=omega) only [qw,Br,hi,e,e2,h0,h1,xe,EVP,EV,simprocAttr];simp [jn]
     ·have e2:¬flat r=[]:=by obtain ⟨m,hm⟩:=I2 r h7;rw [hm];simp
      simp (disch:=omega) only [qw,Br,hi,e,e2,h0,h1,xe,EVP,EV,simprocAttr];simp [jn,h7]
  ·simp (disch:=omega) only [qw,Br,h0,h1,xe,EVP,EV,simprocAttr];simp
def lr (n top:List UInt8):Bool:=(decide (top=[46])||decide (n=top))||(46::top).isSuffixOf n
theorem lp (n top:List UInt8) (hn:n.length≤9223372036854775807) (ht:top.length≤1000000):S Al3 2 [.s n, .s top]=some [.b (lr n top)]:=by
 refine Jq2 (N:=1) rfl ?_;unfold lr;have h0:([46]:List UInt8).length=1:=rfl;by_cases h1:top=[46]<;>by_cases h2:n=top<;>simp (disch:=omega) only [Ip0,Lm,h1,h2,xe,EVP,EV,simprocAttr]
 all_goals simp
theorem lh {a b:List (List UInt8)} (ha:Gp true a=true) (hb:Gp true b=true) (h:(46::flat b)<:+flat a):b<:+a:=by obtain ⟨p,hp⟩:=h;have h1:=Q2 a (fun x hx=>Lv (G8 ha hx));have h2:=Q2 b (fun x hx=>Lv (G8 hb hx));rw [←hp] at h1;have h3:cut (p++46::flat b)=cut p++cut (flat b):=Rs (flat b) p [];rw [h3,h2,←As] at h1;exact ⟨cut p,Oc h1⟩
theorem xk {n top:List UInt8} (hn:vld n=true) (ht:vld top=true):lr n top=true↔lbl top<:+lbl n:=by
 unfold lr;simp only [Ap,decide_eq_true_eq,Kt];constructor
 ·rintro ((rfl|rfl)|h)
  ·rw [Qs];exact List.nil_suffix
  ·exact List.suffix_refl _
  ·rcases vld_cases ht with ⟨h1,h2⟩|⟨h1,h2,h3,_⟩
   ·rw [h2];exact List.nil_suffix
   ·rcases vld_cases hn with ⟨h5,_⟩|⟨h5,h6,h7,_⟩
    ·rw [h5] at h;have h9:=h.length_le;have h8:=Jc h2 h1;rw [←h3] at h8;simp only [A3,Bf] at h9;omega
    ·rw [h3,h7] at h;exact lh h6 h2 h
 ·intro h;obtain ⟨p,hp⟩:=h;rcases vld_cases ht with ⟨h1,h2⟩|⟨h1,h2,h3,_⟩
  ·exact .inl (.inl h1)
  ·by_cases hp0:p=[]
   ·left;right;subst hp0;exact Xl hn ht hp.symm
   ·right;rcases vld_cases hn with ⟨_,h5⟩|⟨h5,h6,h7,_⟩
    ·rw [h5] at hp;exact absurd (List.append_eq_nil_iff.1 hp).1 hp0
    ·obtain ⟨m,hm⟩:=I2 p hp0;rw [h7,←hp,X3,hm];exact ⟨m,by rw [As,←h3];simp⟩
theorem S5 {α:Type} [DecidableEq α]:∀(a b:List α),Pw a b=b.length↔b<+:a
 |[],[]=>by simp [Pw]
 |[],y::ys=>by simp [Pw]
 |x::xs,[]=>by simp [Pw]
 |x::xs,y::ys=>by
  have:=S5 xs ys;simp only [Pw];split
  ·rename_i h;subst h;simp [this,Hg]
  ·rename_i h;simp [Hg,Ne.symm h]
theorem Z9 (a b:List (List UInt8)):Ft a b=b.length↔b<:+a:=by unfold Ft;have:=S5 a.reverse b.reverse;rw [List.length_reverse] at this;rw [this,Gw6]
theorem Dn {n top:List UInt8}:under n top=true↔vld n=true∧vld top=true∧lbl top<:+lbl n:=by unfold under;simp [Z9,and_assoc]
theorem Ab4 {n top:List UInt8} (hn:vld n=true) (ht:vld top=true):lr n top=under n top:=by rw [C2,xk hn ht,Dn];simp [hn,ht]
theorem E7 (n top:List UInt8) (hn:n.length≤9223372036854775807) (ht:top.length≤9223372036854775807):S O9 2 [.s n, .s top]=some [.b (under n top)]:=by
 refine Jx7 (N:=1) rfl ?_;rcases Ak (vld n) with h1|h1
 ·rcases Ak (vld top) with h2|h2
  ·have h3:=Jh h2;simp (disch:=omega) only [Gx5,Br,lp,h1,h2,xe,EVP,EV,simprocAttr];rw [Ab4 h1 h2]
  ·have h3:under n top=false:=by simp [under,h2]
   simp (disch:=omega) only [Gx5,Br,h1,h2,h3,xe,EVP,EV,simprocAttr]
 ·have h3:under n top=false:=by simp [under,h1]
  simp (disch:=omega) only [Gx5,Br,h1,h3,xe,EVP,EV,simprocAttr]
end Go.X.G
/- Names: order, common ancestors, wildcards. -/
namespace Go.X.G
open Go Go.X
theorem P9:∀(a:List UInt8),Op.bytesLess a a=false
 |[]=>rfl
 |a::x=>by simp [Op.bytesLess,P9 x]
theorem Ld:∀(a b:List UInt8),Lib.compareBytes a b=cmpS a b
 |[],[]=>rfl
 |[],_::_=>rfl
 |_::_,[]=>rfl
 |a::x,b::y=>by
  have ih:=Ld x y;unfold cmpS at ih ⊢;simp only [Lib.compareBytes,Op.bytesLess,ih];by_cases h1:a<b
  ·simp [h1]
  ·by_cases h2:b<a
   ·have h3:a≠b:=fun e=>by subst e;exact h1 h2
    simp [h1,h2,h3]
   ·have h3:a=b:=UInt8.le_antisymm (UInt8.not_lt.1 h2) (UInt8.not_lt.1 h1);subst h3;simp [h1]
theorem H3 {a b:List UInt8}:cmpS a b=0↔a=b:=by
 unfold cmpS;by_cases h:a=b
 ·subst h;simp [P9]
 ·cases h2:Op.bytesLess a b<;>simp [h]
theorem Kz (x y:List UInt8):S bz 2 [.s x, .s y]=some [.i .i64 (cmpS x y)]:=by rw [o5,Ld]
def Q4:List (List UInt8)→List (List UInt8)→Option Int
 |x::xs,y::ys=>if x=y then Q4 xs ys else some (cmpS x y)
 |_,_=>none
theorem Cz4:∀(a b:List (List UInt8)),Q4 a b=if Pw a b<a.length∧Pw a b<b.length then some (cmpS (a.getD (Pw a b) []) (b.getD (Pw a b) [])) else none
 |[],b=>by simp [Q4,Pw]
 |x::xs,[]=>by simp [Q4,Pw]
 |x::xs,y::ys=>by
  have ih:=Cz4 xs ys;simp only [Q4,Pw];by_cases h:x=y
  ·simp only [if_pos h,ih];simp
  ·simp [h]
def mj (a b:List (List UInt8)):Int:=match Q4 a.reverse b.reverse with
 |some c=>c
 |none=>if a.length<b.length then -1 else if b.length<a.length then 1 else 0
theorem w6 (a:List (List UInt8)) (k:Nat) (h:k<a.length):a.reverse.getD k []=a.getD (a.length - 1 - k) []:=by simp [Bl,List.getElem?_reverse h]
theorem S6 {a b:List UInt8} (ha:vld a=true) (hb:vld b=true):Hd a b=mj (lbl a) (lbl b):=by
 unfold Hd mj;rw [Cz4];have e:Pw (lbl a).reverse (lbl b).reverse=Ft (lbl a) (lbl b):=rfl;rw [e,ha,hb];simp only [List.length_reverse,Bool.and_self,if_true];by_cases h:Ft (lbl a) (lbl b)<(lbl a).length∧Ft (lbl a) (lbl b)<(lbl b).length
 ·rw [if_pos h,if_pos h,w6 _ _ h.1,w6 _ _ h.2]
 ·rw [if_neg h,if_neg h]
theorem o7 (a b:List (List UInt8)) (p1 p2 p3 p4:PV) (ha:a.length≤1000) (hb:b.length≤1000) (N:Nat) (hN:1001<N):
  Ck2.ev S N [p1,p2,p3,p4,Bd a,Bd b]=some (match Q4 a.reverse b.reverse with|some c=> .ret [.i .i64 c]|none=> .yld 0 []):=by
 have key:=Js (fn:=S) (N:=N) (η:=[p1,p2,p3,p4,Bd a,Bd b]) (id:=1) (init:=[(.c (.i .i64 (1)))]) (body:=Dd1) (α:=Nat) (fun k=>[.i .i64 ((k:Int)+1)])
  (fun k=>match Q4 (a.reverse.drop k) (b.reverse.drop k) with|some c=> .ret [.i .i64 c]|none=> .yld 0 []) (fun k=>k≤a.length∧k≤b.length) (fun k=>a.length - k) 0 rfl ⟨Cc _,Cc _⟩ (by omega) ?_
 ·simpa [Ck2] using key
 ·rintro k ⟨h1,h2⟩;by_cases h3:k<a.length
  ·by_cases h4:k<b.length
   ·have e1:((a.length:Int) - ((k:Int)+1)).toNat=a.length - 1 - k:=by omega
    have e2:((b.length:Int) - ((k:Int)+1)).toNat=b.length - 1 - k:=by omega
    have g1:a[a.length - 1 - k]? =some (a[a.length - 1 - k]'(by omega)):=Az (by omega);have g2:b[b.length - 1 - k]? =some (b[b.length - 1 - k]'(by omega)):=Az (by omega);have d1:a.reverse.drop k=(a[a.length - 1 - k]'(by omega))::a.reverse.drop (k+1):=by rw [Ct (by simpa using h3)];simp
    have d2:b.reverse.drop k=(b[b.length - 1 - k]'(by omega))::b.reverse.drop (k+1):=by rw [Ct (by simpa using h4)];simp
    rw [d1,d2];generalize (a[a.length - 1 - k]'(by omega))=x at g1;generalize (b[b.length - 1 - k]'(by omega))=y at g2;simp only [Q4];by_cases h:x=y
    ·left;have h5:cmpS x y=0:=H3.2 h;refine ⟨k+1,?_,⟨by omega,by omega⟩,by omega,by rw [if_pos h]⟩;simp (disch:=omega) only [iw,Kz,e1,e2,g1,g2,h5,xe,EVP,EV,simprocAttr]
    ·right;have h5:¬cmpS x y=0:=fun e=>h (H3.1 e);rw [if_neg h];simp (disch:=omega) only [iw,Kz,e1,e2,g1,g2,h5,xe,EVP,EV,simprocAttr];simp [Out.goes]
   ·right;have d2:b.reverse.drop k=[]:=G2 (by simp;omega);have z:Q4 (a.reverse.drop k) []=none:=by cases a.reverse.drop k<;>rfl
    rw [d2,z];simp (disch:=omega) [iw,xe,EVP,EV,simprocAttr,Out.goes]
  ·right;have d1:a.reverse.drop k=[]:=G2 (by simp;omega);have z:Q4 [] (b.reverse.drop k)=none:=rfl;rw [d1,z];simp (disch:=omega) [iw,xe,EVP,EV,simprocAttr,Out.goes]
theorem Hz (a b:List UInt8) (hn:a.length≤9223372036854775807) (ht:b.length≤9223372036854775807):S Mr 2 [.s a, .s b]=some [.i .i64 (Hd a b)]:=by
 refine Jx6 (N:=1002) rfl ?_;have h1:=G7 a;have h2:=G7 b;rcases Ak (vld a) with h3|h3<;>rcases Ak (vld b) with h4|h4
 ·rw [S6 h3 h4];unfold mj;have hk:=o7 (lbl a) (lbl b) (.s a) (.s b) (.b true) (.b true) (by omega) (by omega) 1002 (by omega);cases h5:Q4 (lbl a).reverse (lbl b).reverse with
  |some c=>
   rw [h5] at hk;simp (disch:=omega) only [iw,Br,Py,hk,h3,h4,xe,EVP,EV,simprocAttr]
  |none=>
   rw [h5] at hk;simp (disch:=omega) only [iw,Br,Py,hk,h3,h4,xe,EVP,EV,simprocAttr]
   grind
 all_goals unfold Hd
 all_goals simp (disch:=omega) only [iw,Br,Kz,h3,h4,xe,EVP,EV,simprocAttr]
 all_goals simp
def Dv (a b:List UInt8):List UInt8:=if vld a=true∧vld b=true then jn ((lbl a).drop ((lbl a).length - Ft (lbl a) (lbl b))) else []
theorem Zm {α:Type} [DecidableEq α]:∀(a b:List α) (j:Nat),j≤a.length→(a.take j<+:b↔j≤Pw a b)
 |_,_,0,_=>by simp
 |[],_,j+1,h=>by simp at h
 |x::xs,[],j+1,h=>by simp [Pw]
 |x::xs,y::ys,j+1,h=>by
  have:=Zm xs ys j (by simpa using h);simp only [List.take_succ_cons,Pw,Hg];by_cases hxy:x=y
  ·simp [hxy,this]
  ·simp [hxy]
theorem Cy7 (a b:List (List UInt8)) (k:Nat) (h:k≤a.length):a.drop k<:+b↔a.length - k≤Ft a b:=by unfold Ft;rw [←Zm _ _ _ (by simp),←Gw6,List.reverse_drop]
theorem Gd9 (l:List (List UInt8)) (hl:l.length≤1000) (hw:∀x∈l,x.length≤1000) (N:Nat) (hN:l.length<N):
  kg.ev S N [Bd l]=some (.yld 0 [.s (flat l)]):=by
 have key:kg.ev S N [Bd l]=some (.yld 0 [.s ([]++flat l)]):=by
  refine Fx l (fun i (g:List UInt8)=>[.s g, .i .i64 (i:Int)]) (fun i g r=> .yld 0 [.s (g++flat r)]) (fun i g=>g.length≤1001*i) [] rfl (Af _) hN (fun i g c r hd hi hc hI=> ?_) (fun g hI=> ?_)
  ·left;have h1:=hw c (A9 hc);have h0:([46]:List UInt8).length=1:=rfl;refine ⟨g++c++[46],?_,by simp;omega,by simp [flat]⟩;simp (disch:=first|omega|(simp only [Ac];omega)) only [qv,hc,xe,EVP,EV,simprocAttr]
  ·simp (disch:=omega) only [qv,xe,EVP,EV,simprocAttr];simp [flat,Out.goes]
 simpa using key
theorem Gd8 (l:List (List UInt8)) (hl:l.length≤1000) (hw:∀x∈l,x.length≤1000):S c8 1 [Bd l]=some [.s (jn l)]:=by
 refine Hn1 (N:=l.length+1) rfl ?_;unfold jn;by_cases h:l=[]
 ·subst h;simp (disch:=first|omega|(simp;omega)) only [qv,xe,EVP,EV,simprocAttr]
 ·have h1:0<l.length:=Bb.2 h;have hk:=Gd9 l hl hw (l.length+1) (by omega);simp (disch:=omega) only [qv,hk,h,xe,EVP,EV,simprocAttr]
theorem Bt5 (n:List UInt8):∀x∈lbl n,x.length≤1000:=fun x hx=>by have:=An0 (Bt7 n x hx);omega
theorem As6 (a b:List UInt8) (ha:a.length≤9223372036854775807) (hb:b.length≤9223372036854775807):S Al1 2 [.s a, .s b]=some [.s (Dv a b)]:=by
 refine Jk1 (N:=1) rfl ?_;unfold Dv;have h1:=G7 a;have h2:=G7 b;have h5:=Wr (lbl a) (lbl b);rcases Ak (vld a) with h3|h3<;>rcases Ak (vld b) with h4|h4
 ·have e:(((lbl a).length:Int) - (Ft (lbl a) (lbl b):Int)).toNat=(lbl a).length - Ft (lbl a) (lbl b):=by omega
  have e2:List.drop ((lbl a).length - Ft (lbl a) (lbl b)) (List.take (lbl a).length (lbl a))=(lbl a).drop ((lbl a).length - Ft (lbl a) (lbl b)):=by rw [Dq]
  have hk:=Gd8 ((lbl a).drop ((lbl a).length - Ft (lbl a) (lbl b))) (by simp;omega) (fun x hx=>Bt5 a x (Gb hx));simp (disch:=omega) only [Hx8,split_ok,Wp,hk,e,e2,h3,h4,xe,EVP,EV,simprocAttr];simp
 all_goals simp (disch:=omega) only [Hx8,split_ok,h3,h4,xe,EVP,EV,simprocAttr]
 all_goals simp
theorem Cv6 {n:List UInt8} (h:vld n=true) (k:Nat):(jn ((lbl n).drop k)).length≤254:=Jh (Hc h k).1
theorem Dh1 (a b:List UInt8) (p1 p2 p3 p4:PV) (ha:vld a=true) (hb:vld b=true) (N:Nat) (hN:300<N) (hp1:p1= .s a) (hp2:p2= .s b):
  km.ev S N [p1,p2,p3,p4]=some (.yld 0 [.s (Dv a b)]):=by
 subst hp1;subst hp2;have hl:=G7 a;have hs:=Wr (lbl a) (lbl b);have hla:=Jh ha;have hlb:=Jh hb;have ec:Dv a b=jn ((lbl a).drop ((lbl a).length - Ft (lbl a) (lbl b))):=by unfold Dv;rw [if_pos ⟨ha,hb⟩]
 have key:=Js (fn:=S) (N:=N) (η:=[.s a, .s b,p3,p4]) (id:=1) (init:=[(.v 0)]) (body:=od) (α:=Nat) (fun k=>[.s (jn ((lbl a).drop k))])
  (fun k=> .yld 0 [.s (Dv a b)]) (fun k=>k+Ft (lbl a) (lbl b)≤(lbl a).length) (fun k=>(lbl a).length - k) 0 (by
   have:jn ((lbl a).drop 0)=a:=by rw [D3];exact (T8 ha).symm
   rw [this];rfl) (by omega) (by omega) ?_
 ·simpa [km] using key
 ·intro k hk;obtain ⟨hv,hlk⟩:=Hc ha k;have hlen:=Cv6 ha k;have he:lr b (jn ((lbl a).drop k))=true↔(lbl a).length - k≤Ft (lbl a) (lbl b):=by rw [xk hb hv,hlk,Cy7 _ _ _ (by omega)]
  by_cases h:(lbl a).length - k≤Ft (lbl a) (lbl b)
  ·right;have h1:=he.2 h;have h2:(lbl a).length - Ft (lbl a) (lbl b)=k:=by omega
   simp (disch:=omega) only [Zy,lp,h1,xe,EVP,EV,simprocAttr];rw [ec,h2];simp [Out.goes]
  ·left;have h1:lr b (jn ((lbl a).drop k))=false:=by rw [pd];intro h2;exact h (he.1 h2)
   have h2:O5 (jn ((lbl a).drop k))=jn ((lbl a).drop (k+1)):=by
    unfold O5;have h3:jn ((lbl a).drop k)≠[46]:=by intro e;have:=(kw hv).2 e;rw [hlk] at this;have:=congrArg List.length this;simp at this;omega
    rw [if_pos ⟨hv,h3⟩,hlk,C0]
   refine ⟨k+1,?_,by omega,by omega,rfl⟩;simp (disch:=omega) only [Zy,lp,V6,h1,h2,xe,EVP,EV,simprocAttr]
theorem As5 (a b:List UInt8) (ha:a.length≤9223372036854775807) (hb:b.length≤9223372036854775807):S U6 2 [.s a, .s b]=some [.s (Dv a b)]:=by
 refine Hn3 (N:=301) rfl ?_;rcases Ak (vld a) with h3|h3
 ·rcases Ak (vld b) with h4|h4
  ·have hk:=Dh1 a b (.s a) (.s b) (.b true) (.b true) h3 h4 301 (by omega) rfl rfl;simp (disch:=omega) only [Zy,Br,hk,h3,h4,xe,EVP,EV,simprocAttr]
  ·simp (disch:=omega) only [Zy,Br,h3,h4,xe,EVP,EV,simprocAttr];simp [Dv,h4]
 ·simp (disch:=omega) only [Zy,Br,h3,xe,EVP,EV,simprocAttr];simp [Dv,h3]
def Eb5 (n:List UInt8):Int:=if n=[46] then 1 else if vld n=true then (n.length:Int)+1 else 0
theorem Dg5 (n:List UInt8) (hn:n.length≤9223372036854775807):S U5 1 [.s n]=some [.i .i64 (Eb5 n)]:=by
 refine Hn2 (N:=1) rfl ?_;unfold Eb5;by_cases h:n=[46]
 ·simp (disch:=omega) only [Bq3,h,xe,EVP,EV,simprocAttr]
 ·rcases Ak (vld n) with h3|h3
  ·have:=Jh h3;simp (disch:=omega) only [Bq3,Br,h,h3,xe,EVP,EV,simprocAttr]
  ·simp (disch:=omega) only [Bq3,Br,h,h3,xe,EVP,EV,simprocAttr]
def K3 (n:List UInt8):List UInt8:=if n=[46] then [42,46] else [42,46]++n
def Jz (n:List UInt8):Bool:=vld n && !decide ((lbl n)[0]? =some [42]) && vld (K3 n)
def Nf (n:List UInt8):List UInt8:=if Jz n=true then K3 n else []
theorem El2 (n:List UInt8) (hn:n.length≤1000000):S Bp4 1 [.s n]=some [.s (Nf n), .b (Jz n)]:=by
 refine Jw4 (N:=1) rfl ?_;have h0:([42,46]:List UInt8).length=2:=rfl;have hl:(K3 n).length≤9223372036854775807:=by
  unfold K3;split
  ·simp
  ·rw [Ac,h0];omega
 have h1:=G7 n;unfold Nf Jz;rcases Ak (vld n) with h3|h3
 ·have tail:∀(q:List (List UInt8)),(¬q[0]? =some [42])→T.ev S 1 Cb9 [.s n,Bd q, .b true]=some (.ret (if vld (K3 n)=true then [.s (K3 n), .b true] else [.s [], .b false])):=by
   intro q _;unfold K3 at hl ⊢;by_cases h4:n=[46]
   ·simp only [if_pos h4] at hl ⊢;rcases Ak (vld [42,46]) with h5|h5<;>simp (disch:=omega) only [iq,Ty,h4,h5,xe,EVP,EV,simprocAttr]
   ·simp only [if_neg h4] at hl ⊢;rcases Ak (vld ([42,46]++n)) with h5|h5<;>simp (disch:=omega) only [iq,Ty,h4,xe,EVP,EV,simprocAttr]<;>simp only [B4,Cb] at h5 hl<;>simp (disch:=omega) only [iq,Ty,h5,xe,EVP,EV,simprocAttr]<;>simp
  cases hq:lbl n with
  |nil=>
   have ht:=tail [] (by simp);simp (disch:=first|omega|(simp;omega)) only [↓ht,iq,split_ok,hq,h3,xe,EVP,EV,simprocAttr];rcases Ak (vld (K3 n)) with h5|h5<;>simp [h5]
  |cons p r=>
   have h6:0<((p::r).length:Int):=by simp only [A3];omega
   by_cases h7:p=[42]
   ·subst h7;simp (disch:=first|omega|(simp only [A3];omega)) only [iq,split_ok,hq,h3,xe,EVP,EV,simprocAttr];simp
   ·have ht:=tail (p::r) (by simpa using h7);simp (disch:=first|omega|(simp only [A3];omega)) only [↓ht,iq,split_ok,hq,h3,h7,xe,EVP,EV,simprocAttr];rcases Ak (vld (K3 n)) with h5|h5<;>simp [h5,h7]
 ·simp (disch:=omega) only [iq,split_ok,h3,xe,EVP,EV,simprocAttr];simp
theorem Uv {n:List UInt8} (h:vld n=true):(n[0]? =some 42↔(lbl n)[0]? =some [42]):=by
 rcases vld_cases h with ⟨h1,h2⟩|⟨h1,h2,h3,_⟩
 ·subst h1;simp [Qs]
 ·cases hl:lbl n with
  |nil=>exact absurd hl h1
  |cons p r=>
   rw [hl] at h2 h3;have hp:=G8 h2 (Gk ..);have hne:=wl hp;cases p with
   |nil=>exact absurd rfl hne
   |cons c q=>
    rw [h3,N9];simp only [B4,Cj,Aq];constructor
    ·rintro rfl;unfold Iz at hp;simp at hp;rcases hp with h|h
     ·rw [h]
     ·exfalso;have:N3 42=false:=by decide
      rw [this] at h;simp at h
    ·intro h;injection h
theorem Az5 (n:List UInt8) (hn:n.length≤1000000):S Bm9 1 [.s n]=some [.s (Nf n), .b (Jz n)]:=by
 refine Jq3 (N:=1) rfl ?_;have h0:([42,46]:List UInt8).length=2:=rfl;have hl:(K3 n).length≤9223372036854775807:=by
  unfold K3;split
  ·simp
  ·rw [Ac,h0];omega
 unfold Nf Jz;have tail:T.ev S 1 Cc6 [.s n, .s (K3 n)]=some (.ret [.s (Nf n), .b (Jz n)]):=by
  unfold Nf Jz;rcases Ak (vld n) with h3|h3
  ·have h4:=Uv h3;have h5:=Az (Nw h3);have h6:=Gy0 (n[0]'(Nw h3)) 42 (by omega);by_cases h7:(lbl n)[0]? =some [42]
   ·have h8:=h4.2 h7;rw [h5] at h8;injection h8 with h8;have h9:((n[0]'(Nw h3)).toNat:Int)=42:=h6.2 h8;simp (disch:=omega) only [Dm7,Br,h3,h5,xe,EVP,EV,simprocAttr];simp [h7]
   ·have h8:¬n[0]? =some 42:=fun e=>h7 (h4.1 e);rw [h5] at h8;have h9:¬((n[0]'(Nw h3)).toNat:Int)=42:=fun e=>h8 (by rw [h6.1 e];rfl);rcases Ak (vld (K3 n)) with ha|ha<;>simp (disch:=omega) only [Dm7,Br,h3,h5,ha,xe,EVP,EV,simprocAttr]<;>simp [h7]
  ·simp (disch:=omega) only [Dm7,Br,h3,xe,EVP,EV,simprocAttr];simp
 unfold Nf Jz at tail;obtain ⟨y0,y1,y2,y3,y4,y5,y6,y7,yt⟩:=Dm7;by_cases h4:n=[46]
 ·have e:K3 n=[42,46]:=by simp [K3,h4]
  rw [e] at tail ⊢;subst h4;simp (disch:=omega) only [y0,y1,y2,yt,xe,EVP,EV,simprocAttr];rw [tail];simp
 ·have e:K3 n=42::46::n:=by simp [K3,h4]
  rw [e] at tail ⊢;simp (disch:=omega) only [y0,y1,y2,yt,h4,xe,EVP,EV,simprocAttr];rw [tail];simp
end Go.X.G
/- Data of records: what the reference's functions give. -/
namespace Go.X.G
open Go Go.X
theorem t15 (t:Int):t=1∨t=2∨t=5∨t=6∨t=12∨t=15∨t=16∨t=28∨t=33∨t=39∨t=43∨t=46∨t=47∨t=48∨(t≠1∧t≠2∧t≠5∧t≠6∧t≠12∧t≠15∧t≠16∧t≠28∧t≠33∧t≠39∧t≠43∧t≠46∧t≠47∧t≠48):=by omega
def knw (t:Int):Bool:=decide (t=1)||decide (t=2)||decide (t=5)||decide (t=6)||decide (t=12)||decide (t=15)||decide (t=16)||decide (t=28)||decide (t=33)||decide (t=39)||decide (t=43)||decide (t=46)||decide (t=47)||decide (t=48)
def D7 (d:Dat):Bool:=d.v6||(decide (d.hi=0) && decide (d.lo<4294967296))
def inB (n most:Int):Bool:=decide (0≤n) && decide (n≤most)
def I6 (s:List UInt8):Bool:=decide (1≤s.length) && decide (s.length≤255)
def Ht (n:List UInt8):Bool:=vld n && decide (n[0]? ≠some 42)
def bit (set:Int) (t:Nat):Int:=set / 2 ^ t % 2
theorem Jn9 (x:Int):IntKind.u64.wrap ((BitVec.ofInt IntKind.u64.bits x &&& BitVec.ofInt IntKind.u64.bits 1).toNat:Int)=x % 2:=by
 have h2:(BitVec.ofInt 64 x &&& BitVec.ofInt 64 1).toNat=(BitVec.ofInt 64 x).toNat % 2:=by rw [BitVec.toNat_and];show (BitVec.ofInt 64 x).toNat &&& 1=_;exact Nat.and_one_is_mod _
 show IntKind.u64.wrap (((BitVec.ofInt 64 x &&& BitVec.ofInt 64 1).toNat:Nat):Int)=_;rw [h2,BitVec.toNat_ofInt];rw [Hb0]<;>omega
end Go.X.G
/- NSEC records: what they show. -/
namespace Go.X.G
open Go Go.X
theorem jp (n t:Nat):n &&& 2 ^ t=(n.testBit t).toNat*2 ^ t:=by
 apply Nat.eq_of_testBit_eq;intro i;rw [Nat.testBit_and,Nat.testBit_two_pow];by_cases h:t=i
 ·subst h;cases h2:n.testBit t<;>simp
 ·cases h2:n.testBit t<;>simp [h,Nat.testBit_two_pow]
theorem Hv6 (x:Int) (t:Nat) (ht:t<64):IntKind.u64.wrap ((BitVec.ofInt IntKind.u64.bits x &&& BitVec.ofInt IntKind.u64.bits (2 ^ t)).toNat:Int)=if bit x t=1 then 2 ^ t else 0:=by
 have hp:(2 ^ t:Nat)<2 ^ 64:=Nat.pow_lt_pow_right (by decide) ht;have h1:(BitVec.ofInt 64 ((2:Int) ^ t)).toNat=2 ^ t:=by
  rw [BitVec.toNat_ofInt];have e:((2:Int) ^ t)=((2 ^ t:Nat):Int):=by simp
  rw [e,←Int.natCast_emod,G3];exact Dk hp
 have h2:(BitVec.ofInt 64 x &&& BitVec.ofInt 64 ((2:Int) ^ t)).toNat=((BitVec.ofInt 64 x).toNat.testBit t).toNat*2 ^ t:=by rw [BitVec.toNat_and,h1,jp]
 show IntKind.u64.wrap (((BitVec.ofInt 64 x &&& BitVec.ofInt 64 ((2:Int) ^ t)).toNat:Nat):Int)=_;have h3:(BitVec.ofInt 64 x).toNat.testBit t=decide (bit x t=1):=by
  rw [BitVec.toNat_ofInt,Nat.testBit_eq_decide_div_mod_eq,decide_eq_decide];unfold bit;have hpos:(0:Int)<2 ^ t:=Int.pow_pos (by decide);have hb:0≤x % ((2 ^ 64:Nat):Int):=Int.emod_nonneg _ (by decide);have e1:(((x % ((2 ^ 64:Nat):Int)).toNat / 2 ^ t % 2:Nat):Int)=x % ((2 ^ 64:Nat):Int) / 2 ^ t % 2:=by rw [Int.natCast_emod,Int.natCast_ediv,Int.toNat_of_nonneg hb];simp
  have e2:x % ((2 ^ 64:Nat):Int) / 2 ^ t % 2=x / 2 ^ t % 2:=by
   have hs:((2 ^ 64:Nat):Int)=2 ^ t*(2*2 ^ (63 - t)):=by
    have:(2:Int) ^ 64=2 ^ t*(2*2 ^ (63 - t)):=by rw [←Int.mul_assoc,←Int.pow_succ,←Int.pow_add];congr 1;omega
    simpa using this
   have hx:x=((2 ^ 64:Nat):Int)*(x / ((2 ^ 64:Nat):Int))+x % ((2 ^ 64:Nat):Int):=(Int.mul_ediv_add_emod x _).symm;have hd:x / 2 ^ t=(2*2 ^ (63 - t))*(x / ((2 ^ 64:Nat):Int))+x % ((2 ^ 64:Nat):Int) / 2 ^ t:=by
    have:x=2 ^ t*((2*2 ^ (63 - t))*(x / ((2 ^ 64:Nat):Int)))+x % ((2 ^ 64:Nat):Int):=by rw [←Int.mul_assoc,←hs];exact hx
    calc x / 2 ^ t=(2 ^ t*((2*2 ^ (63 - t))*(x / ((2 ^ 64:Nat):Int)))+x % ((2 ^ 64:Nat):Int)) / 2 ^ t:=by rw [←this]
     _=_:=by rw [Int.mul_add_ediv_left _ _ (Int.ne_of_gt hpos)]
   rw [hd,Int.mul_assoc];omega
  rw [←e2,←e1];generalize (x % ((2 ^ 64:Nat):Int)).toNat / 2 ^ t % 2=q;omega
 rw [h2,h3];have hq:((2 ^ t:Nat):Int)≤9223372036854775808:=by have:(2 ^ t:Nat)≤2 ^ 63:=Nat.pow_le_pow_right (by decide) (by omega);omega
 by_cases hb:bit x t=1
 ·simp only [hb,decide_true,Bool.toNat_true,Ez,if_true];rw [Hb0 (by omega) (by omega)];simp
 ·simp only [hb,decide_false,Bool.toNat_false,Nat.zero_mul,if_false];rw [Hb0 (by omega) (by omega)];simp
def P1 (r:Rec) (t:Int):Bool:=decide (0≤t) && decide (t≤63) && decide (bit r.data.bits t.toNat=1)
theorem Jr (r:Rec) (t:Int):S Qx 2 [r.pv, .i .i64 t]=some [.b (P1 r t)]:=by
 refine Jk9 (N:=1) rfl ?_;unfold P1;by_cases h1:0≤t
 ·by_cases h2:t≤63
  ·obtain ⟨n,rfl⟩:∃n:Nat,t=(n:Int):=⟨t.toNat,by omega⟩;have hb:IntKind.u64.bits=64:=rfl;have h3:X.bin .shr (.i .u64 r.data.bits) (.i .i64 (n:Int))=some (.i .u64 (r.data.bits / 2 ^ n)):=Bx0 _ _ _ _ (by rw [hb];omega);have h4:r.data.bits / 2 ^ n % 2=bit r.data.bits n:=rfl;simp (disch:=omega) only [Gx1,Tq,Jn9,h3,h4,xe,EVP,EV,simprocAttr]
   try simp
   try omega
  ·simp (disch:=omega) only [Gx1,xe,EVP,EV,simprocAttr]
   try simp [h2]
 ·simp (disch:=omega) only [Gx1,xe,EVP,EV,simprocAttr]
  try simp [h1]
theorem Eh3 (n:Nat) (h:n<64):S Bn0 1 [.i .i64 (n:Int)]=some [.i .u64 (2 ^ n)]:=by
 refine Jq4 (N:=1) rfl ?_;have hb:IntKind.u64.bits=64:=rfl;have h1:min n 64=n:=by omega
 have hp:(2:Int) ^ n≤18446744073709551615:=by
  have h2:(2 ^ n:Nat)≤2 ^ 63:=Nat.pow_le_pow_right (by decide) (by omega);have h3:((2:Int) ^ n)=((2 ^ n:Nat):Int):=by simp
  rw [h3];omega
 have hp0:(0:Int)≤2 ^ n:=Int.le_of_lt (Int.pow_pos (by decide));have h4:¬((n:Int)<0):=by omega
 simp (disch:=omega) only [Ip1,Dc5,hb,h1,h4,Int.one_mul,xe,EVP,EV,simprocAttr]
theorem wn (r:Rec) (t:Int):S jt 2 [r.pv, .i .i64 t]=some [.b (P1 r t)]:=by
 refine Jx1 (N:=1) rfl ?_;unfold P1;by_cases h1:0≤t
 ·by_cases h2:t≤63
  ·obtain ⟨n,rfl⟩:∃n:Nat,t=(n:Int):=⟨t.toNat,by omega⟩;have h3:=Hv6 r.data.bits n (by omega);have hp0:(0:Int)<2 ^ n:=Int.pow_pos (by decide);simp (disch:=omega) only [Gx4,Eh3,Tq,h3,xe,EVP,EV,simprocAttr];by_cases h4:bit r.data.bits n=1
   ·simp [h4];omega
   ·simp [h4]
  ·simp (disch:=omega) only [Gx4,xe,EVP,EV,simprocAttr]
   try simp [h2]
 ·simp (disch:=omega) only [Gx4,xe,EVP,EV,simprocAttr]
  try simp [h1]
def Iq (n top:List UInt8):Bool:=decide (n≠top) && under n top
theorem Gs (n top:List UInt8) (hn:n.length≤9223372036854775807) (ht:top.length≤9223372036854775807):S j6 2 [.s n, .s top]=some [.b (Iq n top)]:=by
 refine Jx5 (N:=1) rfl ?_;unfold Iq;by_cases h:n=top
 ·simp (disch:=omega) only [Hy1,h,xe,EVP,EV,simprocAttr]
  try simp
 ·simp (disch:=omega) only [Hy1,E7,h,xe,EVP,EV,simprocAttr]
  try simp
theorem Ar6 (n top:List UInt8) (hn:n.length≤9223372036854775807) (ht:top.length≤9223372036854775807):S Bp5 2 [.s n, .s top]=some [.b (Iq n top)]:=by
 refine Jw5 (N:=1) rfl ?_;unfold Iq;by_cases h:n=top
 ·simp (disch:=omega) only [Hy0,h,xe,EVP,EV,simprocAttr]
  try simp
 ·simp (disch:=omega) only [Hy0,J1,h,xe,EVP,EV,simprocAttr]
  try simp
def V0 (r:Rec):Bool:=P1 r 39||(P1 r 2 && !P1 r 6)
theorem yq (r:Rec):S Bp6 1 [r.pv]=some [.b (V0 r)]:=by refine Jx4 (N:=1) rfl ?_;unfold V0;rcases Ak (P1 r 39) with h1|h1<;>rcases Ak (P1 r 2) with h2|h2<;>rcases Ak (P1 r 6) with h3|h3<;>simp (disch:=omega) only [Ir5,Jr,h1,h2,h3,xe,EVP,EV,simprocAttr]<;>rfl
def Gr (r:Rec) (zone name:List UInt8):Bool:=
 decide (r.typ=47) && under name zone && decide (0<Hd name r.name) && !(decide (r.data.host≠zone) && decide (0≤Hd name r.data.host)) && (!Iq name r.name|| !V0 r)
theorem Tb (r:Rec) (zone name:List UInt8) (hr:r.wf) (hz:zone.length≤9223372036854775807) (hn:name.length≤9223372036854775807):S j8 3 [r.pv, .s zone, .s name]=some [.b (Gr r zone name)]:=by
 refine Jy5 (N:=1) rfl ?_;have g1:=hr.name;have g2:=hr.data.host;unfold Qh at g1 g2;unfold Gr;by_cases h1:r.typ=47
 ·rcases Ak (under name zone) with h2|h2
  ·by_cases h3:0<Hd name r.name
   ·by_cases h4:r.data.host=zone
    ·rcases Ak (Iq name r.name) with h6|h6<;>rcases Ak (V0 r) with h7|h7<;>simp (disch:=omega) only [Ab2,E7,Hz,Gs,yq,h1,h2,h4,h6,h7,xe,EVP,EV,simprocAttr]<;>simp [h3]
    ·by_cases h5:0≤Hd name r.data.host
     ·simp (disch:=omega) only [Ab2,E7,Hz,h1,h2,h4,xe,EVP,EV,simprocAttr]
      try simp [h4,h5]
     ·rcases Ak (Iq name r.name) with h6|h6<;>rcases Ak (V0 r) with h7|h7<;>simp (disch:=omega) only [Ab2,E7,Hz,Gs,yq,h1,h2,h4,h6,h7,xe,EVP,EV,simprocAttr]<;>simp [h3,h5]
   ·simp (disch:=omega) only [Ab2,E7,Hz,h1,h2,xe,EVP,EV,simprocAttr]
    try simp [h3]
  ·simp (disch:=omega) only [Ab2,E7,h1,h2,xe,EVP,EV,simprocAttr]
   try simp
 ·simp (disch:=omega) only [Ab2,h1,xe,EVP,EV,simprocAttr]
  try simp
theorem Cz2 (a:List UInt8):Hd a a=0:=by
 rcases Ak (vld a) with h|h
 ·rw [S6 h h];unfold mj;have:∀l:List (List UInt8),Q4 l l=none:=by
   intro l;induction l with
   |nil=>rfl
   |cons x xs ih=>simp [Q4,ih]
  rw [this];simp
 ·unfold Hd;simp [h,H3]
theorem Tc (r:Rec) (zone name:List UInt8) (hr:r.wf) (hz:zone.length≤9223372036854775807) (hn:name.length≤9223372036854775807):S Am2 3 [r.pv, .s zone, .s name]=some [.b (Gr r zone name)]:=by
 refine Jy4 (N:=1) rfl ?_;have g1:=hr.name;have g2:=hr.data.host;unfold Qh at g1 g2;unfold Gr;by_cases h1:r.typ=47
 ·rcases Ak (under name zone) with h2|h2
  ·by_cases h3:0<Hd name r.name
   ·have hne:name≠r.name:=fun e=>by rw [←e,Cz2] at h3;omega
    have hbel:Iq name r.name=under name r.name:=by simp [Iq,hne]
    rw [hbel];unfold V0;by_cases h4:r.data.host=zone
    ·rcases Ak (under name r.name) with h6|h6<;>rcases Ak (P1 r 39) with h7|h7<;>rcases Ak (P1 r 6) with h8|h8<;>rcases Ak (P1 r 2) with h9|h9<;>simp (disch:=omega) only [Ab1,J1,Kb,wn,h1,h2,h4,h6,h7,h8,h9,xe,EVP,EV,simprocAttr]<;>simp [h3]
    ·by_cases h5:0≤Hd name r.data.host
     ·simp (disch:=omega) only [Ab1,J1,Kb,h1,h2,h4,xe,EVP,EV,simprocAttr]
      try simp [h4,h5]
     ·rcases Ak (under name r.name) with h6|h6<;>rcases Ak (P1 r 39) with h7|h7<;>rcases Ak (P1 r 6) with h8|h8<;>rcases Ak (P1 r 2) with h9|h9<;>simp (disch:=omega) only [Ab1,J1,Kb,wn,h1,h2,h4,h6,h7,h8,h9,xe,EVP,EV,simprocAttr]<;>simp [h3,h5]
   ·simp (disch:=omega) only [Ab1,J1,Kb,h1,h2,xe,EVP,EV,simprocAttr]
    try simp [h3]
  ·simp (disch:=omega) only [Ab1,J1,h1,h2,xe,EVP,EV,simprocAttr]
   try simp
 ·simp (disch:=omega) only [Ab1,h1,xe,EVP,EV,simprocAttr]
  try simp
def Lz (r:Rec) (name:List UInt8):List UInt8:=if Eb5 (Dv name r.name)<Eb5 (Dv name r.data.host) then Dv name r.data.host else Dv name r.name
theorem Hy (a b:List UInt8):(Dv a b).length≤254:=by
 unfold Dv;split
 ·rename_i h;exact Cv6 h.1 _
 ·simp
theorem R5 (r:Rec) (name:List UInt8) (hr:r.wf) (hn:name.length≤9223372036854775807):S Bm7 2 [r.pv, .s name]=some [.s (Lz r name)]:=by refine Jk4 (N:=1) rfl ?_;have g1:=hr.name;have g2:=hr.data.host;unfold Qh at g1 g2;have h1:=Hy name r.name;have h2:=Hy name r.data.host;unfold Lz;by_cases h:Eb5 (Dv name r.name)<Eb5 (Dv name r.data.host)<;>simp (disch:=omega) only [In7,As5,Dg5,h,xe,EVP,EV,simprocAttr]
theorem Xh {n:List UInt8} (h:vld n=true) (k:Nat):Eb5 (jn ((lbl n).drop k))=((flat ((lbl n).drop k)).length:Int)+1:=by
 obtain ⟨h1,h2⟩:=Hc h k;unfold Eb5;by_cases h3:(lbl n).drop k=[]
 ·rw [h3];rfl
 ·have h4:jn ((lbl n).drop k)=flat ((lbl n).drop k):=by unfold jn;rw [if_neg h3]
  have h5:jn ((lbl n).drop k)≠[46]:=fun e=>h3 (by rw [←h2];exact (kw h1).2 e);rw [if_neg h5,if_pos h1,h4]
theorem P3 (l:List (List UInt8)) (i j:Nat) (h:i<j) (hj:j≤l.length):(flat (l.drop j)).length<(flat (l.drop i)).length:=by
 have e:l.drop i=(l.drop i).take (j - i)++l.drop j:=by
  have:j=i+(j - i):=by omega
  conv=>rhs;rhs;rw [this,←C0]
  rw [Bs]
 rw [e,X3,Ac];have hne:(l.drop i).take (j - i)≠[]:=by intro e2;have:=congrArg List.length e2;simp at this;omega
 obtain ⟨m,hm⟩:=I2 _ hne;rw [hm];simp only [Ac,A3,Bf];omega
theorem commonN_cases (a b:List UInt8) (ha:vld a=true):(vld b=true∧∃k,k≤(lbl a).length∧Dv a b=jn ((lbl a).drop k))∨(vld b=false∧Dv a b=[]):=by
 rcases Ak (vld b) with h|h
 ·exact .inl ⟨h,(lbl a).length - Ft (lbl a) (lbl b),by omega,by unfold Dv;rw [if_pos ⟨ha,h⟩]⟩
 ·exact .inr ⟨h,by unfold Dv;rw [if_neg (by simp [h])]⟩
theorem Bt6:lbl []=[]:=rfl
theorem Vd:Eb5 []=0:=rfl
theorem An6 (r:Rec) (name:List UInt8):(if (lbl (Dv name r.name)).length<(lbl (Dv name r.data.host)).length∨Dv name r.name=[] then Dv name r.data.host else Dv name r.name)=Lz r name:=by
 unfold Lz;rcases Ak (vld name) with hv|hv
 ·rcases commonN_cases name r.name hv with ⟨_,i,hi,ea⟩|⟨_,ea⟩
  ·have hni:jn ((lbl name).drop i)≠[]:=fun e=>by have:=Nw (Hc hv i).1;rw [e] at this;simp at this
   rcases commonN_cases name r.data.host hv with ⟨_,j,hj,eb⟩|⟨_,eb⟩
   ·rw [ea,eb,(Hc hv i).2,(Hc hv j).2,Xh hv,Xh hv];have key:((lbl name).drop i).length<((lbl name).drop j).length↔((flat ((lbl name).drop i)).length:Int)+1<((flat ((lbl name).drop j)).length:Int)+1:=by
     simp only [B3];rcases Nat.lt_trichotomy i j with h|h|h
     ·have:=P3 (lbl name) i j h hj;omega
     ·subst h;omega
     ·have:=P3 (lbl name) j i h hi;omega
    by_cases h:((lbl name).drop i).length<((lbl name).drop j).length
    ·rw [if_pos (.inl h),if_pos (key.1 h)]
    ·rw [if_neg (fun h2=>h2.elim h hni),if_neg (fun h2=>h (key.2 h2))]
   ·rw [ea,eb,(Hc hv i).2,Bt6,Xh hv,Vd,if_neg (fun h2=>h2.elim (fun h3=>by simp at h3) hni),if_neg (by omega)]
  ·rw [ea,if_pos (.inr rfl)];rcases commonN_cases name r.data.host hv with ⟨_,j,hj,eb⟩|⟨_,eb⟩
   ·rw [eb,Xh hv,Vd,if_pos (by omega)]
   ·rw [eb];simp
 ·have ea:Dv name r.name=[]:=by unfold Dv;rw [if_neg (by simp [hv])]
  have eb:Dv name r.data.host=[]:=by unfold Dv;rw [if_neg (by simp [hv])]
  rw [ea,eb];simp
theorem Y3 (r:Rec) (name:List UInt8) (hr:r.wf) (hn:name.length≤9223372036854775807):S Bp3 2 [r.pv, .s name]=some [.s (Lz r name)]:=by refine Jw3 (N:=1) rfl ?_;have g1:=hr.name;have g2:=hr.data.host;unfold Qh at g1 g2;have h1:=Hy name r.name;have h2:=Hy name r.data.host;rw [←An6];by_cases h:(lbl (Dv name r.name)).length<(lbl (Dv name r.data.host)).length<;>by_cases h3:Dv name r.name=[]<;>simp (disch:=omega) only [Ip9,As6,As3,xe,EVP,EV,simprocAttr]<;>simp [h,h3]
theorem fj (r:Rec) (name:List UInt8):(Lz r name).length≤254:=by
 unfold Lz;split
 ·exact Hy _ _
 ·exact Hy _ _
def Pg (zone name:List UInt8) (r:Rec):Option (List UInt8):=
 if Gr r zone name && !Iq r.data.host name && Jz (Lz r name) then some (Nf (Lz r name)) else none
def starsN (l:List Rec) (zone name:List UInt8):List (List UInt8):=l.filterMap (Pg zone name)
theorem u5 (l:List Rec) (zone name:List UInt8) (hw:∀r∈l,r.wf) (hl:l.length≤1000000) (hz:zone.length≤9223372036854775807) (hn:name.length≤9223372036854775807):
  S Al9 3 [Al l, .s zone, .s name]=some [Bd (starsN l zone name)]:=by
 refine Jw9 (N:=l.length+1) rfl ?_;have key:Et7.ev S (l.length+1) [Al l, .s zone, .s name]=some (.yld 0 [Bd ([]++starsN l zone name)]):=by
  refine Fx l (fun i (g:List (List UInt8))=>[Bd g, .i .i64 (i:Int)]) (fun i g r=> .yld 0 [Bd (g++starsN r zone name)]) (fun i g=>g.length≤i) [] rfl (Af _) (by omega) (fun i g c r hd hi hc hI=> ?_) (fun g hI=> ?_)
  ·left;have hcw:=hw c (A9 hc);have g2:=hcw.data.host;unfold Qh at g2;have h1:=Tb c zone name hcw hz hn;have h2:=R5 c name hcw hn;have h3:=fj c name;cases h:Pg zone name c with
   |some s=>
    refine ⟨g++[s],?_,by simp;omega,by simp [starsN,h]⟩;unfold Pg at h;split at h
    ·rename_i hc2;injection h with h;subst h;simp only [Aw,A7] at hc2;obtain ⟨⟨k1,k2⟩,k3⟩:=hc2;simp (disch:=omega) only [Ab0,hc,h1,h2,Gs,Az5,k1,k2,k3,xe,EVP,EV,simprocAttr]
    ·cases h
   |none=>
    refine ⟨g,?_,by omega,by simp [starsN,h]⟩;unfold Pg at h;split at h
    ·cases h
    ·rename_i hc2;rcases ch3 (Gr c zone name) (!Iq c.data.host name) (Jz (Lz c name)) with e0|⟨e0,e1⟩|⟨e0,e1,e2⟩|⟨e0,e1,e2⟩
     ·simp (disch:=omega) only [Ab0,hc,h1,e0,xe,EVP,EV,simprocAttr]
     ·simp only [Bool.not_eq_false'] at e1;simp (disch:=omega) only [Ab0,hc,h1,Gs,e0,e1,xe,EVP,EV,simprocAttr]
     ·simp only [A7] at e1;simp (disch:=omega) only [Ab0,hc,h1,h2,Gs,Az5,e0,e1,e2,xe,EVP,EV,simprocAttr]
     ·exact absurd (by simp [e0,e1,e2]) hc2
  ·simp (disch:=omega) only [Ab0,xe,EVP,EV,simprocAttr]
   try simp [starsN,Out.goes]
 simp (disch:=omega) only [Ab0,key,xe,EVP,EV,simprocAttr]
def Jt (v:List UInt8):List (List UInt8)→Nat→Int
 |[],_=> -1
 |x::r,i=>if v=x then (i:Int) else Jt v r (i+1)
theorem d7 (v:List UInt8):∀(l:List (List UInt8)) (i:Nat),decide (0≤Jt v l i)=decide (v∈l)
 |[],i=>by simp [Jt]
 |x::r,i=>by
  simp only [Jt];by_cases h:v=x
  ·simp [h]
  ·simp only [if_neg h,d7 v r (i+1)];simp [h]
theorem Bx7 (l:List (List UInt8)) (v:List UInt8) (hl:l.length≤1000000):S dz 2 [Bd l, .s v]=some [.i .i64 (Jt v l 0)]:=by
 refine Hp9 (N:=l.length+1) rfl ?_;have key:Cv0.ev S (l.length+1) [Bd l, .s v]=some (if Jt v l 0= -1 then .yld 0 [] else .ret [.i .i64 (Jt v l 0)]):=by
  refine Ew l (fun i=>[.i .i64 (i:Int)]) (fun i r=>if Jt v r i= -1 then .yld 0 [] else .ret [.i .i64 (Jt v r i)]) rfl (by omega) (fun i c r hd hi hc=> ?_) ?_
  ·by_cases h:v=c
   ·right;simp (disch:=omega) only [Zc,hc,h,xe,EVP,EV,simprocAttr];have:¬((i:Int)= -1):=by omega
    simp [Jt,this,Out.goes]
   ·left;simp (disch:=omega) only [Zc,hc,h,xe,EVP,EV,simprocAttr]
    try simp [Jt,h]
  ·simp (disch:=omega) only [Zc,xe,EVP,EV,simprocAttr]
   try simp [Jt,Out.goes]
 by_cases h:Jt v l 0= -1
 ·rw [if_pos h] at key;simp (disch:=omega) only [Zc,key,h,xe,EVP,EV,simprocAttr]
 ·rw [if_neg h] at key;simp (disch:=omega) only [Zc,key,xe,EVP,EV,simprocAttr]
theorem Pm (l:List (List UInt8)) (v:List UInt8) (hl:l.length≤1000000):S Al4 2 [Bd l, .s v]=some [.b (decide (v∈l))]:=by refine Jv4 (N:=1) rfl ?_;rw [←d7 v l 0];simp (disch:=omega) only [Ip6,Bx7,xe,EVP,EV,simprocAttr]
def Ly (l:List Rec) (zone name star:List UInt8):Bool:=decide (star∈starsN l zone name)
theorem Uq (l:List Rec) (zone name:List UInt8):(starsN l zone name).length≤l.length:=List.length_filterMap_le _ _
theorem o4 (l:List Rec) (zone name star:List UInt8) (hw:∀r∈l,r.wf) (hl:l.length≤1000000) (hz:zone.length≤9223372036854775807) (hn:name.length≤9223372036854775807):
  S Bp7 4 [Al l, .s zone, .s name, .s star]=some [.b (Ly l zone name star)]:=by
 refine Jx8 (N:=1) rfl ?_;have h1:=Uq l zone name;simp (disch:=omega) only [Ir6,u5 l zone name hw hl hz hn,Pm,Ly,xe,EVP,EV,simprocAttr]
def u9 (l:List Rec):Bool:=decide (l.length≤30) && l.all fun r=>decide (r.name.length≤300) && decide (r.data.host.length≤300)
theorem Ac3 (l:List Rec):S Bs1 1 [Al l]=some [.b (u9 l)]:=by
 refine Jy6 (N:=l.length+1) rfl ?_;unfold u9;by_cases hl:l.length≤30
 ·have key:Fj1.ev S (l.length+1) [Al l]=some (if (l.all fun r=>decide (r.name.length≤300) && decide (r.data.host.length≤300))=true then .yld 0 [] else .ret [.b false]):=by
   refine Ew l (fun i=>[.i .i64 (i:Int)]) (fun i q=>if (q.all fun r=>decide (r.name.length≤300) && decide (r.data.host.length≤300))=true then .yld 0 [] else .ret [.b false]) rfl (by omega) (fun i c r hd hi hc=> ?_) ?_
   ·by_cases h1:c.name.length≤300
    ·by_cases h2:c.data.host.length≤300
     ·left;simp (disch:=omega) only [Ab3,hc,xe,EVP,EV,simprocAttr]
      try simp [h1,h2]
     ·right;simp (disch:=omega) only [Ab3,hc,xe,EVP,EV,simprocAttr]
      try simp [h2,Out.goes]
    ·right;simp (disch:=omega) only [Ab3,hc,xe,EVP,EV,simprocAttr]
     try simp [h1,Out.goes]
   ·simp (disch:=omega) only [Ab3,xe,EVP,EV,simprocAttr]
    try simp [Out.goes]
  rcases Ak (l.all fun r=>decide (r.name.length≤300) && decide (r.data.host.length≤300)) with h|h<;>rw [h] at key ⊢<;>simp (disch:=omega) only [Ab3,key,xe,EVP,EV,simprocAttr]<;>simp [hl]
 ·simp (disch:=omega) only [Ab3,xe,EVP,EV,simprocAttr]
  try simp [hl]
end Go.X.G
