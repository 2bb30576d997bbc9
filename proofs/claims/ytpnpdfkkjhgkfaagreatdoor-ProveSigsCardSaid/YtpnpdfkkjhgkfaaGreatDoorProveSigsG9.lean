/- Names: what the reference's functions give. -/
import Derived.Test.YtpnpdfkkjhgkfaaGreatDoorProveSigsG7
import Derived.Test.YtpnpdfkkjhgkfaaGreatDoorProveSigsG8
open Bool renaming eq_false_or_eq_true→Aq,and_eq_true→Ay,false_eq_true→Ad,or_eq_true→A0,not_eq_true'→Br,eq_iff_iff→Ds,and_true→Od,true_and→Ey4
open List renaming getElem?_eq_some_iff→Av,getElem?_eq_getElem→Az,length_append→Ab,append_assoc→Am,mem_cons→An,mem_of_getElem?→Ar,length_cons→A5,pairwise_cons→By,length_nil→Bz,getElem?_map→Bc,length_pos_iff→Bf,getD_eq_getElem?_getD→Bg,length_drop→Bn,take_append_drop→Bs,cons_append→B0,getElem?_cons_zero→B3,getElem?_range→B8,nil_append→Cj,take_add_one→Ck,drop_eq_getElem_cons→Cf,drop_drop→Cm,getElem?_cons_succ→C5,take_length→Dv,mem_filter→Dp,length_map→Dr,flatMap_cons→D9,mem_map→Eb,drop_zero→Ed,mem_range→E9,drop_eq_nil_of_le→Fz,mem_cons_self→Gj,getLast_eq_getElem→Is,isSuffixOf_iff_suffix→Ky,append_cancel_right→Oc,suffix_iff_eq_drop→Q2,length_mergeSort→fq,map_append→Fz9
open Nat renaming le_refl→Af,zero_le→B9
open Option renaming map_eq_some_iff→Aw,map_some→A4
open Option.some renaming injEq→Ak
set_option maxHeartbeats 1000000
set_option linter.defProp false
set_option linter.unusedVariables false
set_option linter.unusedSimpArgs false
namespace Go.X.G
open Go Go.X
def Nm (c:UInt8):Bool:=decide (97≤(c.toNat:Int)) && decide ((c.toNat:Int)≤122)||decide (48≤(c.toNat:Int)) && decide ((c.toNat:Int)≤57)||decide ((c.toNat:Int)=45)||decide ((c.toNat:Int)=95)
def zf (c:UInt8):(decide (97≤(c.toNat:Int)) && decide ((c.toNat:Int)≤122)||decide (48≤(c.toNat:Int)) && decide ((c.toNat:Int)≤57)||decide ((c.toNat:Int)=45)||decide ((c.toNat:Int)=95))=Nm c:=rfl
def H8 (s:List UInt8):Bool:=decide (s=[42])||(decide (1≤s.length) && decide (s.length≤63) && s.all Nm)
def zn (s:List UInt8) (N:Nat) (hN:s.length<N) (hs:s.length≤4294967296):
  Dx3.ev S N [.s s]=some (if s.all Nm=true then .yld 0 [] else .ret [.b false]):=by
 refine Dh s (fun i=>[.i .i64 (i:Int)]) (fun i r=>if r.all Nm=true then .yld 0 [] else .ret [.b false]) rfl hN (fun i c r hd hi hc=> ?_) ?_
 ·simp (disch:=omega) only [Df4,xe,EV,simprocAttr,hc,zf];cases h:Nm c<;>simp [h,Out.goes]
 ·simp (disch:=omega) [Df4,xe,EV,simprocAttr,Out.goes]
def zm (s:List UInt8) (hs:s.length≤4294967296):S Bk3 1 [.s s]=some [.b (H8 s)]:=by
 refine Fs0 (N:=s.length+1) rfl ?_;simp (disch:=omega) only [Df4,zn,xe,EV,simprocAttr];unfold H8
 grind
end Go.X.G
/- Names: what the reference's functions give. -/
namespace Go.X.G
open Go Go.X
def spl (first:Bool) (cur:List UInt8):List UInt8→Option (List (List UInt8))
 |[]=>some []
 |c::r=>if c=46 then (if H8 cur=true∧(cur=[42]→first=true) then (spl false [] r).map (cur::·) else none) else spl first (cur++[c]) r
def nm (n:List UInt8):Option (List (List UInt8)):=
 if n=[46] then some [] else if 2≤n.length∧n.length≤254∧n[n.length - 1]? =some 46 then spl true [] n else none
def lbl (n:List UInt8):List (List UInt8):=(nm n).getD []
def vld (n:List UInt8):Bool:=(nm n).isSome
def Dh0 {α:Type} (n:List α) (i j:Nat) (c:α) (h:n[i]? =some c) (hj:j≤i):(n.take (i+1)).drop j=(n.take i).drop j++[c]:=by have hi:i<n.length:=(Av.1 h).1;rw [Ck,h,List.drop_append_of_le_length (by simp;omega)];rfl
def Dh1 {α:Type} (n:List α) (i:Nat):(n.take i).drop i=[]:=by rw [List.drop_eq_nil_iff];simp;omega
def Uz (l:List (List UInt8)):Option (List (List UInt8))→Out
 |some ls=> .yld 0 [.l 1 ((l++ls).map .s)]
 |none=> .ret [.l 1 [], .b false]
def Cc4 (n:List UInt8) (N:Nat) (hN:n.length<N) (hs:n.length≤1000):
  Dy3.ev S N [.s n]=some (Uz [] (spl true [] n)):=by
 refine D5 n (fun i (g:List (List UInt8)×Nat)=>[.l 1 (g.1.map .s), .i .i64 (g.2:Int), .i .i64 (i:Int)]) (fun i g r=>Uz g.1 (spl (decide (g.2=0)) ((n.take i).drop g.2) r)) (fun i g=>g.1.length≤i∧g.2≤i) ([],0) rfl ⟨Af _,Af _⟩ hN (fun i g c r hd hi hc hI=> ?_) (fun g hI=> ?_)
 ·obtain ⟨l,st⟩:=g;obtain ⟨h1,h2⟩:=hI;simp only at h1 h2 ⊢;have hl:((n.take i).drop st).length≤4294967296:=by simp;omega
  have hm:(l.map PV.s).length=l.length:=Dr ..;have hd':=Bt6 c 46 (by omega);by_cases hdot:c=46
  ·have hdi:=hd'.2 hdot;simp (disch:=omega) only [Ys,xe,EV,simprocAttr,hc,zm];simp only [spl,if_pos hdot];by_cases h:H8 ((n.take i).drop st)=true∧((n.take i).drop st=[42]→st=0)
   ·obtain ⟨h3,h4⟩:=h;left;refine ⟨(l++[(n.take i).drop st],i+1),?_,?_,?_⟩
    ·rw [if_neg (by simp only [h3];intro h;simp at h;have:=h4 h.1;omega)];simp
    ·simp;omega
    ·simp only [Dh1];rw [if_pos ⟨h3,by simpa using h4⟩];cases h9:spl false [] r<;>simp [h9,Uz]
   ·right;have h':¬(H8 ((n.take i).drop st)=true∧((n.take i).drop st=[42]→decide (st=0)=true)):=by simpa using h
    rw [if_neg h'];refine ⟨?_,rfl⟩;rw [if_pos]
    ·rfl
    ·cases h5:H8 ((n.take i).drop st)
     ·simp
     ·simp only [h5,true_and] at h;have ⟨h6,h7⟩:=Classical.not_imp.1 h;simp [h6];omega
  ·have hdi:¬(c.toNat:Int)=46:=fun h=>hdot (hd'.1 h);left;refine ⟨(l,st),?_,?_,?_⟩
   ·simp (disch:=omega) only [Ys,xe,EV,simprocAttr,hc]
   ·simp only;omega
   ·simp only [spl];rw [if_neg hdot,Dh0 n i st c hc h2]
 ·simp (disch:=omega) [Ys,xe,EV,simprocAttr,Out.goes,spl,Uz]
def split_ok (n:List UInt8) (hs:n.length≤9223372036854775807):S P2 1 [.s n]=some [Bv (lbl n), .b (vld n)]:=by
 refine Gj5 (N:=n.length+1) rfl ?_;unfold Bv lbl vld nm;by_cases h1:n=[46]
 ·simp (disch:=omega) [Ys,xe,EV,simprocAttr,h1]
 ·rw [if_neg h1];by_cases h2:n.length<2
  ·simp (disch:=omega) only [Ys,xe,EV,simprocAttr,h1];have h3:¬(2≤n.length∧n.length≤254∧n[n.length - 1]? =some 46):=by omega
   rw [if_neg h3];rfl
  ·by_cases h3:254<n.length
   ·simp (disch:=omega) only [Ys,xe,EV,simprocAttr,h1];have h3:¬(2≤n.length∧n.length≤254∧n[n.length - 1]? =some 46):=by omega
    rw [if_neg h3];rfl
   ·have h4:=Az (l:=n) (i:=n.length - 1) (by omega);have h5:((n.length:Int) - 1).toNat=n.length - 1:=by omega
    have h6:=Bt6 (n[n.length - 1]'(by omega)) 46 (by omega);simp (disch:=omega) only [Ys,xe,EV,simprocAttr,h1,h4,h5,Cc4];by_cases h7:n[n.length - 1]'(by omega)=46
    ·rw [if_pos (show 2≤n.length∧n.length≤254∧some (n[n.length - 1]'(by omega))=some 46 from ⟨by omega,by omega,by rw [h7]⟩),if_neg (fun h=>h (h6.2 h7))];cases h8:spl true [] n
     ·simp [Uz,Bp1]
     ·simp (disch:=omega) [Ys,Uz,xe,EV,simprocAttr]
    ·rw [if_neg (show¬(2≤n.length∧n.length≤254∧some (n[n.length - 1]'(by omega))=some 46) from fun h=>h7 (by simpa using h.2.2)),if_pos (show (((n[n.length - 1]'(by omega)).toNat:Int)≠46) from fun h=>h7 (h6.1 h))];rfl
end Go.X.G
/- Names: what the reference's functions give, ctd. -/
namespace Go.X.G
open Go Go.X
def gj:∀(r:List UInt8) (f:Bool) (cur:List UInt8) (l:List (List UInt8)),spl f cur r=some l→l.length≤r.length
 |[],f,cur,l,h=>by simp [spl] at h;simp [←h]
 |c::r,f,cur,l,h=>by
  simp only [spl] at h;split at h
  ·split at h
   ·obtain ⟨m,hm,rfl⟩:=Aw.1 h;have:=gj r _ _ _ hm;simp;omega
   ·cases h
  ·have:=gj r _ _ _ h;simp;omega
def Er3 {n:List UInt8} {l:List (List UInt8)} (h:nm n=some l):l.length≤254:=by
 unfold nm at h;split at h
 ·injection h with h;subst h;simp
 ·split at h
  ·rename_i h2;have:=gj _ _ _ _ h;omega
  ·cases h
def F2 (n:List UInt8):(lbl n).length≤254:=by
 unfold lbl;cases h:nm n with
 |none=>simp
 |some l=>exact Er3 h
def Eg (n:List UInt8) (hs:n.length≤9223372036854775807):S Xq 1 [.s n]=some [.b (vld n)]:=by refine Gv2 (N:=1) rfl ?_;simp (disch:=omega) only [Fh4,split_ok,xe,EVP,EV,simprocAttr]
def Hk (n:List UInt8) (hs:n.length≤9223372036854775807):S T2 1 [.s n]=some [Bv (lbl n)]:=by refine Ft9 (N:=1) rfl ?_;simp (disch:=omega) only [Fg0,split_ok,xe,EVP,EV,simprocAttr]
def Qs {α:Type} [DecidableEq α]:List α→List α→Nat
 |x::xs,y::ys=>if x=y then Qs xs ys+1 else 0
 |_,_=>0
def Jj (a b:List (List UInt8)):Nat:=Qs a.reverse b.reverse
def Bd6 {α:Type} [DecidableEq α]:∀(a b:List α),Qs a b≤a.length∧Qs a b≤b.length
 |[],b=>by simp [Qs]
 |x::xs,[]=>by simp [Qs]
 |x::xs,y::ys=>by have:=Bd6 xs ys;simp only [Qs];split<;>simp<;>omega
def Cd9 (a b:List (List UInt8)):Jj a b≤a.length∧Jj a b≤b.length:=by have:=Bd6 a.reverse b.reverse;simpa [Jj] using this
def Dl9 (a b:List (List UInt8)) (N:Nat) (hN:a.length<N) (ha:a.length≤1000000) (hb:b.length≤1000000):
  By4.ev S N [Bv a,Bv b]=some (.yld 0 [.i .i64 (Jj a b:Int)]):=by
 have key:=Hd (fn:=S) (N:=N) (η:=[Bv a,Bv b]) (id:=1) (init:=[(.c (.i .i64 (0)))]) (body:=Bn0) (α:=Nat) (fun k=>[.i .i64 (k:Int)]) (fun k=> .yld 0 [.i .i64 ((k+Qs (a.reverse.drop k) (b.reverse.drop k):Nat):Int)]) (fun k=>k≤a.length∧k≤b.length) (fun k=>a.length - k) 0 rfl ⟨B9 _,B9 _⟩ (by omega) ?_
 ·simpa [Jj,By4] using key
 ·rintro k ⟨h1,h2⟩;by_cases h3:k<a.length
  ·by_cases h4:k<b.length
   ·have e1:((a.length:Int) - 1 - k).toNat=a.length - 1 - k:=by omega
    have e2:((b.length:Int) - 1 - k).toNat=b.length - 1 - k:=by omega
    have g1:a[a.length - 1 - k]? =some (a[a.length - 1 - k]'(by omega)):=Az (by omega);have g2:b[b.length - 1 - k]? =some (b[b.length - 1 - k]'(by omega)):=Az (by omega);have d1:a.reverse.drop k=(a[a.length - 1 - k]'(by omega))::a.reverse.drop (k+1):=by rw [Cf (by simpa using h3)];simp
    have d2:b.reverse.drop k=(b[b.length - 1 - k]'(by omega))::b.reverse.drop (k+1):=by rw [Cf (by simpa using h4)];simp
    simp (disch:=omega) only [Bs8,xe,EVP,EV,simprocAttr,e1,e2,g1,g2];rw [d1,d2];simp only [Qs];by_cases h:a[a.length - 1 - k]'(by omega)=b[b.length - 1 - k]'(by omega)
    ·left;refine ⟨k+1,by simp [h],⟨by omega,by omega⟩,by omega,?_⟩;rw [if_pos h];congr 3
     push_cast
     omega
    ·right;simp [h,Out.goes]
   ·right;have d2:b.reverse.drop k=[]:=Fz (by simp;omega);have z:Qs (a.reverse.drop k) []=0:=by cases a.reverse.drop k<;>rfl
    rw [d2,z];simp (disch:=omega) [Bs8,xe,EVP,EV,simprocAttr,Out.goes]
  ·right;have d1:a.reverse.drop k=[]:=Fz (by simp;omega);have z:Qs [] (b.reverse.drop k)=0:=rfl;rw [d1,z];simp (disch:=omega) [Bs8,xe,EVP,EV,simprocAttr,Out.goes]
def gw (a b:List (List UInt8)) (ha:a.length≤1000000) (hb:b.length≤1000000):S yn 2 [Bv a,Bv b]=some [.i .i64 (Jj a b:Int)]:=by refine Gj1 (N:=a.length+1) rfl ?_;simp (disch:=omega) only [Bs8,Dl9,xe,EVP,EV,simprocAttr]
def under (n top:List UInt8):Bool:=vld n && vld top && decide (Jj (lbl n) (lbl top)=(lbl top).length)
def Gf (n top:List UInt8) (hn:n.length≤9223372036854775807) (ht:top.length≤9223372036854775807):S T3 2 [.s n, .s top]=some [.b (under n top)]:=by
 refine Gq6 (N:=1) rfl ?_;have h1:=F2 n;have h2:=F2 top;unfold under;cases h3:vld n<;>cases h4:vld top<;>simp (disch:=omega) only [Fh1,split_ok,gw,h3,h4,xe,EVP,EV,simprocAttr]
 all_goals (simp;try omega)
def cmpS (a b:List UInt8):Int:=if Op.bytesLess a b then -1 else if a=b then 0 else 1
def Nk (a b:List UInt8):S U2 2 [.s a, .s b]=some [.i .i64 (cmpS a b)]:=by
 refine Em4 (N:=1) rfl ?_;unfold cmpS;simp (disch:=omega) only [Eb1,xe,EVP,EV,simprocAttr];cases h:Op.bytesLess a b
 ·by_cases h2:a=b<;>simp [h2]
 ·simp
def Iv (a b:List UInt8):Int:=
 if vld a && vld b then
  let k:=Jj (lbl a) (lbl b)
  if k<(lbl a).length∧k<(lbl b).length then cmpS ((lbl a).getD ((lbl a).length - 1 - k) []) ((lbl b).getD ((lbl b).length - 1 - k) [])
  else if (lbl a).length<(lbl b).length then -1 else if (lbl b).length<(lbl a).length then 1 else 0
 else if vld a then -1 else if vld b then 1 else cmpS a b
def Tf (a b:List UInt8) (hn:a.length≤9223372036854775807) (ht:b.length≤9223372036854775807):S yb 2 [.s a, .s b]=some [.i .i64 (Iv a b)]:=by
 refine Fr1 (N:=1) rfl ?_;have h1:=F2 a;have h2:=F2 b;have h5:=Cd9 (lbl a) (lbl b);unfold Iv;cases h3:vld a<;>cases h4:vld b
 ·simp (disch:=omega) [Ax9,split_ok,Nk,h3,h4,xe,EVP,EV,simprocAttr]
 ·simp (disch:=omega) [Ax9,split_ok,Nk,h3,h4,xe,EVP,EV,simprocAttr]
 ·simp (disch:=omega) [Ax9,split_ok,Nk,h3,h4,xe,EVP,EV,simprocAttr]
 ·by_cases h6:Jj (lbl a) (lbl b)<(lbl a).length∧Jj (lbl a) (lbl b)<(lbl b).length
  ·obtain ⟨h7,h8⟩:=h6;have e1:(((lbl a).length:Int) - 1 - (Jj (lbl a) (lbl b):Int)).toNat=(lbl a).length - 1 - Jj (lbl a) (lbl b):=by omega
   have e2:(((lbl b).length:Int) - 1 - (Jj (lbl a) (lbl b):Int)).toNat=(lbl b).length - 1 - Jj (lbl a) (lbl b):=by omega
   have g1:=Az (l:=lbl a) (i:=(lbl a).length - 1 - Jj (lbl a) (lbl b)) (by omega);have g2:=Az (l:=lbl b) (i:=(lbl b).length - 1 - Jj (lbl a) (lbl b)) (by omega);simp (disch:=omega) only [Ax9,split_ok,gw,Nk,h3,h4,e1,e2,g1,g2,xe,EVP,EV,simprocAttr];simp [h7,h8,g1,g2]
  ·simp (disch:=omega) only [Ax9,split_ok,gw,Nk,h3,h4,xe,EVP,EV,simprocAttr];simp only [h6]
   grind
end Go.X.G
/- The library's functions on strings. -/
namespace Go.X.G
open Go Go.X
def Ek7 (x:List UInt8) (c:UInt8):S pc 2 [.s x, .i .u8 (c.toNat:Int)]=some [.i .i64 (x.count c:Int)]:=
 Eg5 (args:=[.s x, .i .u8 (c.toNat:Int)]) (by simp [XK.run,vz,Lib.countByte])
def Dr8 (x:List UInt8) (c:UInt8):S pf 2 [.s x, .i .u8 (c.toNat:Int)]=some [.i .i64 (Lib.indexByte x c)]:=
 El2 (args:=[.s x, .i .u8 (c.toNat:Int)]) (by simp [XK.run,vz])
def Ek8 (x y:List UInt8):S pd 2 [.s x, .s y]=some [.i .i64 (Lib.compareBytes x y)]:=
 Eh6 (args:=[.s x, .s y]) (by simp [XK.run,Cf0])
def Ov (x:List UInt8) (c:UInt8):S yw 2 [.s x, .i .u8 (c.toNat:Int)]=some [.i .i64 (Lib.indexByte x c)]:=by refine Fn7 (N:=1) rfl ?_;simp (disch:=omega) only [Fd4,Dr8,xe,EVP,EV,simprocAttr]
def d4 (x:List UInt8) (c:UInt8):S Bk4 2 [.s x, .i .u8 (c.toNat:Int)]=some [.i .i64 (Lib.indexByte x c)]:=by refine Fs1 (N:=1) rfl ?_;simp (disch:=omega) only [Ff4,Ov,xe,EVP,EV,simprocAttr]
def Mx (c:UInt8):∀(x:List UInt8),c∉x→Lib.indexByte x c= -1
 |[],_=>rfl
 |b::l,h=>by have h1:b≠c:=fun e=>h (by simp [e]);have h2:=Mx c l (fun e=>h (by simp [e]));simp [Lib.indexByte,h1,h2]
def Jv (c:UInt8) (post:List UInt8):∀(pre:List UInt8),c∉pre→Lib.indexByte (pre++c::post) c=(pre.length:Int)
 |[],_=>by simp [Lib.indexByte]
 |b::l,h=>by
  have h1:b≠c:=fun e=>h (by simp [e]);have h2:=Jv c post l (fun e=>h (by simp [e]));simp only [B0,Lib.indexByte,h2];simp [h1]
  try omega
def dot_split (c:UInt8):∀(s:List UInt8),c∉s∨∃pre post,s=pre++c::post∧c∉pre
 |[]=> .inl (by simp)
 |b::l=>by
  by_cases h:b=c
  ·exact .inr ⟨[],l,by simp [h],by simp⟩
  ·rcases dot_split c l with h1|⟨pre,post,rfl,h2⟩
   ·exact .inl (by simp [h1,Ne.symm h])
   ·exact .inr ⟨b::pre,post,by simp,by simp [h2,Ne.symm h]⟩
def pcs (cur:List UInt8):List UInt8→List (List UInt8)
 |[]=>[cur]
 |c::r=>if c=46 then cur::pcs [] r else pcs (cur++[c]) r
def cut (s:List UInt8):List (List UInt8):=pcs [] s
def As4 (post:List UInt8):∀(pre cur:List UInt8),(46:UInt8)∉pre→pcs cur (pre++46::post)=(cur++pre)::pcs [] post
 |[],cur,_=>by simp [pcs]
 |b::l,cur,h=>by have h1:b≠46:=fun e=>h (by simp [e]);have h2:=As4 post l (cur++[b]) (fun e=>h (by simp [e]));simp [pcs,h1,h2]
def Wt:∀(s cur:List UInt8),(46:UInt8)∉s→pcs cur s=[cur++s]
 |[],cur,_=>by simp [pcs]
 |b::l,cur,h=>by have h1:b≠46:=fun e=>h (by simp [e]);have h2:=Wt l (cur++[b]) (fun e=>h (by simp [e]));simp [pcs,h1,h2]
def Bd5 (s:List UInt8):(cut s).length=s.count 46+1:=by
 have:∀(s cur:List UInt8),(pcs cur s).length=s.count 46+1:=by
  intro s
  induction s with
  |nil=>intro cur;rfl
  |cons c r ih=>
   intro cur;by_cases h:c=46<;>simp [pcs,h,ih]
 exact this s []
def Av8 (s:List UInt8) (hs:s.length≤9223372036854775807):S ax 2 [.s s, .s [46]]=some [.i .i64 (Lib.indexByte s 46)]:=by
 refine Eg4 (N:=1) rfl ?_;have h1:=Ov s 46;have e:(((46:UInt8).toNat:Nat):Int)=46:=rfl;rw [e] at h1;by_cases h:[46]=s
 ·subst h;simp (disch:=omega) only [Dk5,xe,EVP,EV,simprocAttr];rfl
 ·simp (disch:=omega) only [Dk5,h,h1,e,xe,EVP,EV,simprocAttr]
def d3 (s:List UInt8) (hs:s.length≤9223372036854775807):S Us 2 [.s s, .s [46]]=some [.i .i64 (Lib.indexByte s 46)]:=by refine El3 (N:=1) rfl ?_;simp (disch:=omega) only [Ez8,Av8,xe,EVP,EV,simprocAttr]
def Br3 (s:List UInt8):S am 2 [.s s, .s [46]]=some [.i .i64 (s.count 46:Int)]:=by refine El4 (N:=1) rfl ?_;have h1:=Ek7 s 46;have e:(((46:UInt8).toNat:Nat):Int)=46:=rfl;rw [e] at h1;simp (disch:=omega) only [Ez9,h1,e,xe,EVP,EV,simprocAttr]
def Bb8 (done rest:List (List UInt8)):Out:=
 .yld 0 [.s ((done++rest).getLastD []),Bv ((done++rest).dropLast++[[]]), .i .i64 (((done++rest).length:Int) - 1)]
def jx (s:List UInt8) (N:Nat) (hN:s.length<N) (hs:s.length≤1000000) (p q:PV):
  By1.ev S N [.s s, .s [46], .i .i64 0,p, .i .i64 ((s.count 46:Int)+1)]=some (Bb8 [] (cut s)):=by
 have hc0:s.count 46≤s.length:=List.count_le_length;have key:=Hd (fn:=S) (N:=N) (η:=[.s s, .s [46], .i .i64 0,p, .i .i64 ((s.count 46:Int)+1)]) (id:=1) (init:=[(.v 0),(.rep 1 (.mn (.v 4) (.bin .add (.slen (.v 0)) (.c (.i .i64 (1))))) (.c (.s []))),(.c (.i .i64 (0)))]) (body:=Bm4) (α:=List (List UInt8)×List UInt8)
  (fun a=>[.s a.2,Bv (a.1++List.replicate (a.2.count 46+1) []), .i .i64 (a.1.length:Int)]) (fun a=>Bb8 a.1 (cut a.2)) (fun a=>a.1.length+a.2.count 46=s.count 46∧a.2.length≤s.length) (fun a=>a.2.length) ([],s) ?_ ⟨by simp,Af _⟩ hN ?_
 ·simpa [By1] using key
 ·have e:((s.count 46:Int)+1).toNat=s.count 46+1:=by omega
  simp (disch:=omega) only [e,xe,EVP,EV,simprocAttr]
 ·rintro ⟨done,rest⟩ ⟨h1,h2⟩;simp only at h1 h2 ⊢;rcases dot_split 46 rest with h|⟨pre,post,rfl,h⟩
  ·right;have c0:rest.count 46=0:=List.count_eq_zero.2 h;have i0:=Mx 46 rest h;have cu:cut rest=[rest]:=by simpa [cut] using Wt rest [] h
   refine ⟨?_,rfl⟩;rw [c0];rw [c0] at h1;simp (disch:=omega) only [Df0,d3,i0,xe,EVP,EV,simprocAttr];simp [Bb8,cu,List.getLastD_eq_getLast?]
  ·left;have c0:(pre++46::post).count 46=post.count 46+1:=by rw [List.count_append,List.count_eq_zero.2 h];simp
   have i0:=Jv 46 post pre h;have cu:cut (pre++46::post)=pre::cut post:=by simpa [cut] using As4 post pre [] h
   have hl:(pre++46::post).length=pre.length+post.length+1:=by simp;omega
   have sl1:List.drop (0:Int).toNat (List.take ((pre.length:Int)+0).toNat (pre++46::post))=pre:=by simp
   have sl2:List.drop ((pre.length:Int)+1).toNat (List.take (pre++46::post).length (pre++46::post))=post:=by
    have:((pre.length:Int)+1).toNat=pre.length+1:=by omega
    rw [this,Dv,List.drop_append];simp
   have sl3:(done++[]::[]::List.replicate (post.count 46) ([]:List UInt8)).length=done.length+post.count 46+2:=by simp;omega
   refine ⟨(done++[pre],post),?_,⟨by simp;omega,by simp only;omega⟩,by simp;omega,by simp [Bb8,cu]⟩;rw [c0];rw [c0] at h1;simp (disch:=omega) only [Df0,d3,i0,sl1,sl2,xe,EVP,EV,simprocAttr];simp [List.replicate_succ,List.set_append]
def jw (s:List UInt8) (hs:s.length≤1000000):S Bj1 4 [.s s, .s [46], .i .i64 0, .i .i64 (-1)]=some [Bv (cut s)]:=by
 refine Fn9 (N:=s.length+1) rfl ?_;have h1:=Bd5 s;have h2:s.count 46≤s.length:=List.count_le_length;obtain ⟨l,x,hx⟩:∃l x,cut s=l++[x]:=⟨(cut s).dropLast,(cut s).getLast (by intro e;simp [e] at h1),(List.dropLast_concat_getLast _).symm⟩;have h3:l.length=s.count 46:=by rw [hx] at h1;simpa using h1
 have h4:((l.length:Int)+1 - 1)=(l.length:Int):=by omega
 have h5:((l++[([]:List UInt8)]).length:Int)=l.length+1:=by simp
 have h6:((l++[x]).length:Int)=l.length+1:=by simp
 have g1:(l++[([]:List UInt8)])[l.length]? =some []:=by simp
 have g2:(l++[x]).getLastD []=x:=by simp [List.getLastD_eq_getLast?]
 have g3:(l++[([]:List UInt8)]).set l.length x=l++[x]:=by simp
 have hk:=jx s (s.length+1) (by omega) hs (.i .i64 (-1)) .u;rw [hx] at hk ⊢;simp only [Bb8,Cj,List.dropLast_concat] at hk;simp (disch:=omega) only [Df0,Br3,hk,h4,h6,g1,g2,g3,xe,EVP,EV,simprocAttr];have g4:((l.length:Int)+1).toNat=(l++[x]).length:=by simp
 rw [g4,Dv];rfl
def dn (s:List UInt8) (hs:s.length≤1000000):S yg 2 [.s s, .s [46]]=some [Bv (cut s)]:=by refine Ft1 (N:=1) rfl ?_;simp (disch:=omega) only [Ff7,jw,xe,EVP,EV,simprocAttr]
def Yw (s t:List UInt8) (hs:s.length≤9223372036854775807):S Bj2 2 [.s s, .s t]=some [.b (t.isSuffixOf s)]:=by
 refine Fp0 (N:=1) rfl ?_;by_cases h:t.length≤s.length
 ·have e:((s.length:Int) - (t.length:Int)).toNat=s.length - t.length:=by omega
  simp (disch:=omega) only [Ey6,e,xe,EVP,EV,simprocAttr];simp only [Dv];congr 4;rw [Ds,Ky,decide_eq_true_eq];refine ⟨fun h=>h▸List.drop_suffix _ _,fun h=> ?_⟩;obtain ⟨p,rfl⟩:=h;simp
 ·have h2:t.isSuffixOf s=false:=by rw [Bool.eq_false_iff,ne_eq,Ky];exact fun h'=>h h'.length_le
  simp (disch:=omega) only [Ey6,h2,xe,EVP,EV,simprocAttr]
def Lw (s t:List UInt8) (hs:s.length≤9223372036854775807):S yh 2 [.s s, .s t]=some [.b (t.isSuffixOf s)]:=by refine Ft2 (N:=1) rfl ?_;simp (disch:=omega) only [Ff8,Yw,xe,EVP,EV,simprocAttr]
def lg (x y:List UInt8):S bq 2 [.s x, .s y]=some [.i .i64 (Lib.compareBytes x y)]:=by refine Em0 (N:=1) rfl ?_;simp (disch:=omega) only [Eb0,Ek8,xe,EVP,EV,simprocAttr]
def lz (x y:List UInt8):S Z9 2 [.s x, .s y]=some [.i .i64 (Lib.compareBytes x y)]:=by refine Fp3 (N:=1) rfl ?_;simp (disch:=omega) only [Fd5,lg,xe,EVP,EV,simprocAttr]
end Go.X.G
/- Names and their labels. -/
namespace Go.X.G
open Go Go.X
def flat (l:List (List UInt8)):List UInt8:=l.flatMap fun x=>x++[46]
def jn (l:List (List UInt8)):List UInt8:=if l=[] then [46] else flat l
def Gn (first:Bool):List (List UInt8)→Bool
 |[]=>true
 |p::r=>H8 p && (!decide (p=[42])||first) && Gn false r
def Dr6:Nm 46=false:=by decide
def K1 {p:List UInt8} (h:H8 p=true):(46:UInt8)∉p:=by
 unfold H8 at h;simp at h;rcases h with rfl|⟨_,h⟩
 ·decide
 ·intro h2;have:=h 46 h2;rw [Dr6] at this;cases this
def ql {p:List UInt8} (h:H8 p=true):p≠[]:=by rintro rfl;simp [H8] at h
def G0 {p:List UInt8}:∀{f:Bool} {l:List (List UInt8)},Gn f l=true→p∈l→H8 p=true
 |f,q::r,h,hp=>by
  simp only [Gn,Ay] at h;rcases An.1 hp with rfl|hp
  ·exact h.1.1
  ·exact G0 h.2 hp
def z7:∀{l:List (List UInt8)},Gn false l=true→Gn true l=true
 |[],_=>rfl
 |p::r,h=>by simp only [Gn,Ay] at h ⊢;exact ⟨⟨h.1.1,by simp⟩,h.2⟩
def cq:∀{f:Bool} {a b:List (List UInt8)},Gn f (a++b)=(Gn f a && Gn (f && a.isEmpty) b)
 |f,[],b=>by simp [Gn]
 |f,p::r,b=>by simp only [B0,Gn,cq (a:=r)];simp [Bool.and_assoc]
def z8 {f:Bool} {l:List (List UInt8)} (h:Gn f l=true) (k:Nat):Gn f (l.drop k)=true:=by
 rw [←Bs k l,cq,Ay] at h;have h2:=h.2;cases f with
 |false=>simpa using h2
 |true=>
  cases he:(l.take k).isEmpty with
  |true=>rw [he] at h2;exact h2
  |false=>rw [he] at h2;exact z7 h2
def Rw:∀(m:List UInt8) (f:Bool) (cur:List UInt8),spl f cur (m++[46])=if Gn f (pcs cur m)=true then some (pcs cur m) else none
 |[],f,cur=>by simp only [Cj,spl,if_true,pcs,Gn,A4,Od];by_cases h:H8 cur=true<;>by_cases h2:cur=[42]<;>cases f<;>simp [h,h2]
 |c::r,f,cur=>by
  simp only [B0,spl,pcs];by_cases hc:c=46
  ·simp only [if_pos hc];rw [Rw r false []];simp only [Gn];by_cases h:H8 cur=true<;>by_cases h2:cur=[42]<;>cases f<;>by_cases h3:Gn false (pcs [] r)=true<;>simp [h,h2,h3]
  ·simp only [if_neg hc];exact Rw r f (cur++[c])
def Rt (b:List UInt8):∀(a cur:List UInt8),pcs cur (a++46::b)=pcs cur a++cut b
 |[],cur=>by simp [pcs,cut]
 |c::r,cur=>by
  simp only [B0,pcs];split
  ·rw [Rt b r []];rfl
  ·exact Rt b r _
def Qm:∀(m cur:List UInt8),flat (pcs cur m)=cur++m++[46]
 |[],cur=>by simp [pcs,flat]
 |c::r,cur=>by
  simp only [pcs];split
  ·rename_i h;have:=Qm r [];simp only [flat,D9] at this ⊢;rw [this,h];simp
  ·rw [Qm r (cur++[c])];simp
def rj (a b:List (List UInt8)):flat (a++b)=flat a++flat b:=by simp [flat]
def En9 (cur m:List UInt8):pcs cur m≠[]:=by
 cases m with
 |nil=>simp [pcs]
 |cons c r=>
  simp only [pcs];split
  ·simp
  ·intro h;have:=Qm r (cur++[c]);rw [h] at this;simp [flat] at this
def Qr:∀(l:List (List UInt8)),(∀p∈l,(46:UInt8)∉p)→cut (flat l)=l++[[]]
 |[],_=>rfl
 |p::l,h=>by
  have h1:flat (p::l)=p++46::flat l:=by simp [flat]
  rw [h1];show pcs [] _=_;rw [Rt,Wt p [] (h p (by simp)),Qr l (fun q hq=>h q (by simp [hq]))];simp
def Jx:∀(l:List (List UInt8)),l≠[]→∃m,flat l=m++[46]
 |[p],_=>⟨p,by simp [flat]⟩
 |p::q::r,_=>by obtain ⟨m,hm⟩:=Jx (q::r) (by simp);exact ⟨p++[46]++m,by simp only [flat,D9] at hm ⊢;rw [hm];simp⟩
def rc {l:List (List UInt8)} (hl:l≠[]) (h:∀p∈l,(46:UInt8)∉p) {m:List UInt8} (hm:flat l=m++[46]):cut m=l:=by
 have h1:=Qr l h;rw [hm] at h1;have h2:cut (m++[46])=cut m++[[]]:=by show pcs [] (m++46::[])=_;rw [Rt];rfl
 rw [h2] at h1;exact Oc h1
def I4 {l:List (List UInt8)} (h:Gn true l=true) (hl:l≠[]):2≤(flat l).length:=by
 cases l with
 |nil=>exact absurd rfl hl
 |cons p r=>
  have h1:=ql (G0 h (Gj ..));have:0<p.length:=Bf.2 h1;simp [flat];omega
def Dn6 {l:List (List UInt8)} (h:Gn true l=true) (hl:l≠[]) (hlen:(flat l).length≤254):nm (flat l)=some l:=by obtain ⟨m,hm⟩:=Jx l hl;have h1:=rc hl (fun p hp=>K1 (G0 h hp)) hm;have h2:=I4 h hl;unfold nm;rw [if_neg (by intro e;rw [e] at h2;simp at h2),if_pos ⟨h2,hlen,by rw [hm];simp⟩,hm,Rw];have:pcs [] m=l:=h1;rw [this,if_pos h]
def Dn5 {n:List UInt8} {l:List (List UInt8)} (h:nm n=some l):(n=[46]∧l=[])∨(l≠[]∧Gn true l=true∧n=flat l∧n.length≤254):=by
 unfold nm at h;split at h
 ·rename_i e;injection h with h;exact .inl ⟨e,h.symm⟩
 ·split at h
  ·rename_i h1;right;obtain ⟨h2,h3,h4⟩:=h1;obtain ⟨m,hm⟩:∃m,n=m++[46]:=by
    refine ⟨n.dropLast,?_⟩;have:n≠[]:=by intro e;simp [e] at h2
    have h5:=List.dropLast_concat_getLast this;rw [←h5];congr 1
    ·simp
    ·have h6:n[n.length - 1]? =some (n.getLast this):=by rw [Is];exact Az _
     rw [h6] at h4;injection h4 with h4;simp [h4]
   rw [hm,Rw] at h;split at h
   ·rename_i h5;injection h with h;subst h;refine ⟨En9 _ _,h5,?_,by omega⟩;rw [Qm,hm];simp
   ·cases h
  ·cases h
def Dg2 {n:List UInt8}:vld n=true↔nm n=some (lbl n):=by unfold vld lbl;cases nm n<;>simp
def vld_cases {n:List UInt8} (h:vld n=true):(n=[46]∧lbl n=[])∨(lbl n≠[]∧Gn true (lbl n)=true∧n=flat (lbl n)∧n.length≤254):=Dn5 (Dg2.1 h)
def my {n:List UInt8} (h:vld n=true):Gn true (lbl n)=true:=by
 rcases vld_cases h with ⟨_,h⟩|⟨_,h,_⟩
 ·rw [h];rfl
 ·exact h
def Y4 {n:List UInt8} (h:vld n=true):n=jn (lbl n):=by
 unfold jn;rcases vld_cases h with ⟨h1,h2⟩|⟨h1,_,h2,_⟩
 ·rw [h2,if_pos rfl];exact h1
 ·rw [if_neg h1];exact h2
def Jd {n:List UInt8} (h:vld n=true):n.length≤254:=by
 rcases vld_cases h with ⟨h1,_⟩|⟨_,_,_,h⟩
 ·simp [h1]
 ·exact h
def Ql:lbl [46]=[]:=rfl
def cr {l:List (List UInt8)} (h:Gn true l=true) (hl:l≠[]):flat l≠[46]:=by intro e;have:=I4 h hl;rw [e] at this;simp at this
def Sz {n:List UInt8} (h:vld n=true):lbl n=[]↔n=[46]:=by
 rcases vld_cases h with ⟨h1,h2⟩|⟨h1,h2,h3,_⟩
 ·simp [h1,Ql]
 ·constructor
  ·intro e;exact absurd e h1
  ·intro e;rw [h3] at e;exact absurd e (cr h2 h1)
def Ec6 {l:List (List UInt8)} (h:Gn true l=true) (hlen:(flat l).length≤254):vld (jn l)=true∧lbl (jn l)=l:=by
 unfold jn;by_cases hl:l=[]
 ·subst hl;exact ⟨rfl,rfl⟩
 ·rw [if_neg hl];have:=Dn6 h hl hlen;exact ⟨by simp [vld,this],by simp [lbl,this]⟩
def Sb {a b:List UInt8} (ha:vld a=true) (hb:vld b=true) (h:lbl a=lbl b):a=b:=by rw [Y4 ha,Y4 hb,h]
def Xf (l:List (List UInt8)) (k:Nat):(flat (l.drop k)).length≤(flat l).length:=by
 have:flat l=flat (l.take k)++flat (l.drop k):=by rw [←rj,Bs]
 rw [this,Ab];omega
def Jf {n:List UInt8} (h:vld n=true) (k:Nat):vld (jn ((lbl n).drop k))=true∧lbl (jn ((lbl n).drop k))=(lbl n).drop k:=by
 refine Ec6 (z8 (my h) k) ?_;rcases vld_cases h with ⟨_,h1⟩|⟨_,_,h1,h2⟩
 ·rw [h1];simp [flat]
 ·have:=Xf (lbl n) k;rw [←h1] at this;omega
def zt {s:List UInt8} (h:H8 s=true):s.length≤63:=by
 unfold H8 at h;simp at h;rcases h with h|h
 ·simp [h]
 ·omega
def qz {n:List UInt8} (h:vld n=false):lbl n=[]:=by
 unfold lbl;unfold vld at h;cases h1:nm n with
 |none=>rfl
 |some l=>rw [h1] at h;cases h
def Bx1 (n:List UInt8):∀x∈lbl n,H8 x=true:=fun x hx=>by
 rcases Aq (vld n) with h|h
 ·exact G0 (my h) hx
 ·rw [qz h] at hx;cases hx
def Qz {n:List UInt8} (h:vld n=true):0<n.length:=by
 rcases vld_cases h with ⟨h1,_⟩|⟨h1,h2,h3,_⟩
 ·simp [h1]
 ·have:=I4 h2 h1;rw [h3];omega
end Go.X.G
/- Names: what the program's functions give. -/
namespace Go.X.G
open Go Go.X
def ord (s:List UInt8):Bool:=decide (1≤s.length) && decide (s.length≤63) && s.all Nm
def Bb1 (s:List UInt8):H8 s=(decide (s=[42])||ord s):=rfl
def Ch3:ord [42]=false:=by decide
def gr (s:List UInt8) (N:Nat) (hN:s.length<N) (hs:s.length≤9223372036854775807):
  Dy0.ev S N [.s s]=some (if s.all Nm=true then .yld 0 [] else .ret [.b false]):=by
 refine Dh s (fun i=>[.i .i64 (i:Int)]) (fun i r=>if r.all Nm=true then .yld 0 [] else .ret [.b false]) rfl hN (fun i c r hd hi hc=> ?_) ?_
 ·have key:Bm7.ev S N ([.s s]++[.i .i64 (i:Int)])=some (if Nm c=true then .yld 1 [.i .i64 ((i:Int)+1)] else .ret [.b false]):=by
   simp (disch:=omega) only [Ay3,hc,xe,EVP,EV,simprocAttr];unfold Nm
   grind
  rw [key];rcases Aq (Nm c) with h|h<;>simp [h,Out.goes]
 ·simp (disch:=omega) [Ay3,xe,EVP,EV,simprocAttr,Out.goes]
def Js (s:List UInt8) (hs:s.length≤9223372036854775807):S Bq0 1 [.s s]=some [.b (ord s)]:=by
 refine Ft0 (N:=s.length+1) rfl ?_;unfold ord;by_cases h1:s=[]
 ·subst h1;simp (disch:=omega) [Ay3,xe,EVP,EV,simprocAttr]
 ·have h2:1≤s.length:=Bf.2 h1;by_cases h3:s.length≤63
  ·simp (disch:=omega) only [Ay3,gr,h1,xe,EVP,EV,simprocAttr];cases s.all Nm<;>simp [h2,h3]
  ·simp (disch:=omega) only [Ay3,h1,xe,EVP,EV,simprocAttr];simp [h3]
def okP (i:Nat) (p:List UInt8):Bool:=ord p||(decide (i=0) && decide (p=[42]))
def Cl3:Nat→List (List UInt8)→Bool
 |_,[]=>true
 |i,p::r=>okP i p && Cl3 (i+1) r
def Z6:∀(l:List (List UInt8)) (i:Nat),Cl3 i l=Gn (decide (i=0)) l
 |[],_=>rfl
 |p::r,i=>by
  have h1:=Z6 r (i+1);simp only [Cl3,Gn,h1,okP,Bb1];by_cases h2:p=[42]
  ·subst h2;by_cases h3:i=0<;>simp [Ch3,h3]
  ·simp [h2]
def Bp3 (p q:PV) (l:List (List UInt8)) (hl:l.length≤1000000) (hw:∀x∈l,x.length≤9223372036854775807) (N:Nat) (hN:l.length<N):
  Dy6.ev S N [p,q,Bv l]=some (if Cl3 0 l=true then .yld 0 [] else .ret [.b false]):=by
 refine Dh l (fun i=>[.i .i64 (i:Int)]) (fun i r=>if Cl3 i r=true then .yld 0 [] else .ret [.b false]) rfl hN (fun i c r hd hi hc=> ?_) ?_
 ·have hcw:=hw c (Ar hc);have key:Bn1.ev S N ([p,q,Bv l]++[.i .i64 (i:Int)])=some (if okP i c=true then .yld 1 [.i .i64 ((i:Int)+1)] else .ret [.b false]):=by
   rcases Aq (ord c) with h1|h1
   ·simp (disch:=omega) only [V6,Js,hc,h1,xe,EVP,EV,simprocAttr];simp [okP,h1]
   ·by_cases h2:i=0
    ·subst h2;by_cases h3:c=[42]
     ·subst h3;simp (disch:=omega) only [V6,Js,hc,h1,xe,EVP,EV,simprocAttr];simp [okP]
     ·simp (disch:=omega) only [V6,Js,hc,h1,h3,xe,EVP,EV,simprocAttr];simp [okP,h1,h3]
    ·simp (disch:=omega) only [V6,Js,hc,h1,xe,EVP,EV,simprocAttr];simp [okP,h1,h2]
  rw [key];rcases Aq (okP i c) with h|h<;>simp [h,Cl3,Out.goes]
 ·simp (disch:=omega) only [V6,xe,EVP,EV,simprocAttr];simp [Out.goes,Cl3]
def W0:∀(m cur:List UInt8) (x:List UInt8),x∈pcs cur m→x.length≤cur.length+m.length
 |[],cur,x,h=>by simp [pcs] at h;subst h;simp
 |c::r,cur,x,h=>by
  simp only [pcs] at h;split at h
  ·rcases An.1 h with rfl|h
   ·omega
   ·have:=W0 r [] x h;simp at this ⊢;omega
  ·have:=W0 r _ x h;simp at this ⊢;omega
def Cs7 (m x:List UInt8) (h:x∈cut m):x.length≤m.length:=by simpa using W0 m [] x h
def Fy4 (m:List UInt8):(cut m).length≤m.length+1:=by have:=Bd5 m;have:m.count 46≤m.length:=List.count_le_length;omega
def Ab6 (n:List UInt8):([46]:List UInt8).isSuffixOf n=true↔∃m,n=m++[46]:=by rw [Ky];exact ⟨fun ⟨m,h⟩=>⟨m,h.symm⟩,fun ⟨m,h⟩=>⟨m,h.symm⟩⟩
def Bt2 (m:List UInt8) (hm:m≠[]) (hl:m.length≤253):vld (m++[46])=Cl3 0 (cut m):=by have h1:m++[46]≠[46]:=fun e=>hm (Oc (bs:=[46]) (by simpa using e));have h2:0<m.length:=Bf.2 hm;unfold vld nm;rw [if_neg h1,if_pos ⟨by simp;omega,by simp;omega,by simp⟩,Rw,Z6];have e:pcs [] m=cut m:=rfl;have e2:Gn (decide ((0:Nat)=0)) (cut m)=Gn true (cut m):=rfl;rw [e,e2];cases Gn true (cut m)<;>rfl
def Cn1 (m:List UInt8) (h:vld (m++[46])=true) (hm:m≠[]):lbl (m++[46])=cut m:=by
 rcases vld_cases h with ⟨h1,_⟩|⟨h1,h2,h3,_⟩
 ·exact absurd (Oc (bs:=[46]) (by simpa using h1)) hm
 ·exact (rc h1 (fun p hp=>K1 (G0 h2 hp)) h3.symm).symm
def Bt (n:List UInt8) (hn:n.length≤9223372036854775807):S Nf 1 [.s n]=some [.b (vld n)]:=by
 refine Gk3 (N:=300) rfl ?_;by_cases h0:n=[46]
 ·subst h0;simp (disch:=omega) only [V6,xe,EVP,EV,simprocAttr];rfl
 ·by_cases h1:255≤n.length
  ·have hv:vld n=false:=by rw [Bool.eq_false_iff];intro h;have:=Jd h;omega
   simp (disch:=omega) only [V6,h0,hv,xe,EVP,EV,simprocAttr]
  ·rcases Aq (([46]:List UInt8).isSuffixOf n) with h2|h2
   ·obtain ⟨m,rfl⟩:=(Ab6 n).1 h2;have hm:m≠[]:=fun e=>h0 (by simp [e]);have hl:(m++[46]).length=m.length+1:=by simp
    have hml:m.length≤1000000:=by omega
    have e:List.drop 0 (List.take (((m++[46]).length:Int) - 1).toNat (m++[46]))=m:=by
     have:(((m++[46]).length:Int) - 1).toNat=m.length:=by omega
     rw [this];simp
    have hc:=Fy4 m;have hv:=Bt2 m hm (by omega);have hk:=Bp3 (.s (m++[46])) (.b true) (cut m) (by omega) (fun x hx=>by have:=Cs7 m x hx;omega) 300 (by omega);simp (disch:=omega) only [V6,Lw,dn,e,hk,h0,h2,xe,EVP,EV,simprocAttr];rw [hv];cases Cl3 0 (cut m)<;>simp
   ·have hv:vld n=false:=by
     rw [Bool.eq_false_iff];intro h;rcases vld_cases h with ⟨h3,_⟩|⟨h3,_,h5,_⟩
     ·exact h0 h3
     ·obtain ⟨m,hm⟩:=Jx _ h3;have:=(Ab6 n).2 ⟨m,h5.trans hm⟩;rw [h2] at this;cases this
    simp (disch:=omega) only [V6,Lw,h0,h2,hv,xe,EVP,EV,simprocAttr]
def Px (n:List UInt8) (hn:n.length≤9223372036854775807):S ij 1 [.s n]=some [Bv (lbl n)]:=by
 refine Fp2 (N:=1) rfl ?_;by_cases h0:n=[46]
 ·subst h0;simp (disch:=omega) only [Df1,Ql,xe,EVP,EV,simprocAttr]
 ·rcases Aq (vld n) with h1|h1
  ·obtain ⟨m,hm,rfl⟩:∃m,m≠[]∧n=m++[46]:=by
    rcases vld_cases h1 with ⟨h3,_⟩|⟨h3,_,h5,_⟩
    ·exact absurd h3 h0
    ·obtain ⟨m,hm⟩:=Jx _ h3;exact ⟨m,fun e=>h0 (by rw [h5,hm,e];rfl),h5.trans hm⟩
   have hl:(m++[46]).length=m.length+1:=by simp
   have e:List.drop 0 (List.take (((m++[46]).length:Int) - 1).toNat (m++[46]))=m:=by
    have:(((m++[46]).length:Int) - 1).toNat=m.length:=by omega
    rw [this];simp
   have hl2:=Jd h1;have e2:=Cn1 m h1 hm;simp (disch:=omega) only [Df1,Bt,dn,e,e2,h0,h1,xe,EVP,EV,simprocAttr]
  ·have e:lbl n=[]:=by
    unfold lbl;unfold vld at h1;cases h:nm n with
    |none=>rfl
    |some l=>rw [h] at h1;cases h1
   simp (disch:=omega) only [Df1,Bt,h0,h1,e,xe,EVP,EV,simprocAttr]
def N2 (p:List UInt8) (l:List (List UInt8)):flat (p::l)=p++46::flat l:=by simp [flat]
def parentN (n:List UInt8):List UInt8:=if vld n=true∧n≠[46] then jn ((lbl n).drop 1) else []
def Sn (n:List UInt8):Bool:=vld n && !decide (n=[46])
def Vp (n:List UInt8) (hn:n.length≤9223372036854775807):S y8 1 [.s n]=some [.s (parentN n), .b (Sn n)]:=by
 refine Gj6 (N:=1) rfl ?_;unfold parentN Sn;by_cases h0:n=[46]
 ·subst h0;simp (disch:=omega) only [Bs9,xe,EVP,EV,simprocAttr];simp
 ·rcases Aq (vld n) with h1|h1
  ·rcases vld_cases h1 with ⟨h3,_⟩|⟨h3,h4,h5,h6⟩
   ·exact absurd h3 h0
   ·cases hl:lbl n with
    |nil=>exact absurd hl h3
    |cons p r=>
     rw [hl] at h4 h5;have hp:=K1 (G0 h4 (Gj ..));have hi:=d4 n 46;have hc:(((46:UInt8).toNat:Nat):Int)=46:=rfl;have hx:Lib.indexByte n 46=(p.length:Int):=by rw [h5,N2];exact Jv 46 _ p hp
     rw [hc,hx] at hi;have hlen:n.length=p.length+1+(flat r).length:=by rw [h5,N2];simp;omega
     have e:List.drop ((p.length:Int)+1).toNat (List.take n.length n)=flat r:=by
      have:((p.length:Int)+1).toNat=p.length+1:=by omega
      rw [this,Dv,h5,N2];simp
     by_cases h7:r=[]
     ·subst h7;have e2:flat []=[]:=rfl;simp (disch:=omega) only [Bs9,Bt,hi,e,e2,h0,h1,xe,EVP,EV,simprocAttr];simp [jn]
     ·have e2:¬flat r=[]:=by obtain ⟨m,hm⟩:=Jx r h7;rw [hm];simp
      simp (disch:=omega) only [Bs9,Bt,hi,e,e2,h0,h1,xe,EVP,EV,simprocAttr];simp [jn,h7]
  ·simp (disch:=omega) only [Bs9,Bt,h0,h1,xe,EVP,EV,simprocAttr];simp
def Bc7 (n top:List UInt8):Bool:=(decide (top=[46])||decide (n=top))||(46::top).isSuffixOf n
def Ej2 (n top:List UInt8) (hn:n.length≤9223372036854775807) (ht:top.length≤1000000):S Bq6 2 [.s n, .s top]=some [.b (Bc7 n top)]:=by
 refine Gk2 (N:=1) rfl ?_;unfold Bc7;have h0:([46]:List UInt8).length=1:=rfl;by_cases h1:top=[46]<;>by_cases h2:n=top<;>simp (disch:=omega) only [Fg7,Lw,h1,h2,xe,EVP,EV,simprocAttr]
 all_goals simp
def jb {a b:List (List UInt8)} (ha:Gn true a=true) (hb:Gn true b=true) (h:(46::flat b)<:+flat a):b<:+a:=by obtain ⟨p,hp⟩:=h;have h1:=Qr a (fun x hx=>K1 (G0 ha hx));have h2:=Qr b (fun x hx=>K1 (G0 hb hx));rw [←hp] at h1;have h3:cut (p++46::flat b)=cut p++cut (flat b):=Rt (flat b) p [];rw [h3,h2,←Am] at h1;exact ⟨cut p,Oc h1⟩
def Cr4 {n top:List UInt8} (hn:vld n=true) (ht:vld top=true):Bc7 n top=true↔lbl top<:+lbl n:=by
 unfold Bc7;simp only [A0,decide_eq_true_eq,Ky];constructor
 ·rintro ((rfl|rfl)|h)
  ·rw [Ql];exact List.nil_suffix
  ·exact List.suffix_refl _
  ·rcases vld_cases ht with ⟨h1,h2⟩|⟨h1,h2,h3,_⟩
   ·rw [h2];exact List.nil_suffix
   ·rcases vld_cases hn with ⟨h5,_⟩|⟨h5,h6,h7,_⟩
    ·rw [h5] at h;have h9:=h.length_le;have h8:=I4 h2 h1;rw [←h3] at h8;simp only [A5,Bz] at h9;omega
    ·rw [h3,h7] at h;exact jb h6 h2 h
 ·intro h;obtain ⟨p,hp⟩:=h;rcases vld_cases ht with ⟨h1,h2⟩|⟨h1,h2,h3,_⟩
  ·exact .inl (.inl h1)
  ·by_cases hp0:p=[]
   ·left;right;subst hp0;exact Sb hn ht hp.symm
   ·right;rcases vld_cases hn with ⟨_,h5⟩|⟨h5,h6,h7,_⟩
    ·rw [h5] at hp;exact absurd (List.append_eq_nil_iff.1 hp).1 hp0
    ·obtain ⟨m,hm⟩:=Jx p hp0;rw [h7,←hp,rj,hm];exact ⟨m,by rw [Am,←h3];simp⟩
def Tj {α:Type} [DecidableEq α]:∀(a b:List α),Qs a b=b.length↔b<+:a
 |[],[]=>by simp [Qs]
 |[],y::ys=>by simp [Qs]
 |x::xs,[]=>by simp [Qs]
 |x::xs,y::ys=>by
  have:=Tj xs ys;simp only [Qs];split
  ·rename_i h;subst h;simp [this,List.cons_prefix_cons]
  ·rename_i h;simp [List.cons_prefix_cons,Ne.symm h]
def Zl (a b:List (List UInt8)):Jj a b=b.length↔b<:+a:=by unfold Jj;have:=Tj a.reverse b.reverse;rw [List.length_reverse] at this;rw [this,List.reverse_prefix]
def Ct {n top:List UInt8}:under n top=true↔vld n=true∧vld top=true∧lbl top<:+lbl n:=by unfold under;simp [Zl,and_assoc]
def u4 {n top:List UInt8} (hn:vld n=true) (ht:vld top=true):Bc7 n top=under n top:=by rw [Ds,Cr4 hn ht,Ct];simp [hn,ht]
def Lk (n top:List UInt8) (hn:n.length≤9223372036854775807) (ht:top.length≤9223372036854775807):S Xv 2 [.s n, .s top]=some [.b (under n top)]:=by
 refine Gv7 (N:=1) rfl ?_;rcases Aq (vld n) with h1|h1
 ·rcases Aq (vld top) with h2|h2
  ·have h3:=Jd h2;simp (disch:=omega) only [Df9,Bt,Ej2,h1,h2,xe,EVP,EV,simprocAttr];rw [u4 h1 h2]
  ·have h3:under n top=false:=by simp [under,h2]
   simp (disch:=omega) only [Df9,Bt,h1,h2,h3,xe,EVP,EV,simprocAttr]
 ·have h3:under n top=false:=by simp [under,h1]
  simp (disch:=omega) only [Df9,Bt,h1,h3,xe,EVP,EV,simprocAttr]
end Go.X.G
/- Names: order, common ancestors, wildcards. -/
namespace Go.X.G
open Go Go.X
def Pp:∀(a:List UInt8),Op.bytesLess a a=false
 |[]=>rfl
 |a::x=>by simp [Op.bytesLess,Pp x]
def K7:∀(a b:List UInt8),Lib.compareBytes a b=cmpS a b
 |[],[]=>rfl
 |[],_::_=>rfl
 |_::_,[]=>rfl
 |a::x,b::y=>by
  have ih:=K7 x y;unfold cmpS at ih ⊢;simp only [Lib.compareBytes,Op.bytesLess,ih];by_cases h1:a<b
  ·simp [h1]
  ·by_cases h2:b<a
   ·have h3:a≠b:=fun e=>by subst e;exact h1 h2
    simp [h1,h2,h3]
   ·have h3:a=b:=UInt8.le_antisymm (UInt8.not_lt.1 h2) (UInt8.not_lt.1 h1);subst h3;simp [h1]
def Jz {a b:List UInt8}:cmpS a b=0↔a=b:=by
 unfold cmpS;by_cases h:a=b
 ·subst h;simp [Pp]
 ·cases h2:Op.bytesLess a b<;>simp [h]
def J6 (x y:List UInt8):S Z9 2 [.s x, .s y]=some [.i .i64 (cmpS x y)]:=by rw [lz,K7]
def Tm:List (List UInt8)→List (List UInt8)→Option Int
 |x::xs,y::ys=>if x=y then Tm xs ys else some (cmpS x y)
 |_,_=>none
def Bf0:∀(a b:List (List UInt8)),Tm a b=if Qs a b<a.length∧Qs a b<b.length then some (cmpS (a.getD (Qs a b) []) (b.getD (Qs a b) [])) else none
 |[],b=>by simp [Tm,Qs]
 |x::xs,[]=>by simp [Tm,Qs]
 |x::xs,y::ys=>by
  have ih:=Bf0 xs ys;simp only [Tm,Qs];by_cases h:x=y
  ·simp only [if_pos h,ih];simp
  ·simp [h]
def Aq7 (a b:List (List UInt8)):Int:=match Tm a.reverse b.reverse with
 |some c=>c
 |none=>if a.length<b.length then -1 else if b.length<a.length then 1 else 0
def qp (a:List (List UInt8)) (k:Nat) (h:k<a.length):a.reverse.getD k []=a.getD (a.length - 1 - k) []:=by simp [Bg,List.getElem?_reverse h]
def X3 {a b:List UInt8} (ha:vld a=true) (hb:vld b=true):Iv a b=Aq7 (lbl a) (lbl b):=by
 unfold Iv Aq7;rw [Bf0];have e:Qs (lbl a).reverse (lbl b).reverse=Jj (lbl a) (lbl b):=rfl;rw [e,ha,hb];simp only [List.length_reverse,Bool.and_self,if_true];by_cases h:Jj (lbl a) (lbl b)<(lbl a).length∧Jj (lbl a) (lbl b)<(lbl b).length
 ·rw [if_pos h,if_pos h,qp _ _ h.1,qp _ _ h.2]
 ·rw [if_neg h,if_neg h]
def lf (a b:List (List UInt8)) (p1 p2 p3 p4:PV) (ha:a.length≤1000) (hb:b.length≤1000) (N:Nat) (hN:1001<N):
  By3.ev S N [p1,p2,p3,p4,Bv a,Bv b]=some (match Tm a.reverse b.reverse with|some c=> .ret [.i .i64 c]|none=> .yld 0 []):=by
 have key:=Hd (fn:=S) (N:=N) (η:=[p1,p2,p3,p4,Bv a,Bv b]) (id:=1) (init:=[(.c (.i .i64 (1)))]) (body:=Bm8) (α:=Nat) (fun k=>[.i .i64 ((k:Int)+1)])
  (fun k=>match Tm (a.reverse.drop k) (b.reverse.drop k) with|some c=> .ret [.i .i64 c]|none=> .yld 0 []) (fun k=>k≤a.length∧k≤b.length) (fun k=>a.length - k) 0 rfl ⟨B9 _,B9 _⟩ (by omega) ?_
 ·simpa [By3] using key
 ·rintro k ⟨h1,h2⟩;by_cases h3:k<a.length
  ·by_cases h4:k<b.length
   ·have e1:((a.length:Int) - ((k:Int)+1)).toNat=a.length - 1 - k:=by omega
    have e2:((b.length:Int) - ((k:Int)+1)).toNat=b.length - 1 - k:=by omega
    have g1:a[a.length - 1 - k]? =some (a[a.length - 1 - k]'(by omega)):=Az (by omega);have g2:b[b.length - 1 - k]? =some (b[b.length - 1 - k]'(by omega)):=Az (by omega);have d1:a.reverse.drop k=(a[a.length - 1 - k]'(by omega))::a.reverse.drop (k+1):=by rw [Cf (by simpa using h3)];simp
    have d2:b.reverse.drop k=(b[b.length - 1 - k]'(by omega))::b.reverse.drop (k+1):=by rw [Cf (by simpa using h4)];simp
    rw [d1,d2];generalize (a[a.length - 1 - k]'(by omega))=x at g1;generalize (b[b.length - 1 - k]'(by omega))=y at g2;simp only [Tm];by_cases h:x=y
    ·left;have h5:cmpS x y=0:=Jz.2 h;refine ⟨k+1,?_,⟨by omega,by omega⟩,by omega,by rw [if_pos h]⟩;simp (disch:=omega) only [fy,J6,e1,e2,g1,g2,h5,xe,EVP,EV,simprocAttr]
    ·right;have h5:¬cmpS x y=0:=fun e=>h (Jz.1 e);rw [if_neg h];simp (disch:=omega) only [fy,J6,e1,e2,g1,g2,h5,xe,EVP,EV,simprocAttr];simp [Out.goes]
   ·right;have d2:b.reverse.drop k=[]:=Fz (by simp;omega);have z:Tm (a.reverse.drop k) []=none:=by cases a.reverse.drop k<;>rfl
    rw [d2,z];simp (disch:=omega) [fy,xe,EVP,EV,simprocAttr,Out.goes]
  ·right;have d1:a.reverse.drop k=[]:=Fz (by simp;omega);have z:Tm [] (b.reverse.drop k)=none:=rfl;rw [d1,z];simp (disch:=omega) [fy,xe,EVP,EV,simprocAttr,Out.goes]
def Td (a b:List UInt8) (hn:a.length≤9223372036854775807) (ht:b.length≤9223372036854775807):S O6 2 [.s a, .s b]=some [.i .i64 (Iv a b)]:=by
 refine Ft4 (N:=1002) rfl ?_;have h1:=F2 a;have h2:=F2 b;rcases Aq (vld a) with h3|h3<;>rcases Aq (vld b) with h4|h4
 ·rw [X3 h3 h4];unfold Aq7;have hk:=lf (lbl a) (lbl b) (.s a) (.s b) (.b true) (.b true) (by omega) (by omega) 1002 (by omega);cases h5:Tm (lbl a).reverse (lbl b).reverse with
  |some c=>
   rw [h5] at hk;simp (disch:=omega) only [fy,Bt,Px,hk,h3,h4,xe,EVP,EV,simprocAttr]
  |none=>
   rw [h5] at hk;simp (disch:=omega) only [fy,Bt,Px,hk,h3,h4,xe,EVP,EV,simprocAttr]
   grind
 all_goals unfold Iv
 all_goals simp (disch:=omega) only [fy,Bt,J6,h3,h4,xe,EVP,EV,simprocAttr]
 all_goals simp
def Dn9 (l:List (List UInt8)) (hl:l.length≤1000) (hw:∀x∈l,x.length≤1000) (N:Nat) (hN:l.length<N):
  i6.ev S N [Bv l]=some (.yld 0 [.s (flat l)]):=by
 have key:i6.ev S N [Bv l]=some (.yld 0 [.s ([]++flat l)]):=by
  refine D5 l (fun i (g:List UInt8)=>[.s g, .i .i64 (i:Int)]) (fun i g r=> .yld 0 [.s (g++flat r)]) (fun i g=>g.length≤1001*i) [] rfl (Af _) hN (fun i g c r hd hi hc hI=> ?_) (fun g hI=> ?_)
  ·left;have h1:=hw c (Ar hc);have h0:([46]:List UInt8).length=1:=rfl;refine ⟨g++c++[46],?_,by simp;omega,by simp [flat]⟩;simp (disch:=first|omega|(simp only [Ab];omega)) only [mj,hc,xe,EVP,EV,simprocAttr]
  ·simp (disch:=omega) only [mj,xe,EVP,EV,simprocAttr];simp [flat,Out.goes]
 simpa using key
def Dn8 (l:List (List UInt8)) (hl:l.length≤1000) (hw:∀x∈l,x.length≤1000):S bw 1 [Bv l]=some [.s (jn l)]:=by
 refine Em2 (N:=l.length+1) rfl ?_;unfold jn;by_cases h:l=[]
 ·subst h;simp (disch:=first|omega|(simp;omega)) only [mj,xe,EVP,EV,simprocAttr]
 ·have h1:0<l.length:=Bf.2 h;have hk:=Dn9 l hl hw (l.length+1) (by omega);simp (disch:=omega) only [mj,hk,h,xe,EVP,EV,simprocAttr]
def Bx0 (n:List UInt8):∀x∈lbl n,x.length≤1000:=fun x hx=>by have:=zt (Bx1 n x hx);omega
def qf {n:List UInt8} (h:vld n=true) (k:Nat):(jn ((lbl n).drop k)).length≤254:=Jd (Jf h k).1
def Kf (n:List UInt8):List UInt8:=if n=[46] then [42,46] else [42,46]++n
def Kg (n:List UInt8):Bool:=vld n && !decide ((lbl n)[0]? =some [42]) && vld (Kf n)
def starN (n:List UInt8):List UInt8:=if Kg n=true then Kf n else []
def Dj3 (n:List UInt8) (hn:n.length≤1000000):S Bq9 1 [.s n]=some [.s (starN n), .b (Kg n)]:=by
 refine Gq0 (N:=1) rfl ?_;have h0:([42,46]:List UInt8).length=2:=rfl;have hl:(Kf n).length≤9223372036854775807:=by
  unfold Kf;split
  ·simp
  ·rw [Ab,h0];omega
 have h1:=F2 n;unfold starN Kg;rcases Aq (vld n) with h3|h3
 ·have tail:∀(q:List (List UInt8)),(¬q[0]? =some [42])→T.ev S 1 Bf5 [.s n,Bv q, .b true]=some (.ret (if vld (Kf n)=true then [.s (Kf n), .b true] else [.s [], .b false])):=by
   intro q _;unfold Kf at hl ⊢;by_cases h4:n=[46]
   ·simp only [if_pos h4] at hl ⊢;rcases Aq (vld [42,46]) with h5|h5<;>simp (disch:=omega) only [fb,Eg,h4,h5,xe,EVP,EV,simprocAttr]
   ·simp only [if_neg h4] at hl ⊢;rcases Aq (vld ([42,46]++n)) with h5|h5<;>simp (disch:=omega) only [fb,Eg,h4,xe,EVP,EV,simprocAttr]<;>simp only [B0,Cj] at h5 hl<;>simp (disch:=omega) only [fb,Eg,h5,xe,EVP,EV,simprocAttr]<;>simp
  cases hq:lbl n with
  |nil=>
   have ht:=tail [] (by simp);simp (disch:=first|omega|(simp;omega)) only [↓ht,fb,split_ok,hq,h3,xe,EVP,EV,simprocAttr];rcases Aq (vld (Kf n)) with h5|h5<;>simp [h5]
  |cons p r=>
   have h6:0<((p::r).length:Int):=by simp only [A5];omega
   by_cases h7:p=[42]
   ·subst h7;simp (disch:=first|omega|(simp only [A5];omega)) only [fb,split_ok,hq,h3,xe,EVP,EV,simprocAttr];simp
   ·have ht:=tail (p::r) (by simpa using h7);simp (disch:=first|omega|(simp only [A5];omega)) only [↓ht,fb,split_ok,hq,h3,h7,xe,EVP,EV,simprocAttr];rcases Aq (vld (Kf n)) with h5|h5<;>simp [h5,h7]
 ·simp (disch:=omega) only [fb,split_ok,h3,xe,EVP,EV,simprocAttr];simp
def u9 {n:List UInt8} (h:vld n=true):(n[0]? =some 42↔(lbl n)[0]? =some [42]):=by
 rcases vld_cases h with ⟨h1,h2⟩|⟨h1,h2,h3,_⟩
 ·subst h1;simp [Ql]
 ·cases hl:lbl n with
  |nil=>exact absurd hl h1
  |cons p r=>
   rw [hl] at h2 h3;have hp:=G0 h2 (Gj ..);have hne:=ql hp;cases p with
   |nil=>exact absurd rfl hne
   |cons c q=>
    rw [h3,N2];simp only [B0,B3,Ak];constructor
    ·rintro rfl;unfold H8 at hp;simp at hp;rcases hp with h|h
     ·rw [h]
     ·exfalso;have:Nm 42=false:=by decide
      rw [this] at h;simp at h
    ·intro h;injection h
def Dj2 (n:List UInt8) (hn:n.length≤1000000):S Bv6 1 [.s n]=some [.s (starN n), .b (Kg n)]:=by
 refine Gv3 (N:=1) rfl ?_;have h0:([42,46]:List UInt8).length=2:=rfl;have hl:(Kf n).length≤9223372036854775807:=by
  unfold Kf;split
  ·simp
  ·rw [Ab,h0];omega
 unfold starN Kg;have tail:T.ev S 1 Bf6 [.s n, .s (Kf n)]=some (.ret [.s (starN n), .b (Kg n)]):=by
  unfold starN Kg;rcases Aq (vld n) with h3|h3
  ·have h4:=u9 h3;have h5:=Az (Qz h3);have h6:=Bt6 (n[0]'(Qz h3)) 42 (by omega);by_cases h7:(lbl n)[0]? =some [42]
   ·have h8:=h4.2 h7;rw [h5] at h8;injection h8 with h8;have h9:((n[0]'(Qz h3)).toNat:Int)=42:=h6.2 h8;simp (disch:=omega) only [Bt0,Bt,h3,h5,xe,EVP,EV,simprocAttr];simp [h7]
   ·have h8:¬n[0]? =some 42:=fun e=>h7 (h4.1 e);rw [h5] at h8;have h9:¬((n[0]'(Qz h3)).toNat:Int)=42:=fun e=>h8 (by rw [h6.1 e];rfl);rcases Aq (vld (Kf n)) with ha|ha<;>simp (disch:=omega) only [Bt0,Bt,h3,h5,ha,xe,EVP,EV,simprocAttr]<;>simp [h7]
  ·simp (disch:=omega) only [Bt0,Bt,h3,xe,EVP,EV,simprocAttr];simp
 unfold starN Kg at tail;obtain ⟨y0,y1,y2,y3,y4,y5,y6,y7,yt⟩:=Bt0;by_cases h4:n=[46]
 ·have e:Kf n=[42,46]:=by simp [Kf,h4]
  rw [e] at tail ⊢;subst h4;simp (disch:=omega) only [y0,y1,y2,yt,xe,EVP,EV,simprocAttr];rw [tail];simp
 ·have e:Kf n=42::46::n:=by simp [Kf,h4]
  rw [e] at tail ⊢;simp (disch:=omega) only [y0,y1,y2,yt,h4,xe,EVP,EV,simprocAttr];rw [tail];simp
end Go.X.G
/- The canonical order of names is a total order. -/
namespace Go.X.G
open Go Go.X
structure TO {α:Type} (lt:α→α→Prop):Prop where
 irr:∀a,¬lt a a
 tr:∀a b c,lt a b→lt b c→lt a c
 tri:∀a b,lt a b∨a=b∨lt b a
def TO.asym {α:Type} {lt:α→α→Prop} (h:TO lt) {a b:α} (h1:lt a b):¬lt b a:=fun h2=>h.irr a (h.tr _ _ _ h1 h2)
def TO.ntr {α:Type} {lt:α→α→Prop} (h:TO lt) {a b c:α} (h1:¬lt a b) (h2:¬lt b c):¬lt a c:=by
 intro h3;rcases h.tri b a with h4|h4|h4
 ·exact h2 (h.tr _ _ _ h4 h3)
 ·subst h4;exact h2 h3
 ·exact h1 h4
def lex {α:Type} (lt:α→α→Prop):List α→List α→Prop
 |[],[]=>False
 |[],_::_=>True
 |_::_,[]=>False
 |a::x,b::y=>lt a b∨(a=b∧lex lt x y)
def Bw9 {α:Type} {lt:α→α→Prop} (h:TO lt):∀x:List α,¬lex lt x x
 |[]=>by simp [lex]
 |a::x=>by simp only [lex,true_and,not_or];exact ⟨h.irr a,Bw9 h x⟩
def Dv5 {α:Type} {lt:α→α→Prop} (h:TO lt):∀x y z:List α,lex lt x y→lex lt y z→lex lt x z
 |[],[],_,h1,_=>by simp [lex] at h1
 |[],_::_,[],_,h2=>by simp [lex] at h2
 |[],_::_,_::_,_,_=>by simp [lex]
 |_::_,[],_,h1,_=>by simp [lex] at h1
 |_::_,_::_,[],_,h2=>by simp [lex] at h2
 |a::x,b::y,c::z,h1,h2=>by
  simp only [lex] at h1 h2 ⊢;rcases h1 with h1|⟨rfl,h1⟩
  ·rcases h2 with h2|⟨rfl,h2⟩
   ·exact .inl (h.tr _ _ _ h1 h2)
   ·exact .inl h1
  ·rcases h2 with h2|⟨rfl,h2⟩
   ·exact .inl h2
   ·exact .inr ⟨rfl,Dv5 h x y z h1 h2⟩
def lex_tri {α:Type} {lt:α→α→Prop} (h:TO lt):∀x y:List α,lex lt x y∨x=y∨lex lt y x
 |[],[]=> .inr (.inl rfl)
 |[],_::_=> .inl (by simp [lex])
 |_::_,[]=> .inr (.inr (by simp [lex]))
 |a::x,b::y=>by
  simp only [lex];rcases h.tri a b with h1|rfl|h1
  ·exact .inl (.inl h1)
  ·rcases lex_tri h x y with h2|rfl|h2
   ·exact .inl (.inr ⟨rfl,h2⟩)
   ·exact .inr (.inl rfl)
   ·exact .inr (.inr (.inr ⟨rfl,h2⟩))
  ·exact .inr (.inr (.inl h1))
def TO.lex {α:Type} {lt:α→α→Prop} (h:TO lt):TO (G.lex lt):=⟨Bw9 h,Dv5 h,lex_tri h⟩
def Fm3:TO (fun a b:UInt8=>a<b):=⟨fun a=>UInt8.lt_irrefl a,fun a b c h1 h2=>UInt8.lt_trans h1 h2,fun a b=>by
 rcases UInt8.lt_or_le a b with h|h
 ·exact .inl h
 ·rcases UInt8.lt_or_le b a with h2|h2
  ·exact .inr (.inr h2)
  ·exact .inr (.inl (UInt8.le_antisymm h2 h))⟩
abbrev ltB:List UInt8→List UInt8→Prop:=lex fun a b:UInt8=>a<b
def Dq3:TO ltB:=Fm3.lex
def dc:∀a b:List UInt8,Op.bytesLess a b=true↔ltB a b
 |[],[]=>by simp [Op.bytesLess,lex]
 |[],_::_=>by simp [Op.bytesLess,lex]
 |_::_,[]=>by simp [Op.bytesLess,lex]
 |a::x,b::y=>by have ih:=dc x y;simp only [Op.bytesLess,A0,decide_eq_true_eq,Ay,beq_iff_eq,lex];rw [ih]
def X2 (a b:List UInt8):cmpS a b<0↔ltB a b:=by
 rw [←dc];unfold cmpS;cases h:Op.bytesLess a b
 ·simp only [Ad,if_false,iff_false];split<;>omega
 ·simp
abbrev ltL:List (List UInt8)→List (List UInt8)→Prop:=lex ltB
def to_L:TO ltL:=Dq3.lex
def Aq8 (a b:List (List UInt8)):Int:=match Tm a b with
 |some c=>c
 |none=>if a.length<b.length then -1 else if b.length<a.length then 1 else 0
def rt:∀a b:List (List UInt8),Aq8 a b<0↔ltL a b
 |[],[]=>by simp [Aq8,Tm,lex]
 |[],_::_=>by simp [Aq8,Tm,lex]
 |_::_,[]=>by simp [Aq8,Tm,lex]
 |x::xs,y::ys=>by
  have ih:=rt xs ys;simp only [Aq8,Tm,lex] at ih ⊢;by_cases h:x=y
  ·subst h;rw [if_pos rfl];simp only [A5,Nat.add_lt_add_iff_right,true_and];rw [ih];constructor
   ·exact fun h=> .inr h
   ·rintro (h|h)
    ·exact absurd h (Dq3.irr x)
    ·exact h
  ·rw [if_neg h];simp only;rw [X2];simp [h]
def j8 (a b:List (List UInt8)):Aq7 a b=Aq8 a.reverse b.reverse:=by unfold Aq7 Aq8;cases Tm a.reverse b.reverse<;>simp
def Bd9 (a b:List (List UInt8)):Aq7 a b<0↔ltL a.reverse b.reverse:=by rw [←rt,j8]
def ltN (a b:List UInt8):Prop:=if vld a=true then (if vld b=true then ltL (lbl a).reverse (lbl b).reverse else True) else (if vld b=true then False else ltB a b)
def E6 (a b:List UInt8):Iv a b<0↔ltN a b:=by
 unfold ltN;rcases Aq (vld a) with ha|ha
 ·rcases Aq (vld b) with hb|hb
  ·rw [X3 ha hb,Bd9,if_pos ha,if_pos hb]
  ·unfold Iv;simp [ha,hb]
 ·rcases Aq (vld b) with hb|hb
  ·unfold Iv;simp [ha,hb]
  ·have e:Iv a b=cmpS a b:=by unfold Iv;simp [ha,hb]
   rw [e,X2];simp [ha,hb]
def to_N:TO ltN:=by
 refine ⟨fun a h=> ?_,fun a b c h1 h2=> ?_,fun a b=> ?_⟩
 ·unfold ltN at h;split at h
  ·exact to_L.irr _ h
  ·exact Dq3.irr _ h
 ·unfold ltN at*;rcases Aq (vld a) with ha|ha<;>rcases Aq (vld b) with hb|hb<;>rcases Aq (vld c) with hc|hc<;>
   simp only [ha,hb,hc,if_true,Ad,if_false] at h1 h2 ⊢
  ·exact to_L.tr _ _ _ h1 h2
  ·exact Dq3.tr _ _ _ h1 h2
 ·unfold ltN;rcases Aq (vld a) with ha|ha<;>rcases Aq (vld b) with hb|hb<;>simp only [ha,hb,if_true,Ad,if_false]
  ·rcases to_L.tri (lbl a).reverse (lbl b).reverse with h|h|h
   ·exact .inl h
   ·exact .inr (.inl (Sb ha hb (List.reverse_inj.1 h)))
   ·exact .inr (.inr h)
  ·simp
  ·simp
  ·exact Dq3.tri a b
def N8 {a b:List UInt8}:Iv a b=0↔a=b:=by
 constructor
 ·intro h;rcases Aq (vld a) with ha|ha
  ·rcases Aq (vld b) with hb|hb
   ·rw [X3 ha hb] at h;have key:∀x y:List (List UInt8),Aq8 x y=0→x=y:=by
     intro x
     induction x with
     |nil=>intro y hy;cases y with
      |nil=>rfl
      |cons=>simp [Aq8,Tm] at hy
     |cons x xs ih=>intro y hy;cases y with
      |nil=>simp [Aq8,Tm] at hy
      |cons y ys=>
       simp only [Aq8,Tm] at hy ih;by_cases e:x=y
       ·subst e;rw [if_pos rfl] at hy;simp only [A5,Nat.add_lt_add_iff_right] at hy;rw [ih ys hy]
       ·rw [if_neg e] at hy;exact absurd (Jz.1 hy) e
    rw [j8] at h;exact Sb ha hb (List.reverse_inj.1 (key _ _ h))
   ·unfold Iv at h;simp [ha,hb] at h
  ·rcases Aq (vld b) with hb|hb
   ·unfold Iv at h;simp [ha,hb] at h
   ·have e:Iv a b=cmpS a b:=by unfold Iv;simp [ha,hb]
    rw [e] at h;exact Jz.1 h
 ·rintro rfl;have h1:=E6 a a;have h2:¬Iv a a<0:=fun h=>to_N.irr a (h1.1 h);have key:∀x:List (List UInt8),Aq8 x x=0:=by
   intro x
   induction x with
   |nil=>rfl
   |cons x xs ih=>
    simp only [Aq8,Tm] at ih ⊢;simp only [if_true,A5,Nat.add_lt_add_iff_right];exact ih
  rcases Aq (vld a) with ha|ha
  ·rw [X3 ha ha];rw [j8];exact key _
  ·have e:Iv a a=cmpS a a:=by unfold Iv;simp [ha]
   rw [e];exact Jz.2 rfl
end Go.X.G
/- Sorted lists of names, each once. -/
namespace Go.X.G
open Go Go.X
def Qk {α:Type} (e:α→α→Bool):α→List α→List α
 |_,[]=>[]
 |p,c::r=>if e c p=true then Qk e c r else c::Qk e c r
def cpt {α:Type} (e:α→α→Bool):List α→List α
 |[]=>[]
 |x::r=>x::Qk e x r
def dz {α:Type} (e:α→α→Bool) (c:α):∀(r:List α) (p:α),Qk e p (r++[c])=Qk e p r++(if e c ((p::r).getLast (by simp))=true then [] else [c])
 |[],p=>by simp only [Cj,Qk,List.getLast_singleton];rfl
 |x::r,p=>by
  have ih:=dz e c r x;simp only [B0,Qk,List.getLast_cons_cons];split
  ·exact ih
  ·rw [ih];rfl
def Lr {α:Type} (e:α→α→Bool) (c:α) (l:List α) (h:l≠[]):cpt e (l++[c])=cpt e l++(if e c (l.getLast h)=true then [] else [c]):=by
 cases l with
 |nil=>exact absurd rfl h
 |cons x r=>
  show x::Qk e x (r++[c])=_;rw [dz];rfl
def rf {α:Type} (e:α→α→Bool):∀(r:List α) (p:α),(Qk e p r).length≤r.length
 |[],_=>by simp [Qk]
 |c::r,p=>by have:=rf e r c;simp only [Qk];split<;>simp<;>omega
def j7 {α:Type} (e:α→α→Bool) (l:List α):(cpt e l).length≤l.length:=by
 cases l with
 |nil=>simp [cpt]
 |cons x r=>have:=rf e r x;simp [cpt];exact this
def X1 {α:Type} (e:α→α→Bool):∀(r:List α) (p:α),∀x∈Qk e p r,x∈r
 |[],_,x,h=>by simp [Qk] at h
 |c::r,p,x,h=>by
  simp only [Qk] at h;split at h
  ·exact .tail _ (X1 e r c x h)
  ·rcases An.1 h with rfl|h
   ·exact .head _
   ·exact .tail _ (X1 e r c x h)
def Ek5 {α:Type} (e:α→α→Bool) (l:List α):∀x∈cpt e l,x∈l:=by
 cases l with
 |nil=>intro x h;simp [cpt] at h
 |cons y r=>
  intro x h;rcases An.1 (show x∈y::Qk e y r from h) with rfl|h
  ·exact .head _
  ·exact .tail _ (X1 e r y x h)
abbrev eqs {α:Type} [DecidableEq α]:α→α→Bool:=fun a b=>decide (a=b)
def cptG_mem {α:Type} [DecidableEq α]:∀(r:List α) (p x:α),x∈r→x=p∨x∈Qk eqs p r
 |[],_,x,h=>by simp at h
 |c::r,p,x,h=>by
  simp only [Qk];by_cases hc:c=p
  ·subst hc;rw [if_pos (by simp [eqs])];rcases An.1 h with rfl|h
   ·exact .inl rfl
   ·exact cptG_mem r c x h
  ·rw [if_neg (by simp [eqs,hc])];right;rcases An.1 h with rfl|h
   ·exact .head _
   ·rcases cptG_mem r c x h with rfl|h
    ·exact .head _
    ·exact .tail _ h
def Ek6 {α:Type} [DecidableEq α] (l:List α) (x:α):x∈cpt eqs l↔x∈l:=by
 refine ⟨Ek5 _ l x,fun h=> ?_⟩;cases l with
 |nil=>simp at h
 |cons y r=>
  rcases An.1 h with rfl|h
  ·exact .head _
  ·rcases cptG_mem r y x h with rfl|h
   ·exact .head _
   ·exact .tail _ h
def S9 {α:Type} [DecidableEq α] {lt:α→α→Prop} (ht:TO lt):∀(r:List α) (p:α),(p::r).Pairwise (fun a b=>¬lt b a)→(p::Qk eqs p r).Pairwise lt
 |[],p,_=>by simp [Qk]
 |c::r,p,h=>by
  rw [By] at h;have ih:=S9 ht r c h.2;simp only [Qk];by_cases hc:c=p
  ·subst hc;rw [if_pos (by simp [eqs])];exact ih
  ·rw [if_neg (by simp [eqs,hc])];rw [By];refine ⟨fun x hx=> ?_,ih⟩;have hpc:lt p c:=by
    rcases ht.tri p c with h1|h1|h1
    ·exact h1
    ·exact absurd h1.symm hc
    ·exact absurd h1 (h.1 c (.head _))
   rcases An.1 hx with rfl|hx
   ·exact hpc
   ·exact ht.tr _ _ _ hpc ((By.1 ih).1 x hx)
def Aq5 {α:Type} [DecidableEq α] {lt:α→α→Prop} (ht:TO lt) (l:List α) (h:l.Pairwise (fun a b=>¬lt b a)):(cpt eqs l).Pairwise lt:=by
 cases l with
 |nil=>simp [cpt]
 |cons x r=>exact S9 ht r x h
def Rh {α:Type} {lt:α→α→Prop} (ht:TO lt):∀(a b:List α),a.Pairwise lt→b.Pairwise lt→(∀x,x∈a↔x∈b)→a=b
 |[],[],_,_,_=>rfl
 |[],y::b,_,_,h=>absurd ((h y).2 (.head _)) (by simp)
 |x::a,[],_,_,h=>absurd ((h x).1 (.head _)) (by simp)
 |x::a,y::b,ha,hb,h=>by
  rw [By] at ha hb;have hxy:x=y:=by
   rcases An.1 ((h x).1 (.head _)) with h1|h1
   ·exact h1
   ·rcases An.1 ((h y).2 (.head _)) with h2|h2
    ·exact h2.symm
    ·exact absurd (hb.1 x h1) (ht.asym (ha.1 y h2))
  subst hxy;rw [Rh ht a b ha.2 hb.2 fun z=> ?_];constructor
  ·intro hz;rcases An.1 ((h z).1 (.tail _ hz)) with rfl|h1
   ·exact absurd (ha.1 z hz) (ht.irr z)
   ·exact h1
  ·intro hz;rcases An.1 ((h z).2 (.tail _ hz)) with rfl|h1
   ·exact absurd (hb.1 z hz) (ht.irr z)
   ·exact h1
def setN (l:List (List UInt8)):List (List UInt8):=cpt eqs (l.mergeSort fun x y=> !decide (Iv y x<0))
def Dp3 (l:List (List UInt8)):(l.mergeSort fun x y=> !decide (Iv y x<0)).Pairwise (fun a b=>¬ltN b a):=by
 have:=List.pairwise_mergeSort (le:=fun x y:List UInt8=> !decide (Iv y x<0)) (fun a b c h1 h2=>by
  simp only [Br,decide_eq_false_iff_not,E6] at h1 h2 ⊢;exact to_N.ntr h2 h1) (fun a b=>by
  simp only [A0,Br,decide_eq_false_iff_not,E6];rcases to_N.tri a b with h|h|h
  ·exact .inl (to_N.asym h)
  ·subst h;exact .inl (to_N.irr a)
  ·exact .inr (to_N.asym h)) l
 refine this.imp fun {a b} h=> ?_;simpa only [Br,decide_eq_false_iff_not,E6] using h
def Md (l:List (List UInt8)):(setN l).Pairwise ltN:=Aq5 to_N _ (Dp3 l)
def Jp (l:List (List UInt8)) (x:List UInt8):x∈setN l↔x∈l:=by unfold setN;rw [Ek6];exact (List.mergeSort_perm _ _).mem_iff
def Wg (l:List (List UInt8)):(setN l).length≤l.length:=by have:=j7 eqs (l.mergeSort fun x y=> !decide (Iv y x<0));rw [fq] at this;exact this
end Go.X.G
/- Data of records: what the reference's functions give. -/
namespace Go.X.G
open Go Go.X
def Fc1 (t:Int):List UInt8:=
 if t=1 then [65] else if t=2 then [78,83] else if t=5 then [67,78,65,77,69] else if t=6 then [83,79,65] else if t=12 then [80,84,82]
 else if t=15 then [77,88] else if t=16 then [84,88,84] else if t=28 then [65,65,65,65] else if t=33 then [83,82,86] else if t=39 then [68,78,65,77,69]
 else if t=43 then [68,83] else if t=46 then [82,82,83,73,71] else if t=47 then [78,83,69,67] else if t=48 then [68,78,83,75,69,89] else []
def t15 (t:Int):t=1∨t=2∨t=5∨t=6∨t=12∨t=15∨t=16∨t=28∨t=33∨t=39∨t=43∨t=46∨t=47∨t=48∨(t≠1∧t≠2∧t≠5∧t≠6∧t≠12∧t≠15∧t≠16∧t≠28∧t≠33∧t≠39∧t≠43∧t≠46∧t≠47∧t≠48):=by omega
def lw (t:Int):S Bk1 1 [.i .i64 t]=some [.s (Fc1 t)]:=by
 refine Fr9 (N:=1) rfl ?_;rcases t15 t with rfl|rfl|rfl|rfl|rfl|rfl|rfl|rfl|rfl|rfl|rfl|rfl|rfl|rfl|⟨h0,h1,h2,h3,h4,h5,h6,h7,h8,h9,h10,h11,h12,h13⟩
 all_goals simp (disch:=omega) only [Ff3,xe,EVP,EV,simprocAttr]
 all_goals first|rfl|(unfold Fc1;simp only [if_neg, *];rfl)
def knw (t:Int):Bool:=decide (t=1)||decide (t=2)||decide (t=5)||decide (t=6)||decide (t=12)||decide (t=15)||decide (t=16)||decide (t=28)||decide (t=33)||decide (t=39)||decide (t=43)||decide (t=46)||decide (t=47)||decide (t=48)
def Cn2 (t:Int):decide (Fc1 t≠[])=knw t:=by
 unfold Fc1 knw;rcases t15 t with rfl|rfl|rfl|rfl|rfl|rfl|rfl|rfl|rfl|rfl|rfl|rfl|rfl|rfl|⟨h0,h1,h2,h3,h4,h5,h6,h7,h8,h9,h10,h11,h12,h13⟩
 all_goals simp [*]
def Cw (t:Int):S Xk 1 [.i .i64 t]=some [.b (knw t)]:=by refine Gj4 (N:=1) rfl ?_;simp (disch:=omega) only [Fg3,lw,Cn2,xe,EVP,EV,simprocAttr]
def dp (t:Int):S Bq3 1 [.i .i64 t]=some [.b (decide (t=6)||decide (t=5)||decide (t=39))]:=by refine Gj0 (N:=1) rfl ?_;simp (disch:=omega) only [Fg1,xe,EVP,EV,simprocAttr]
def Dl (d:Dat):Bool:=d.v6||(decide (d.hi=0) && decide (d.lo<4294967296))
def dm (d:Dat):S yc 1 [Il d]=some [.b (Dl d)]:=by refine Fr7 (N:=1) rfl ?_;unfold Dl;cases h:d.v6<;>by_cases h2:d.hi=0<;>simp (disch:=omega) [Ff1,h,h2,xe,EVP,EV,simprocAttr]
def inB (n most:Int):Bool:=decide (0≤n) && decide (n≤most)
def z6 (n m:Int):S Jk 2 [.i .i64 n, .i .i64 m]=some [.b (inB n m)]:=by refine Fr4 (N:=1) rfl ?_;simp (disch:=omega) only [Fd9,inB,xe,EVP,EV,simprocAttr]
def Bp4 (n:Int):S Bj9 1 [.i .i64 n]=some [.b (inB n 4294967295)]:=by refine Fr5 (N:=1) rfl ?_;simp (disch:=omega) only [Ff0,inB,xe,EVP,EV,simprocAttr];congr 5;simp;omega
def F4 (s:List UInt8):Bool:=decide (1≤s.length) && decide (s.length≤255)
def Ww (s:List UInt8):S ik 1 [.s s]=some [.b (F4 s)]:=by refine Fr3 (N:=1) rfl ?_;simp (disch:=omega) only [Fd8,F4,xe,EVP,EV,simprocAttr];congr 5<;>simp<;>omega
def Az7 {n:List UInt8} (h:vld n=true):0<n.length:=by
 unfold vld nm at h;split at h
 ·rename_i e;simp [e]
 ·split at h
  ·omega
  ·cases h
def Fh (n:List UInt8):Bool:=vld n && decide (n[0]? ≠some 42)
def Hy (n:List UInt8) (hn:n.length≤9223372036854775807):S T1 1 [.s n]=some [.b (Fh n)]:=by
 refine Fr6 (N:=1) rfl ?_;unfold Fh;cases h:vld n
 ·simp (disch:=omega) only [Ey9,Eg,h,xe,EVP,EV,simprocAttr];rfl
 ·have h0:=Az (Az7 h);have h1:=Bt6 (n[0]'(Az7 h)) 42 (by omega);simp (disch:=omega) only [Ey9,Eg,h,h0,xe,EVP,EV,simprocAttr];simp;exact h1
def bit (set:Int) (t:Nat):Int:=set / 2 ^ t % 2
def Fz1 (x:Int):IntKind.u64.wrap ((BitVec.ofInt IntKind.u64.bits x &&& BitVec.ofInt IntKind.u64.bits 1).toNat:Int)=x % 2:=by
 have h2:(BitVec.ofInt 64 x &&& BitVec.ofInt 64 1).toNat=(BitVec.ofInt 64 x).toNat % 2:=by rw [BitVec.toNat_and];show (BitVec.ofInt 64 x).toNat &&& 1=_;exact Nat.and_one_is_mod _
 show IntKind.u64.wrap (((BitVec.ofInt 64 x &&& BitVec.ofInt 64 1).toNat:Nat):Int)=_;rw [h2,BitVec.toNat_ofInt];rw [Fh8]<;>omega
end Go.X.G
/- Data of records: bytes. -/
namespace Go.X.G
open Go Go.X
def t6 (set:Int) (i:Nat):Nat→Bool
 |0=>true
 |k+1=>(!decide (bit set i=1)||knw (i:Int)) && t6 set (i+1) k
def Fz3 (set:Int) (N:Nat) (hN:64<N):
  Dx2.ev S N [.i .u64 set]=some (if t6 set 0 64=true then .yld 0 [] else .ret [.b false]):=by
 refine E2 64 (fun i=>[.i .i64 (i:Int)]) (fun i=>if t6 set i (64 - i)=true then .yld 0 [] else .ret [.b false]) rfl hN (fun i hi=> ?_) ?_
 ·obtain ⟨k,hk⟩:∃k,64 - i=k+1:=⟨63 - i,by omega⟩;have hk':64 - (i+1)=k:=by omega
  have hb:IntKind.u64.bits=64:=rfl;have hi':i<IntKind.u64.bits:=by rw [hb];exact hi
  have h0:X.bin .shr (.i .u64 set) (.i .u64 (i:Int))=some (.i .u64 (set / 2 ^ i)):=vv _ _ _ _ hi';have h1:set / 2 ^ i % 2=bit set i:=rfl;rw [hk,hk'];simp only [t6];by_cases h2:bit set i=1<;>rcases Aq (knw (i:Int)) with h3|h3<;>simp (disch:=omega) only [Df3,Cw,Tx,Fz1,h0,h1,h2,h3,xe,EVP,EV,simprocAttr]
  all_goals simp [Out.goes]
 ·simp (disch:=omega) [Df3,xe,EVP,EV,simprocAttr,Out.goes,t6]
def Fz2 (set:Int):S Bj8 1 [.i .u64 set]=some [.b (t6 set 0 64)]:=by refine Fr2 (N:=65) rfl ?_;simp (disch:=omega) only [Df3,Fz3,xe,EVP,EV,simprocAttr];cases t6 set 0 64<;>rfl
def be (v:Int):Nat→List UInt8
 |0=>[]
 |n+1=>UInt8.ofNat (v / 256 ^ n % 256).toNat::be v n
def Db (v:Int):∀n,(be v n).length=n
 |0=>rfl
 |n+1=>by simp [be,Db v n]
def R6 (z:Int) (h1:0≤z) (h2:z<256):((UInt8.ofNat z.toNat).toNat:Int)=z:=by simp;omega
def j5 (v:Int) (j:Nat):v / 256 ^ j / 256=v / 256 ^ (j+1):=by rw [Int.pow_succ,Int.ediv_ediv_of_nonneg (Int.le_of_lt (Int.pow_pos (by decide)))]
def dw (v:Int) (j:Nat) (h:0≤v):0≤v / 256 ^ j:=Int.ediv_nonneg h (Int.le_of_lt (Int.pow_pos (by decide)))
def dx (v:Int) (j:Nat) (h:0≤v):v / 256 ^ j≤v:=Int.ediv_le_self _ h
def At5 (v:Int) (n i:Nat) (p q:PV) (N:Nat) (hN:i<N) (hi:i≤1000) (h0:0≤v) (h1:v≤18446744073709551615):
  Bx8.ev S N [.i .u64 v,p,q, .i .i64 (i:Int)]=some (.yld 2 [.i .u64 (v / 256 ^ i)]):=by
 refine E2 i (fun j=>[.i .u64 (v / 256 ^ j), .i .i64 (j:Int)]) (fun j=> .yld 2 [.i .u64 (v / 256 ^ i)]) (by simp [Xh,jc,Gm0,Gm4]) hN (fun j hj=> ?_) ?_
 ·left;have h2:=dw v j h0;have h3:=dx v j h0;have h4:=j5 v j;simp (disch:=omega) only [Yt,h4,xe,EVP,EV,simprocAttr];simp
 ·simp (disch:=omega) only [Yt,xe,EVP,EV,simprocAttr];simp [Out.goes]
def At6 (v:Int) (n:Nat) (N:Nat) (hN:n+1<N) (hn:n≤1000) (h0:0≤v) (h1:v≤18446744073709551615):
  il.ev S N [.i .u64 v, .i .i64 (n:Int)]=some (.yld 0 [.l 1 (Bp (be v n))]):=by
 have key:=Hd (fn:=S) (N:=N) (η:=[.i .u64 v, .i .i64 (n:Int)]) (id:=1) (init:=[(.c (.l 1 [])),(.bin .sub (.v 1) (.c (.i .i64 (1))))]) (body:=kg) (α:=Nat×List UInt8) (fun a=>[.l 1 (Bp a.2), .i .i64 ((a.1:Int) - 1)]) (fun a=> .yld 0 [.l 1 (Bp (a.2++be v a.1))]) (fun a=>a.1+a.2.length=n) (fun a=>a.1) (n,[]) (by simp (disch:=omega) only [xe,EVP,EV,simprocAttr];rfl) rfl (by simp only;omega) ?_
 ·simpa [il] using key
 ·rintro ⟨m,acc⟩ hm;simp only at hm ⊢;cases m with
  |zero=>
   right;simp (disch:=omega) only [Yt,xe,EVP,EV,simprocAttr];simp [be,Out.goes]
  |succ m=>
   left;have h2:=dw v m h0;have h3:=dx v m h0;have e:((m+1:Nat):Int) - 1=(m:Int):=by omega
   have e2:=R6 (v / 256 ^ m % 256) (by omega) (by omega);have e3:=K9 acc;refine ⟨(m,acc++[UInt8.ofNat (v / 256 ^ m % 256).toNat]),?_,by simp;omega,by simp,by simp [be]⟩;rw [e];have hin:=At5 v n m (.i .i64 (n:Int)) (.l 1 (Bp acc)) N (by omega) (by omega) h0 h1;simp (disch:=omega) only [Yt,hin,xe,EVP,EV,simprocAttr];rw [←Pq,e2]
def R7 (v:Int) (n:Nat) (hn:n≤1000) (h0:0≤v) (h1:v≤18446744073709551615):S R9 2 [.i .u64 v, .i .i64 (n:Int)]=some [.s (be v n)]:=by refine Eg3 (N:=n+2) rfl ?_;simp (disch:=omega) only [Yt,At6,xe,EVP,EV,simprocAttr]
def Bp6 (v:Int) (n i:Nat) (p q:PV) (N:Nat) (hN:i<N) (hi:i≤1000) (h0:0≤v) (h1:v≤9223372036854775807):
  By0.ev S N [.i .i64 v,p,q, .i .i64 (i:Int)]=some (.yld 2 [.i .i64 (v / 256 ^ i)]):=by
 refine E2 i (fun j=>[.i .i64 (v / 256 ^ j), .i .i64 (j:Int)]) (fun j=> .yld 2 [.i .i64 (v / 256 ^ i)]) (by simp [Xh,jc,Gm0,Gm4]) hN (fun j hj=> ?_) ?_
 ·left;have h2:=dw v j h0;have h3:=dx v j h0;have h4:=j5 v j;simp (disch:=omega) only [Y0,h4,xe,EVP,EV,simprocAttr];simp
 ·simp (disch:=omega) only [Y0,xe,EVP,EV,simprocAttr];simp [Out.goes]
def Bp7 (v:Int) (n:Nat) (N:Nat) (hN:n+1<N) (hn:n≤1000) (h0:0≤v) (h1:v≤9223372036854775807):
  im.ev S N [.i .i64 v, .i .i64 (n:Int)]=some (.yld 0 [.l 1 (Bp (be v n))]):=by
 have key:=Hd (fn:=S) (N:=N) (η:=[.i .i64 v, .i .i64 (n:Int)]) (id:=1) (init:=[(.c (.l 1 [])),(.bin .sub (.v 1) (.c (.i .i64 (1))))]) (body:=km) (α:=Nat×List UInt8) (fun a=>[.l 1 (Bp a.2), .i .i64 ((a.1:Int) - 1)]) (fun a=> .yld 0 [.l 1 (Bp (a.2++be v a.1))]) (fun a=>a.1+a.2.length=n) (fun a=>a.1) (n,[]) (by simp (disch:=omega) only [xe,EVP,EV,simprocAttr];rfl) rfl (by simp only;omega) ?_
 ·simpa [im] using key
 ·rintro ⟨m,acc⟩ hm;simp only at hm ⊢;cases m with
  |zero=>
   right;simp (disch:=omega) only [Y0,xe,EVP,EV,simprocAttr];simp [be,Out.goes]
  |succ m=>
   left;have h2:=dw v m h0;have h3:=dx v m h0;have e:((m+1:Nat):Int) - 1=(m:Int):=by omega
   have e2:=R6 (v / 256 ^ m % 256) (by omega) (by omega);have e3:=K9 acc;refine ⟨(m,acc++[UInt8.ofNat (v / 256 ^ m % 256).toNat]),?_,by simp;omega,by simp,by simp [be]⟩;rw [e];have hin:=Bp6 v n m (.i .i64 (n:Int)) (.l 1 (Bp acc)) N (by omega) (by omega) h0 h1;simp (disch:=omega) only [Y0,hin,xe,EVP,EV,simprocAttr];rw [←Pq,e2]
def Lv (v:Int) (n:Nat) (hn:n≤1000) (h0:0≤v) (h1:v≤9223372036854775807):S Ef 2 [.i .i64 v, .i .i64 (n:Int)]=some [.s (be v n)]:=by refine Eh9 (N:=n+2) rfl ?_;simp (disch:=omega) only [Y0,Bp7,xe,EVP,EV,simprocAttr]
end Go.X.G
/- Data of records: the wire form. -/
namespace Go.X.G
open Go Go.X
def Sg {s:List UInt8} (h:H8 s=true):s.length≤63:=by
 unfold H8 at h;simp at h;rcases h with h|h
 ·simp [h]
 ·omega
def Wx:∀(r:List UInt8) (f:Bool) (cur:List UInt8) (l:List (List UInt8)),spl f cur r=some l→∀x∈l,H8 x=true
 |[],f,cur,l,h=>by simp [spl] at h;subst h;simp
 |c::r,f,cur,l,h=>by
  simp only [spl] at h;split at h
  ·split at h
   ·rename_i h2;obtain ⟨m,hm,rfl⟩:=Aw.1 h;intro x hx;simp at hx;rcases hx with rfl|hx
    ·exact h2.1
    ·exact Wx r _ _ _ hm x hx
   ·cases h
  ·exact Wx r _ _ _ h
def Nn (n:List UInt8):∀x∈lbl n,H8 x=true:=by
 unfold lbl nm;split
 ·simp
 ·split
  ·cases h:spl true [] n with
   |none=>simp
   |some l=>simpa using Wx _ _ _ _ h
  ·simp
def wireL (l:List (List UInt8)):List UInt8:=l.flatMap fun x=>be (x.length:Int) 1++x
def H5 (n:List UInt8):List UInt8:=wireL (lbl n)++be 0 1
def M8:∀(l:List (List UInt8)),(∀x∈l,H8 x=true)→(wireL l).length≤64*l.length
 |[],_=>by simp [wireL]
 |x::l,h=>by have h1:=Sg (h x (by simp));have h2:=M8 l (fun y hy=>h y (by simp [hy]));simp only [wireL,D9,Ab,Db,A5] at h2 ⊢;omega
def M7 (n:List UInt8):(H5 n).length≤20000:=by have h1:=M8 (lbl n) (Nn n);have h2:=F2 n;simp only [H5,Ab,Db];omega
def lv (n:List UInt8) (N:Nat) (hN:254<N):
  ir.ev S N [.s n,Bv (lbl n)]=some (.yld 0 [.s (wireL (lbl n))]):=by
 have hl:=F2 n;have key:=D5 (fn:=S) (N:=N) (η:=[.s n,Bv (lbl n)]) (id:=1) (init:=[(.c (.s [])),(.c (.i .i64 (0)))]) (body:=kr) (lbl n) (fun i (g:List UInt8)=>[.s g, .i .i64 (i:Int)]) (fun i g r=> .yld 0 [.s (g++wireL r)]) (fun i g=>g.length≤64*i) [] rfl (Af _) (by omega) (fun i g c r hd hi hc hI=> ?_) (fun g hI=> ?_)
 ·simpa [ir] using key
 ·left;have h1:=Sg (Nn n c (Ar hc));have h2:=Lv (c.length:Int) 1 (by omega) (by omega) (by omega);have h3:=Db (c.length:Int) 1;have h4:(be (c.length:Int) 1++c).length=1+c.length:=by rw [Ab,h3]
  refine ⟨g++(be (c.length:Int) 1++c),?_,?_,?_⟩
  ·simp only [Int.natCast_one] at h2;simp (disch:=omega) only [Az1,hc,h2,xe,EVP,EV,simprocAttr]
  ·rw [Ab,h4];omega
  ·simp [wireL]
 ·simp (disch:=omega) only [Az1,xe,EVP,EV,simprocAttr];simp [Out.goes,wireL]
def Ev (n:List UInt8) (hn:n.length≤9223372036854775807):S Kp 1 [.s n]=some [.s (H5 n)]:=by refine El0 (N:=255) rfl ?_;have h1:=M8 (lbl n) (Nn n);have h2:=F2 n;have h3:=Db 0 1;have h4:=Lv 0 1 (by omega) (by omega) (by omega);simp only [Int.natCast_one] at h4;simp (disch:=omega) only [Az1,Hk,lv,h4,xe,EVP,EV,simprocAttr];rfl
def bmV (set:Int) (i:Nat):Nat→Int
 |0=>0
 |j+1=>bmV set i j*2+bit set (i*8+j)
def Bl2 (set:Int) (t:Nat):0≤bit set t∧bit set t≤1:=by unfold bit;omega
def Vh (set:Int) (i:Nat):∀j,0≤bmV set i j∧bmV set i j<2 ^ j
 |0=>by simp [bmV]
 |j+1=>by have h1:=Vh set i j;have h2:=Bl2 set (i*8+j);simp only [bmV,Int.pow_succ];omega
def bmB (set:Int) (i:Nat):UInt8:=UInt8.ofNat (bmV set i 8).toNat
def bmL (set:Int):Nat→Nat
 |0=>0
 |i+1=>if bmV set i 8≠0 then i+1 else bmL set i
def Bh5 (set:Int):∀i,bmL set i≤i
 |0=>Af _
 |i+1=>by have:=Bh5 set i;simp only [bmL];split<;>omega
def bmap (set:Int):List UInt8:=((List.range 8).map (bmB set)).take (bmL set 8)
def Bh9 (set:Int) (p q:PV) (i:Nat) (hi:i<8) (N:Nat) (hN:8<N):
  Bx9.ev S N [.i .u64 set,p,q, .i .i64 (i:Int)]=some (.yld 2 [.i .i64 (bmV set i 8)]):=by
 refine E2 8 (fun j=>[.i .i64 (bmV set i j), .i .i64 (j:Int)]) (fun j=> .yld 2 [.i .i64 (bmV set i 8)]) rfl hN (fun j hj=> ?_) ?_
 ·left;have hb:IntKind.u64.bits=64:=rfl;have hi':i*8+j<IntKind.u64.bits:=by rw [hb];omega
  have e:((i:Int)*8+(j:Int))=((i*8+j:Nat):Int):=by simp
  have h0:X.bin .shr (.i .u64 set) (.i .u64 ((i*8+j:Nat):Int))=some (.i .u64 (set / 2 ^ (i*8+j))):=vv _ _ _ _ hi';have h1:set / 2 ^ (i*8+j) % 2=bit set (i*8+j):=rfl;have h2:=Vh set i j;have h3:(2:Int) ^ j≤128:=(by decide:∀j,j<8→(2:Int) ^ j≤128) j hj;have h4:=Bl2 set (i*8+j);simp (disch:=omega) only [Uq,Tx,Fz1,h0,h1,←e,xe,EVP,EV,simprocAttr];refine ⟨?_,trivial⟩;rw [e,h0];simp (disch:=omega) only [Tx,Fz1,h0,h1,xe,EVP,EV,simprocAttr];rfl
 ·simp (disch:=omega) only [Uq,xe,EVP,EV,simprocAttr];simp [Out.goes]
def Bl0 (set:Int) (N:Nat) (hN:8<N):
  By9.ev S N [.i .u64 set]=some (.yld 0 [.l 1 (Bp ((List.range 8).map (bmB set))), .i .i64 (bmL set 8:Int)]):=by
 refine E2 8 (fun i=>[.l 1 (Bp ((List.range i).map (bmB set))), .i .i64 (bmL set i:Int), .i .i64 (i:Int)]) (fun _=> .yld 0 [.l 1 (Bp ((List.range 8).map (bmB set))), .i .i64 (bmL set 8:Int)]) rfl hN (fun i hi=> ?_) ?_
 ·left;have h1:=Bh9 set (.l 1 (Bp ((List.range i).map (bmB set)))) (.i .i64 (bmL set i:Int)) i hi N hN;have h2:=Vh set i 8;have h3:(2:Int) ^ 8=256:=rfl;have h4:=R6 (bmV set i 8) (by omega) (by omega);have h5:(Bp ((List.range i).map (bmB set))).length=i:=by simp [K9]
  have h6:Bp ((List.range (i+1)).map (bmB set))=Bp ((List.range i).map (bmB set))++[.i .u8 (bmV set i 8)]:=by rw [List.range_succ,Fz9,←h4];exact (Pq _ _).symm
  rw [h6];by_cases h7:bmV set i 8=0
  ·simp (disch:=omega) only [Uq,h1,bmL,h7,xe,EVP,EV,simprocAttr];simp
  ·simp (disch:=omega) only [Uq,h1,bmL,xe,EVP,EV,simprocAttr];simp [h7]
 ·simp (disch:=omega) only [Uq,xe,EVP,EV,simprocAttr];simp [Out.goes]
def Bh8 (set:Int):S ah 1 [.i .u64 set]=some [.s (bmap set)]:=by
 refine Eh8 (N:=9) rfl ?_;have h1:=Bh5 set 8;have h2:(Bp ((List.range 8).map (bmB set))).length=8:=by simp [K9]
 have h3:List.drop 0 (List.take (bmL set 8) (Bp ((List.range 8).map (bmB set))))=Bp (bmap set):=by simp only [Ed,bmap,Bp,List.map_take]
 simp (disch:=omega) only [Uq,Bl0,h3,xe,EVP,EV,simprocAttr]
def X6 (set:Int):(bmap set).length≤8:=by simp [bmap];omega
def M9 (d:Dat):List UInt8:=if d.v6 then be d.hi 8++be d.lo 8 else be d.lo 4
def uk (d:Dat) (h:d.wf):S al 1 [Il d]=some (if Dl d=true then [.s (M9 d), .i .i64 0] else [.s [], .i .i64 3]):=by refine El1 (N:=1) rfl ?_;have h1:=h.hi;have h2:=h.lo;have a1:=R7 d.hi 8 (by omega) h1.1 h1.2;have a2:=R7 d.lo 8 (by omega) h2.1 h2.2;have a3:=R7 d.lo 4 (by omega) h2.1 h2.2;have b1:=Db d.hi 8;have b2:=Db d.lo 8;simp only [Int.cast_ofNat_Int] at a1 a2 a3;unfold M9;rcases Aq (Dl d) with h3|h3<;>rcases Aq d.v6 with h4|h4<;>simp (disch:=omega) only [Ez7,dm,h3,h4,a1,a2,a3,xe,EVP,EV,simprocAttr]
def usd (t:Int) (d:Dat):Dat:=
 if t=1∨t=28 then ⟨d.v6,d.hi,d.lo,[],[],[],0,0,0,0,0,0,0⟩
 else if t=2∨t=5∨t=12∨t=39 then ⟨false,0,0,d.host,[],[],0,0,0,0,0,0,0⟩
 else if t=6 then ⟨false,0,0,d.host,d.mail,[],d.a,d.b,d.c,d.d,d.e,0,0⟩
 else if t=15 then ⟨false,0,0,d.host,[],[],d.a,0,0,0,0,0,0⟩
 else if t=16 then ⟨false,0,0,[],[],d.text,0,0,0,0,0,0,0⟩
 else if t=33 then ⟨false,0,0,d.host,[],[],d.a,d.b,d.c,0,0,0,0⟩
 else if t=43∨t=48 then ⟨false,0,0,[],[],d.text,d.a,d.b,d.c,0,0,0,0⟩
 else if t=46 then ⟨false,0,0,d.host,[],d.text,d.a,d.b,d.c,d.d,d.e,d.f,0⟩
 else ⟨false,0,0,d.host,[],[],0,0,0,0,0,0,d.bits⟩
def Gl (t:Int) (d:Dat):S Bk0 2 [.i .i64 t,d.pv]=some [(usd t d).pv]:=by
 refine Fr8 (N:=1) rfl ?_;rcases t15 t with rfl|rfl|rfl|rfl|rfl|rfl|rfl|rfl|rfl|rfl|rfl|rfl|rfl|rfl|⟨h0,h1,h2,h3,h4,h5,h6,h7,h8,h9,h10,h11,h12,h13⟩
 all_goals simp (disch:=omega) only [Ff2,xe,EVP,EV,simprocAttr]
 all_goals first|rfl|(unfold usd;simp [*])
end Go.X.G
/- Data of records: which are valid. -/
namespace Go.X.G
open Go Go.X
def Cc (t:Int) (d:Dat):Bool:=
 if t=1 then Dl d && !d.v6
 else if t=28 then d.v6
 else if t=6 then Fh d.host && Fh d.mail && inB d.a 4294967295 && inB d.b 2147483647 && inB d.c 2147483647 && inB d.d 2147483647 && inB d.e 2147483647
 else if t=15 then Fh d.host && inB d.a 65535
 else if t=16 then decide (d.text.length≤255)
 else if t=33 then Fh d.host && inB d.a 65535 && inB d.b 65535 && inB d.c 65535
 else if t=43 then inB d.a 65535 && inB d.b 255 && inB d.c 255 && F4 d.text
 else if t=46 then knw d.a && decide (d.a≠46) && inB d.b 127 && inB d.c 2147483647 && inB d.d 4294967295 && inB d.e 4294967295 && inB d.f 65535 && Fh d.host && F4 d.text
 else if t=47 then vld d.host && decide (d.bits≠0) && t6 d.bits 0 64
 else if t=48 then (decide (d.a=256)||decide (d.a=257)) && decide (d.b=3) && inB d.c 255 && F4 d.text
 else Fh d.host
def Dc (t:Int) (d:Dat):Bool:=knw t && decide (usd t d=d) && Cc t d
def Ez (t:Int) (d:Dat) (h:d.wf):S yr 2 [.i .i64 t,d.pv]=some [.b (Dc t d)]:=by
 refine Gj3 (N:=1) rfl ?_;have g1:=h.host;have g2:=h.mail;have g3:=h.text;unfold Mc at g1 g2 g3;rcases Aq (knw t) with hk|hk
 ·by_cases hu:usd t d=d
  ·rcases t15 t with rfl|rfl|rfl|rfl|rfl|rfl|rfl|rfl|rfl|rfl|rfl|rfl|rfl|rfl|⟨h0,h1,h2,h3,h4,h5,h6,h7,h8,h9,h10,h11,h12,h13⟩
   ·rcases ch2 (Dl d) (d.v6) with e0|⟨e0,e1⟩|⟨e0,e1⟩
    all_goals simp (disch:=omega) only [L3,Cw,Gl,dm,xe,EVP,EV,simprocAttr,hk,hu, *]
    all_goals (unfold Dc Cc;simp [*])
   ·simp (disch:=omega) only [L3,Cw,Gl,Hy,xe,EVP,EV,simprocAttr,hk,hu];unfold Dc Cc;simp [*]
   ·simp (disch:=omega) only [L3,Cw,Gl,Hy,xe,EVP,EV,simprocAttr,hk,hu];unfold Dc Cc;simp [*]
   ·rcases ch7 (Fh d.host) (Fh d.mail) (inB d.a 4294967295) (inB d.b 2147483647) (inB d.c 2147483647) (inB d.d 2147483647) (inB d.e 2147483647) with e0|⟨e0,e1⟩|⟨e0,e1,e2⟩|⟨e0,e1,e2,e3⟩|⟨e0,e1,e2,e3,e4⟩|⟨e0,e1,e2,e3,e4,e5⟩|⟨e0,e1,e2,e3,e4,e5,e6⟩|⟨e0,e1,e2,e3,e4,e5,e6⟩
    all_goals simp (disch:=omega) only [L3,Cw,Gl,Hy,Bp4,z6,xe,EVP,EV,simprocAttr,hk,hu, *]
    all_goals (unfold Dc Cc;simp [*])
   ·simp (disch:=omega) only [L3,Cw,Gl,Hy,xe,EVP,EV,simprocAttr,hk,hu];unfold Dc Cc;simp [*]
   ·rcases ch2 (Fh d.host) (inB d.a 65535) with e0|⟨e0,e1⟩|⟨e0,e1⟩
    all_goals simp (disch:=omega) only [L3,Cw,Gl,Hy,z6,xe,EVP,EV,simprocAttr,hk,hu, *]
    all_goals (unfold Dc Cc;simp [*])
   ·simp (disch:=omega) only [L3,Cw,Gl,Hy,xe,EVP,EV,simprocAttr,hk,hu];unfold Dc Cc;simp [*];omega
   ·simp (disch:=omega) only [L3,Cw,Gl,Hy,xe,EVP,EV,simprocAttr,hk,hu];unfold Dc Cc;simp [*]
   ·rcases ch4 (Fh d.host) (inB d.a 65535) (inB d.b 65535) (inB d.c 65535) with e0|⟨e0,e1⟩|⟨e0,e1,e2⟩|⟨e0,e1,e2,e3⟩|⟨e0,e1,e2,e3⟩
    all_goals simp (disch:=omega) only [L3,Cw,Gl,Hy,z6,xe,EVP,EV,simprocAttr,hk,hu, *]
    all_goals (unfold Dc Cc;simp [*])
   ·simp (disch:=omega) only [L3,Cw,Gl,Hy,xe,EVP,EV,simprocAttr,hk,hu];unfold Dc Cc;simp [*]
   ·rcases ch4 (inB d.a 65535) (inB d.b 255) (inB d.c 255) (F4 d.text) with e0|⟨e0,e1⟩|⟨e0,e1,e2⟩|⟨e0,e1,e2,e3⟩|⟨e0,e1,e2,e3⟩
    all_goals simp (disch:=omega) only [L3,Cw,Gl,z6,Ww,xe,EVP,EV,simprocAttr,hk,hu, *]
    all_goals (unfold Dc Cc;simp [*])
   ·rcases ch9 (knw d.a) (decide (d.a≠46)) (inB d.b 127) (inB d.c 2147483647) (inB d.d 4294967295) (inB d.e 4294967295) (inB d.f 65535) (Fh d.host) (F4 d.text) with e0|⟨e0,e1⟩|⟨e0,e1,e2⟩|⟨e0,e1,e2,e3⟩|⟨e0,e1,e2,e3,e4⟩|⟨e0,e1,e2,e3,e4,e5⟩|⟨e0,e1,e2,e3,e4,e5,e6⟩|⟨e0,e1,e2,e3,e4,e5,e6,e7⟩|⟨e0,e1,e2,e3,e4,e5,e6,e7,e8⟩|⟨e0,e1,e2,e3,e4,e5,e6,e7,e8⟩
    all_goals simp (disch:=omega) only [L3,Cw,Gl,Hy,z6,Ww,xe,EVP,EV,simprocAttr,hk,hu, *]
    all_goals (unfold Dc Cc;simp [*])
   ·rcases ch3 (vld d.host) (decide (d.bits≠0)) (t6 d.bits 0 64) with e0|⟨e0,e1⟩|⟨e0,e1,e2⟩|⟨e0,e1,e2⟩
    all_goals simp (disch:=omega) only [L3,Cw,Gl,Eg,Fz2,xe,EVP,EV,simprocAttr,hk,hu, *]
    all_goals (unfold Dc Cc;simp [*])
   ·rcases ch4 (decide (d.a=256)||decide (d.a=257)) (decide (d.b=3)) (inB d.c 255) (F4 d.text) with e0|⟨e0,e1⟩|⟨e0,e1,e2⟩|⟨e0,e1,e2,e3⟩|⟨e0,e1,e2,e3⟩
    all_goals simp (disch:=omega) only [L3,Cw,Gl,z6,Ww,xe,EVP,EV,simprocAttr,hk,hu, *]
    all_goals (unfold Dc Cc;simp [*])
   ·simp [knw, *] at hk
  ·simp (disch:=omega) only [L3,Cw,Gl,xe,EVP,EV,simprocAttr,hk,hu];unfold Dc;simp [hu]
 ·simp (disch:=omega) only [L3,Cw,xe,EVP,EV,simprocAttr,hk];unfold Dc;simp [hk]
def Ip (t:Int) (d:Dat):List UInt8:=
 if t=1∨t=28 then M9 d
 else if t=6 then H5 d.host++H5 d.mail++be d.a 4++be d.b 4++be d.c 4++be d.d 4++be d.e 4
 else if t=15 then be d.a 2++H5 d.host
 else if t=16 then be (d.text.length:Int) 1++d.text
 else if t=33 then be d.a 2++be d.b 2++be d.c 2++H5 d.host
 else if t=43∨t=48 then be d.a 2++be d.b 1++be d.c 1++d.text
 else if t=46 then be d.a 2++be 253 1++be d.b 1++be d.c 4++be d.d 4++be d.e 4++be d.f 2++H5 d.host++d.text
 else if t=47 then H5 d.host++be 0 1++be ((bmap d.bits).length:Int) 1++bmap d.bits
 else H5 d.host
def knw_cases {t:Int} (h:knw t=true):t=1∨t=2∨t=5∨t=6∨t=12∨t=15∨t=16∨t=28∨t=33∨t=39∨t=43∨t=46∨t=47∨t=48:=by simp [knw] at h;omega
def Tb (v:Int) (h0:0≤v) (h1:v≤9223372036854775807):S Ef 2 [.i .i64 v, .i .i64 1]=some [.s (be v 1)]:=Lv v 1 (by omega) h0 h1
def Tz (v:Int) (h0:0≤v) (h1:v≤9223372036854775807):S Ef 2 [.i .i64 v, .i .i64 2]=some [.s (be v 2)]:=Lv v 2 (by omega) h0 h1
def Bp8 (v:Int) (h0:0≤v) (h1:v≤9223372036854775807):S Ef 2 [.i .i64 v, .i .i64 4]=some [.s (be v 4)]:=Lv v 4 (by omega) h0 h1
def Q1 (t:Int) (d:Dat) (h:d.wf):S U1 2 [.i .i64 t,d.pv]=some (if Dc t d=true then [.s (Ip t d), .i .i64 0] else if knw t=true then [.s [], .i .i64 5] else [.s [], .i .i64 4]):=by
 refine Em3 (N:=1) rfl ?_;have g1:=h.host;have g2:=h.mail;have g3:=h.text;unfold Mc at g1 g2 g3;have g4:=M7 d.host;have g5:=M7 d.mail;have g6:=X6 d.bits;rcases Aq (knw t) with hk|hk
 ·rcases Aq (Dc t d) with hv|hv
  ·rw [if_pos hv];have hv':=hv;rcases knw_cases hk with rfl|rfl|rfl|rfl|rfl|rfl|rfl|rfl|rfl|rfl|rfl|rfl|rfl|rfl
   ·simp [Dc,Cc] at hv';simp (disch:=omega) only [H2,Cw,Ez _ _ h,uk d h,hk,hv,hv'.2.1,xe,EVP,EV,simprocAttr];rfl
   ·simp (disch:=omega) only [H2,Cw,Ez _ _ h,Ev,hk,hv,xe,EVP,EV,simprocAttr];rfl
   ·simp (disch:=omega) only [H2,Cw,Ez _ _ h,Ev,hk,hv,xe,EVP,EV,simprocAttr];rfl
   ·simp [Dc,Cc,inB,F4] at hv';simp (disch:=first|omega|(simp only [Ab,Db];omega)) only [H2,Cw,Ez _ _ h,Ev,Bp8,hk,hv,xe,EVP,EV,simprocAttr];rfl
   ·simp (disch:=omega) only [H2,Cw,Ez _ _ h,Ev,hk,hv,xe,EVP,EV,simprocAttr];rfl
   ·simp [Dc,Cc,inB,F4] at hv';simp (disch:=first|omega|(simp only [Ab,Db];omega)) only [H2,Cw,Ez _ _ h,Ev,Tz,hk,hv,xe,EVP,EV,simprocAttr];rfl
   ·simp [Dc,Cc,inB,F4] at hv';simp (disch:=first|omega|(simp only [Ab,Db];omega)) only [H2,Cw,Ez _ _ h,Ev,Tb,hk,hv,xe,EVP,EV,simprocAttr];rfl
   ·simp [Dc,Cc] at hv';have ha:Dl d=true:=by simp [Dl,hv'.2]
    simp (disch:=omega) only [H2,Cw,Ez _ _ h,uk d h,hk,hv,ha,xe,EVP,EV,simprocAttr];rfl
   ·simp [Dc,Cc,inB,F4] at hv';simp (disch:=first|omega|(simp only [Ab,Db];omega)) only [H2,Cw,Ez _ _ h,Ev,Tz,hk,hv,xe,EVP,EV,simprocAttr];rfl
   ·simp (disch:=omega) only [H2,Cw,Ez _ _ h,Ev,hk,hv,xe,EVP,EV,simprocAttr];rfl
   ·simp [Dc,Cc,inB,F4] at hv';simp (disch:=first|omega|(simp only [Ab,Db];omega)) only [H2,Cw,Ez _ _ h,Ev,Tb,Tz,hk,hv,xe,EVP,EV,simprocAttr];rfl
   ·simp [Dc,Cc,inB,F4] at hv';have k1:0≤d.a:=by have:=knw_cases hv'.2.1.1.1.1.1.1.1.1;omega
    have k2:=h.a.2;simp (disch:=first|omega|(simp only [Ab,Db];omega)) only [H2,Cw,Ez _ _ h,Ev,Tb,Tz,Bp8,hk,hv,xe,EVP,EV,simprocAttr];rfl
   ·simp (disch:=first|omega|(simp only [Ab,Db];omega)) only [H2,Cw,Ez _ _ h,Ev,Bh8,Tb,hk,hv,xe,EVP,EV,simprocAttr];rfl
   ·simp [Dc,Cc,inB,F4] at hv';simp (disch:=first|omega|(simp only [Ab,Db];omega)) only [H2,Cw,Ez _ _ h,Ev,Tb,Tz,hk,hv,xe,EVP,EV,simprocAttr];rfl
  ·simp (disch:=omega) only [H2,Cw,Ez _ _ h,hk,hv,xe,EVP,EV,simprocAttr]
 ·have hv:Dc t d=false:=by simp [Dc,hk]
  simp (disch:=omega) only [H2,Cw,hk,hv,xe,EVP,EV,simprocAttr]
def Ct0 (t:Int) (a b:Dat):Int:=
 if Dc t a && Dc t b then cmpS (Ip t a) (Ip t b) else if Dc t a then -1 else if Dc t b then 1 else 0
def lm (t:Int) (a b:Dat) (ha:a.wf) (hb:b.wf):S Bj6 3 [.i .i64 t,a.pv,b.pv]=some [.i .i64 (Ct0 t a b)]:=by
 refine Fp9 (N:=1) rfl ?_;unfold Ct0 cmpS;rcases Aq (Dc t a) with h1|h1<;>rcases Aq (Dc t b) with h2|h2
 ·simp (disch:=omega) only [Ey8,Q1 _ _ ha,Q1 _ _ hb,h1,h2,xe,EVP,EV,simprocAttr];cases Op.bytesLess (Ip t a) (Ip t b)
  ·by_cases h3:Ip t a=Ip t b<;>simp [h3]
  ·simp
 all_goals rcases Aq (knw t) with h3|h3<;>simp (disch:=omega) [Ey8,Q1 _ _ ha,Q1 _ _ hb,h1,h2,h3,xe,EVP,EV,simprocAttr]
end Go.X.G
/- Lists of records: what the reference's functions give. -/
namespace Go.X.G
open Go Go.X
def Dq2 (r:Rec):Bool:=vld r.name && knw r.typ && decide (0≤r.ttl) && decide (r.ttl≤2147483647) && Dc r.typ r.data
def dl (r:Rec) (h:r.wf):S Bv5 1 [r.pv]=some [.b (Dq2 r)]:=by
 refine Gv0 (N:=1) rfl ?_;have g:=h.name;unfold Mc at g;unfold Dq2;by_cases h0:0≤r.ttl<;>by_cases h1:r.ttl≤2147483647
 all_goals rcases ch3 (vld r.name) (knw r.typ) (Dc r.typ r.data) with e0|⟨e0,e1⟩|⟨e0,e1,e2⟩|⟨e0,e1,e2⟩
 all_goals simp (disch:=omega) [Fh3,Eg,Cw,Ez _ _ h.data,xe,EVP,EV,simprocAttr, *]
def j9 (a b:Int):Int:=if a<b then -1 else if b<a then 1 else 0
def yq (a b:Int):S Bj7 2 [.i .i64 a, .i .i64 b]=some [.i .i64 (j9 a b)]:=by
 refine Fr0 (N:=1) rfl ?_;unfold j9;simp (disch:=omega) only [Fd7,xe,EVP,EV,simprocAttr]
 grind
def Qq (a b:Rec):Int:=
 if Iv a.name b.name≠0 then Iv a.name b.name else if j9 a.typ b.typ≠0 then j9 a.typ b.typ else Ct0 a.typ a.data b.data
def ct (a b:Rec) (ha:a.wf) (hb:b.wf):S yp 2 [a.pv,b.pv]=some [.i .i64 (Qq a b)]:=by refine Gj2 (N:=1) rfl ?_;have g1:=ha.name;have g2:=hb.name;unfold Mc at g1 g2;unfold Qq;simp (disch:=omega) only [Fg2,Tf,yq,lm _ _ _ ha.data hb.data,xe,EVP,EV,simprocAttr];by_cases h1:Iv a.name b.name=0<;>by_cases h2:j9 a.typ b.typ=0<;>simp [h1,h2]
def isK (n:List UInt8) (t:Int) (r:Rec):Bool:=decide (r.name=n) && decide (r.typ=t)
def findR (l:List Rec) (n:List UInt8) (t:Int):List Rec:=l.filter (isK n t)
def L1 (l:List Rec) (n:List UInt8) (t:Int) (hl:l.length≤1000000):S ix 3 [Ag l, .s n, .i .i64 t]=some [Ag (findR l n t)]:=by
 refine Gv1 (N:=l.length+1) rfl ?_;have key:Dz5.ev S (l.length+1) [Ag l, .s n, .i .i64 t]=some (.yld 0 [Ag ([]++findR l n t)]):=by
  refine D5 l (fun i (g:List Rec)=>[Ag g, .i .i64 (i:Int)]) (fun i g r=> .yld 0 [Ag (g++findR r n t)]) (fun i g=>g.length≤i) [] rfl (B9 _) (by omega) (fun i g c r hd hi hc hI=> ?_) (fun g hI=> ?_)
  ·left;by_cases h:isK n t c=true
   ·refine ⟨g++[c],?_,by simp;omega,by simp [findR,h]⟩;simp [isK] at h;simp (disch:=omega) only [Ay7,hc,h.1,h.2,xe,EVP,EV,simprocAttr]
   ·refine ⟨g,?_,by omega,by simp [findR,h]⟩;simp [isK] at h;by_cases h1:c.name=n
    ·simp (disch:=omega) only [Ay7,hc,h1,h h1,xe,EVP,EV,simprocAttr]
    ·simp (disch:=omega) only [Ay7,hc,h1,xe,EVP,EV,simprocAttr]
  ·simp (disch:=omega) only [Ay7,xe,EVP,EV,simprocAttr];simp [findR,Out.goes]
 simp (disch:=omega) only [Ay7,key,xe,EVP,EV,simprocAttr]
def Dj8 (l:List Rec) (n:List UInt8) (t:Int) (hl:l.length≤1000000):S Bk5 3 [Ag l, .s n, .i .i64 t]=some [Ag (findR l n t)]:=by
 refine Fs3 (N:=l.length+1) rfl ?_;have key:Dx5.ev S (l.length+1) [Ag l, .s n, .i .i64 t]=some (.yld 0 [Ag ([]++findR l n t)]):=by
  refine D5 l (fun i (g:List Rec)=>[Ag g, .i .i64 (i:Int)]) (fun i g r=> .yld 0 [Ag (g++findR r n t)]) (fun i g=>g.length≤i) [] rfl (B9 _) (by omega) (fun i g c r hd hi hc hI=> ?_) (fun g hI=> ?_)
  ·left;by_cases h:isK n t c=true
   ·refine ⟨g++[c],?_,by simp;omega,by simp [findR,h]⟩;simp [isK] at h;simp (disch:=omega) only [Ay1,hc,h.1,h.2,xe,EVP,EV,simprocAttr]
   ·refine ⟨g,?_,by omega,by simp [findR,h]⟩;simp [isK] at h;by_cases h1:c.name=n
    ·simp (disch:=omega) only [Ay1,hc,h1,h h1,xe,EVP,EV,simprocAttr]
    ·by_cases h2:c.typ=t<;>simp (disch:=omega) only [Ay1,hc,h1,h2,xe,EVP,EV,simprocAttr]
  ·simp (disch:=omega) only [Ay1,xe,EVP,EV,simprocAttr];simp [findR,Out.goes]
 simp (disch:=omega) only [Ay1,key,xe,EVP,EV,simprocAttr]
def Ow (a b:List Rec) (ha:a.length≤1000000):S Bv4 2 [Ag a,Ag b]=some [.b (decide (a=b))]:=by
 refine Gq9 (N:=a.length+1) rfl ?_;by_cases hl:a.length=b.length
 ·have key:Dz4.ev S (a.length+1) [Ag a,Ag b]=some (if a.drop 0=b.drop 0 then .yld 0 [] else .ret [.b false]):=by
   refine Dh a (fun i=>[.i .i64 (i:Int)]) (fun i r=>if r=b.drop i then .yld 0 [] else .ret [.b false]) rfl (by omega) (fun i c r hd hi hc=> ?_) ?_
   ·obtain ⟨y,r',hb,hd2,hd3⟩:∃y r',b[i]? =some y∧b.drop i=y::r'∧b.drop (i+1)=r':=⟨b[i]'(by omega),_,Az (by omega),Cf (by omega),rfl⟩;rw [hd2,hd3];by_cases h:c=y
    ·subst h;left;simp (disch:=omega) only [ug,hc,hb,xe,EVP,EV,simprocAttr];simp
    ·right;simp (disch:=omega) only [ug,hc,hb,h,xe,EVP,EV,simprocAttr];simp [h,Out.goes]
   ·have hd2:b.drop a.length=[]:=Fz (by omega);rw [hd2];simp (disch:=omega) only [ug,xe,EVP,EV,simprocAttr];simp [Out.goes]
  simp only [Ed] at key;by_cases h:a=b
  ·rw [if_pos h] at key;simp (disch:=omega) only [ug,key,xe,EVP,EV,simprocAttr]
   try simp [h]
  ·rw [if_neg h] at key;simp (disch:=omega) only [ug,key,xe,EVP,EV,simprocAttr]
   try simp [h]
 ·have h:a≠b:=fun h=>hl (by rw [h]);simp (disch:=omega) [ug,h,xe,EVP,EV,simprocAttr]
def Xb (x:Rec):List Rec→List Rec
 |[]=>[x]
 |y::r=>if Qq y x<0 then y::Xb x r else if Qq y x=0 then (if x.ttl<y.ttl then x::r else y::r) else x::y::r
def Hr (l:List Rec):List Rec:=l.foldl (fun acc x=>Xb x acc) []
def J3 (x:Rec):List Rec→Nat
 |[]=>0
 |y::r=>if Qq y x<0 then J3 x r+1 else 0
def qv (x:Rec):∀l,J3 x l≤l.length
 |[]=>Af _
 |y::r=>by have:=qv x r;simp only [J3];split<;>simp;omega
def Bb5 (x:Rec):∀(l:List Rec),Xb x l=match l[J3 x l]? with
  |some y=>if Qq y x=0 then (if x.ttl<y.ttl then l.set (J3 x l) x else l) else l.take (J3 x l)++[x]++l.drop (J3 x l)
  |none=>l.take (J3 x l)++[x]++l.drop (J3 x l)
 |[]=>rfl
 |y::r=>by
  simp only [Xb,J3];by_cases h:Qq y x<0
  ·simp only [if_pos h,C5];rw [Bb5 x r];cases h2:r[J3 x r]? with
   |none=>simp
   |some z=>by_cases h3:Qq z x=0<;>by_cases h4:x.ttl<z.ttl<;>simp [h3,h4]
  ·simp only [if_neg h,B3];by_cases h3:Qq y x=0<;>by_cases h4:x.ttl<y.ttl<;>simp [h3,h4]
def Xz (x:Rec):∀l,(Xb x l).length≤l.length+1
 |[]=>by simp [Xb]
 |y::r=>by
  have:=Xz x r;simp only [Xb];split
  ·simp;omega
  ·split
   ·split<;>simp
   ·simp
def insR_mem (x:Rec):∀(l:List Rec) (y:Rec),y∈Xb x l→y=x∨y∈l
 |[],y,h=>by simp [Xb] at h;exact .inl h
 |z::r,y,h=>by
  simp only [Xb] at h;split at h
  ·simp at h;rcases h with h|h
   ·exact .inr (by simp [h])
   ·rcases insR_mem x r y h with h|h
    ·exact .inl h
    ·exact .inr (by simp [h])
  ·split at h
   ·split at h
    ·simp at h;rcases h with h|h
     ·exact .inl h
     ·exact .inr (by simp [h])
    ·exact .inr h
   ·simp at h;rcases h with h|h
    ·exact .inl h
    ·exact .inr (by simpa using h)
def Ew8 (l g:List Rec) (i:Nat) (x:Rec) (hx:l[i]? =some x) (hw:∀r∈l,r.wf) (hg:∀r∈g,r.wf) (N:Nat) (hN:g.length<N) (hl:g.length≤1000000):
  Bx7.ev S N [Ag l,Ag g, .i .i64 (i:Int)]=some (.yld 2 [.i .i64 (J3 x g:Int)]):=by
 have key:Bx7.ev S N [Ag l,Ag g, .i .i64 (i:Int)]=some (.yld 2 [.i .i64 ((0+J3 x g:Nat):Int)]):=by
  refine Dh g (fun k=>[.i .i64 (k:Int)]) (fun k r=> .yld 2 [.i .i64 ((k+J3 x r:Nat):Int)]) rfl hN (fun k c r hd hk hc=> ?_) ?_
  ·have h1:=ct c x (hg c (Ar hc)) (hw x (Ar hx));by_cases h:Qq c x<0
   ·left;simp (disch:=omega) only [V9,hc,hx,h1,h,xe,EVP,EV,simprocAttr];refine ⟨trivial,?_⟩;simp only [J3,if_pos h];congr 3;push_cast;omega
   ·right;simp (disch:=omega) only [V9,hc,hx,h1,xe,EVP,EV,simprocAttr];simp [J3,h,Out.goes]
  ·simp (disch:=omega) only [V9,xe,EVP,EV,simprocAttr];simp [J3,Out.goes]
 simpa using key
def Ew9 (l:List Rec) (hw:∀r∈l,r.wf) (N:Nat) (hN:l.length<N) (hl:l.length≤1000000):
  Dz3.ev S N [Ag l]=some (.yld 0 [Ag (Hr l)]):=by
 refine D5 l (fun i (g:List Rec)=>[Ag g, .i .i64 (i:Int)]) (fun i g r=> .yld 0 [Ag (r.foldl (fun acc x=>Xb x acc) g)]) (fun i g=>g.length≤i∧∀r∈g,r.wf) [] rfl ⟨Af _,fun r h=>by cases h⟩ hN (fun i g c r hd hi hc hI=> ?_) (fun g hI=> ?_)
 ·left;obtain ⟨h1,h2⟩:=hI;have hcw:=hw c (Ar hc);have h3:=Ew8 l g i c hc hw h2 N (by omega) (by omega);have h4:=qv c g;have h5:=Xz c g;refine ⟨Xb c g,?_,⟨by omega,fun r hr=> ?_⟩,rfl⟩
  ·rw [Bb5];cases h6:g[J3 c g]? with
   |none=>
    have h7:=List.getElem?_eq_none_iff.1 h6;have h8:J3 c g=g.length:=by omega
    simp (disch:=first|omega|(simp;omega)) only [V9,hc,h3,h8,xe,EVP,EV,simprocAttr];simp
   |some y=>
    have h7:=(Av.1 h6).1;have h8:=ct y c (h2 y (Ar h6)) hcw;by_cases h9:Qq y c=0
    ·by_cases h10:c.ttl<y.ttl
     ·simp (disch:=omega) only [V9,hc,h3,h6,h8,h9,h10,xe,EVP,EV,simprocAttr]
     ·simp (disch:=omega) only [V9,hc,h3,h6,h8,h9,h10,xe,EVP,EV,simprocAttr]
    ·simp (disch:=first|omega|(simp;omega)) only [V9,hc,h3,h6,h8,h9,xe,EVP,EV,simprocAttr];simp
  ·rcases insR_mem c g r hr with h|h
   ·subst h;exact hcw
   ·exact h2 r h
 ·simp (disch:=omega) only [V9,xe,EVP,EV,simprocAttr];simp [Out.goes]
def Oq (l:List Rec) (hw:∀r∈l,r.wf) (hl:l.length≤1000000):S zb 1 [Ag l]=some [Ag (Hr l)]:=by refine Gq8 (N:=l.length+1) rfl ?_;simp (disch:=omega) only [V9,Ew9 l hw,xe,EVP,EV,simprocAttr]
end Go.X.G
/- Zones: what the reference's check gives. -/
namespace Go.X.G
open Go Go.X
def H4 (n top:List UInt8):Bool:=decide (n≠top) && under n top
def Jb (n top:List UInt8) (hn:n.length≤9223372036854775807) (ht:top.length≤9223372036854775807):S Xj 2 [.s n, .s top]=some [.b (H4 n top)]:=by
 refine Ft8 (N:=1) rfl ?_;unfold H4;by_cases h:n=top
 ·simp (disch:=omega) only [Ez2,Gf,h,xe,EVP,EV,simprocAttr];simp
 ·simp (disch:=omega) only [Ez2,Gf,h,xe,EVP,EV,simprocAttr];simp
def Db1 (l:List Rec) (n:List UInt8) (t:Int):Bool:=decide (0<(findR l n t).length)
def Nt (l:List Rec) (n:List UInt8) (t:Int) (hl:l.length≤1000000):S zz 3 [Ag l, .s n, .i .i64 t]=some [.b (Db1 l n t)]:=by refine Gq7 (N:=1) rfl ?_;unfold Db1;simp (disch:=omega) only [Fh2,L1,xe,EVP,EV,simprocAttr];simp
def H9 (r x:Rec):Bool:=
 !decide (x.name=r.name)||(!(decide (x.typ=r.typ) && decide (r.typ≠46) && decide (x.ttl≠r.ttl)) && !(decide (x.typ=r.typ) && (decide (r.typ=6)||decide (r.typ=5)||decide (r.typ=39)) && decide (x≠r)) &&
  !(decide (r.typ=5) && decide (x.typ≠5) && decide (x.typ≠46) && decide (x.typ≠47)))
def Pv (z:Zone) (r:Rec):Bool:=z.recs.all (H9 r)
def Bl6 (z:Zone) (r:Rec) (N:Nat) (hN:z.recs.length<N) (hz:z.recs.length≤1000000):
  Dz2.ev S N [z.pv,r.pv]=some (if Pv z r=true then .yld 0 [] else .ret [.b false]):=by
 refine Dh z.recs (fun i=>[.i .i64 (i:Int)]) (fun i l=>if l.all (H9 r)=true then .yld 0 [] else .ret [.b false]) rfl hN (fun i c l hd hi hc=> ?_) ?_
 ·have key:Bn4.ev S N ([z.pv,r.pv]++[.i .i64 (i:Int)])=some (if H9 r c=true then .yld 1 [.i .i64 ((i:Int)+1)] else .ret [.b false]):=by
   by_cases h1:c.name=r.name
   ·by_cases h2:c.typ=r.typ
    ·simp (disch:=omega) only [Ay6,dp,hc,h1,h2,xe,EVP,EV,simprocAttr];simp only [H9,h1,h2]
     grind
    ·simp (disch:=omega) only [Ay6,dp,hc,h1,h2,xe,EVP,EV,simprocAttr];simp only [H9,h1,h2]
     grind
   ·simp (disch:=omega) only [Ay6,hc,h1,xe,EVP,EV,simprocAttr];simp [H9,h1]
  rw [key];rcases Aq (H9 r c) with h|h<;>simp [h,Out.goes]
 ·simp (disch:=omega) [Ay6,xe,EVP,EV,simprocAttr,Out.goes]
def Bl5 (z:Zone) (r:Rec) (hz:z.recs.length≤1000000):S Bv3 2 [z.pv,r.pv]=some [.b (Pv z r)]:=by refine Gq5 (N:=z.recs.length+1) rfl ?_;simp (disch:=omega) only [Ay6,Bl6,xe,EVP,EV,simprocAttr];cases Pv z r<;>simp
def Hw (z:Zone) (r x:Rec):Bool:=
 !(decide (x.typ=39) && H4 r.name x.name) && !(decide (x.typ=2) && H4 x.name z.origin && H4 r.name x.name && decide (r.typ≠1) && decide (r.typ≠28))
def gn (t:Int):Bool:=decide (t=2)||decide (t=43)||decide (t=47)||decide (t=46)||decide (t=1)||decide (t=28)
def Ws (z:Zone) (r:Rec):Bool:=
 if (lbl r.name)[0]? =some [42]∧(r.typ=2∨r.typ=39) then false
 else z.recs.all (Hw z r) && (if H4 r.name z.origin && Db1 z.recs r.name 2 then gn r.typ else decide (r.typ≠43))
def Rr (z:Zone) (r:Rec) (hz:z.wf) (hr:r.wf) (p:PV) (N:Nat) (hN:z.recs.length<N) (hl:z.recs.length≤1000000):
  Dz1.ev S N [z.pv,r.pv,p]=some (if z.recs.all (Hw z r)=true then .yld 0 [] else .ret [.b false]):=by
 have g1:=hz.origin;have g2:=hr.name;unfold Mc at g1 g2;refine Dh z.recs (fun i=>[.i .i64 (i:Int)]) (fun i l=>if l.all (Hw z r)=true then .yld 0 [] else .ret [.b false]) rfl hN (fun i c l hd hi hc=> ?_) ?_
 ·have g3:=(hz.recs.2 c (Ar hc)).name;unfold Mc at g3;have key:Bn3.ev S N ([z.pv,r.pv,p]++[.i .i64 (i:Int)])=some (if Hw z r c=true then .yld 1 [.i .i64 ((i:Int)+1)] else .ret [.b false]):=by
   by_cases h1:c.typ=39
   ·have h2:c.typ≠2:=by omega
    rcases Aq (H4 r.name c.name) with h3|h3<;>simp (disch:=omega) only [V8,Jb,hc,h1,h3,xe,EVP,EV,simprocAttr]<;>simp [Hw,h1,h3]
   ·by_cases h2:c.typ=2
    ·rcases Aq (H4 r.name c.name) with h3|h3<;>rcases Aq (H4 c.name z.origin) with h4|h4<;>simp (disch:=omega) only [V8,Jb,hc,h2,h3,h4,xe,EVP,EV,simprocAttr]<;>simp [Hw,h2,h3,h4];by_cases h5:r.typ=1<;>by_cases h6:r.typ=28<;>simp [h5,h6]
    ·simp (disch:=omega) only [V8,hc,h1,h2,xe,EVP,EV,simprocAttr];simp [Hw,h1,h2]
  rw [key];rcases Aq (Hw z r c) with h|h<;>simp [h,Out.goes]
 ·simp (disch:=omega) [V8,xe,EVP,EV,simprocAttr,Out.goes]
def Ar5 (z:Zone) (r:Rec) (hz:z.wf) (hr:r.wf) (hl:z.recs.length≤1000000):S Bv2 2 [z.pv,r.pv]=some [.b (Ws z r)]:=by
 refine Gq4 (N:=z.recs.length+1) rfl ?_;have g1:=hz.origin;have g2:=hr.name;unfold Mc at g1 g2;have g3:=F2 r.name;have tail:T.ev S (z.recs.length+1) kz [z.pv,r.pv,Bv (lbl r.name)]=some (.ret [.b (z.recs.all (Hw z r) && (if H4 r.name z.origin && Db1 z.recs r.name 2 then gn r.typ else decide (r.typ≠43)))]):=by
  rcases Aq (z.recs.all (Hw z r)) with h0|h0
  ·rcases Aq (H4 r.name z.origin) with h1|h1<;>rcases Aq (Db1 z.recs r.name 2) with h2|h2
   ·simp (disch:=omega) only [V8,Rr z r hz hr,Jb,Nt,h0,h1,h2,xe,EVP,EV,simprocAttr];simp only [gn]
    grind
   all_goals simp (disch:=omega) only [V8,Rr z r hz hr,Jb,Nt,h0,h1,h2,xe,EVP,EV,simprocAttr]
   all_goals simp
  ·simp (disch:=omega) only [V8,Rr z r hz hr,h0,xe,EVP,EV,simprocAttr];simp
 unfold Ws;cases h:lbl r.name with
 |nil=>
  rw [h] at tail;simp (disch:=first|omega|(simp;omega)) only [↓tail,V8,Hk,h,xe,EVP,EV,simprocAttr];simp
 |cons a l=>
  rw [h] at tail;have g4:0<((a::l).length:Int):=by simp only [A5];omega
  by_cases h1:a=[42]<;>by_cases h2:r.typ=2<;>by_cases h3:r.typ=39
  all_goals first|omega|skip
  all_goals try subst h1
  all_goals simp (disch:=first|omega|(simp;omega)) only [↓tail,V8,Hk,h,h2,h3,xe,EVP,EV,simprocAttr]
  all_goals simp [h2,h3, *]
def Rn (z:Zone) (r:Rec):Bool:=under r.name z.origin && !(decide (r.typ=6) && decide (r.name≠z.origin)) && Pv z r && Ws z r
def Vd (z:Zone):Int:=
 if vld z.origin=false then 2
 else if 2048<z.recs.length then 9
 else if z.recs.all (fun r=>decide ((findR z.recs r.name r.typ).length≤64))=false then 9
 else if z.recs.all Dq2=false then 5
 else if z.recs≠Hr z.recs then 7
 else if (findR z.recs z.origin 6).length≠1∨Db1 z.recs z.origin 2=false then 13
 else if z.recs.all (Rn z)=false then 13
 else 0
def L2 (z:Zone) (N:Nat) (hN:z.recs.length<N) (hl:z.recs.length≤1000000) (p:PV):
  Dz9.ev S N [z.pv,p]=some (if z.recs.all (fun r=>decide ((findR z.recs r.name r.typ).length≤64))=true then .yld 0 [] else .ret [.i .i64 9]):=by
 refine Dh z.recs (fun i=>[.i .i64 (i:Int)]) (fun i l=>if l.all (fun r=>decide ((findR z.recs r.name r.typ).length≤64))=true then .yld 0 [] else .ret [.i .i64 9]) rfl hN (fun i c l hd hi hc=> ?_) ?_
 ·by_cases h:(findR z.recs c.name c.typ).length≤64
  ·left;simp (disch:=omega) only [Kz,L1,hc,xe,EVP,EV,simprocAttr];simp [h]
  ·right;simp (disch:=omega) only [Kz,L1,hc,xe,EVP,EV,simprocAttr];simp [h,Out.goes]
 ·simp (disch:=omega) [Kz,xe,EVP,EV,simprocAttr,Out.goes]
def Oy (z:Zone) (hz:z.wf) (N:Nat) (hN:z.recs.length<N) (hl:z.recs.length≤1000000) (p:PV):
  Dw6.ev S N [z.pv,p]=some (if z.recs.all Dq2=true then .yld 0 [] else .ret [.i .i64 5]):=by
 refine Dh z.recs (fun i=>[.i .i64 (i:Int)]) (fun i l=>if l.all Dq2=true then .yld 0 [] else .ret [.i .i64 5]) rfl hN (fun i c l hd hi hc=> ?_) ?_
 ·have hw:=hz.recs.2 c (Ar hc);rcases Aq (Dq2 c) with h|h
  ·left;simp (disch:=omega) only [Kz,dl c hw,hc,h,xe,EVP,EV,simprocAttr];simp [h]
  ·right;simp (disch:=omega) only [Kz,dl c hw,hc,h,xe,EVP,EV,simprocAttr];simp [h,Out.goes]
 ·simp (disch:=omega) [Kz,xe,EVP,EV,simprocAttr,Out.goes]
def Dj9 (z:Zone) (hz:z.wf) (N:Nat) (hN:z.recs.length<N) (hl:z.recs.length≤1000000) (p1 p2 p3 p4 p5:PV):
  Dw0.ev S N [z.pv,p1,p2,p3,p4,p5]=some (if z.recs.all (Rn z)=true then .yld 0 [] else .ret [.i .i64 13]):=by
 have g1:=hz.origin;unfold Mc at g1;refine Dh z.recs (fun i=>[.i .i64 (i:Int)]) (fun i l=>if l.all (Rn z)=true then .yld 0 [] else .ret [.i .i64 13]) rfl hN (fun i c l hd hi hc=> ?_) ?_
 ·have hw:=hz.recs.2 c (Ar hc);have g2:=hw.name;unfold Mc at g2;have key:Bm0.ev S N ([z.pv,p1,p2,p3,p4,p5]++[.i .i64 (i:Int)])=some (if Rn z c=true then .yld 1 [.i .i64 ((i:Int)+1)] else .ret [.i .i64 13]):=by
   rcases Aq (under c.name z.origin) with h1|h1
   ·by_cases h2:c.typ=6<;>by_cases h3:c.name=z.origin
    all_goals try rw [h3] at h1 g2
    all_goals rcases ch2 (Pv z c) (Ws z c) with e0|⟨e0,e1⟩|⟨e0,e1⟩
    all_goals simp (disch:=omega) only [Kz,Gf,Bl5,Ar5 z c hz hw,hc,h1,h2,h3,xe,EVP,EV,simprocAttr, *]
    all_goals simp [Rn,h1,h2,h3, *]
   ·simp (disch:=omega) only [Kz,Gf,hc,h1,xe,EVP,EV,simprocAttr];simp [Rn,h1]
  rw [key];rcases Aq (Rn z c) with h|h<;>simp [h,Out.goes]
 ·simp (disch:=omega) [Kz,xe,EVP,EV,simprocAttr,Out.goes]
def Aw0 (z:Zone) (hz:z.wf):S Bw2 1 [z.pv]=some [.i .i64 (Vd z)]:=by
 refine Gw1 (N:=z.recs.length+1) rfl ?_;have g1:=hz.origin;unfold Mc at g1;unfold Vd;rcases Aq (vld z.origin) with h1|h1
 ·by_cases h2:2048<z.recs.length
  ·simp (disch:=omega) only [Kz,Eg,h1,h2,xe,EVP,EV,simprocAttr]
  ·rcases Aq (z.recs.all (fun r=>decide ((findR z.recs r.name r.typ).length≤64))) with h3|h3
   ·rcases Aq (z.recs.all Dq2) with h4|h4
    ·by_cases h5:z.recs=Hr z.recs
     ·by_cases h6:(findR z.recs z.origin 6).length=1
      ·rcases Aq (Db1 z.recs z.origin 2) with h7|h7
       ·rcases Aq (z.recs.all (Rn z)) with h8|h8<;>simp (disch:=omega) only [Kz,Eg,L2,Oy z hz,Dj9 z hz,Oq _ hz.recs.2,Ow,L1,Nt,h1,h2,h3,h4,←h5,h6,h7,h8,xe,EVP,EV,simprocAttr]<;>simp
       ·simp (disch:=omega) only [Kz,Eg,L2,Oy z hz,Oq _ hz.recs.2,Ow,L1,Nt,h1,h2,h3,h4,←h5,h6,h7,xe,EVP,EV,simprocAttr];simp
      ·simp (disch:=omega) only [Kz,Eg,L2,Oy z hz,Oq _ hz.recs.2,Ow,L1,Nt,h1,h2,h3,h4,←h5,h6,xe,EVP,EV,simprocAttr];simp
     ·simp (disch:=omega) only [Kz,Eg,L2,Oy z hz,Oq _ hz.recs.2,Ow,h1,h2,h3,h4,h5,xe,EVP,EV,simprocAttr]
    ·simp (disch:=omega) only [Kz,Eg,L2,Oy z hz,h1,h2,h3,h4,xe,EVP,EV,simprocAttr]
   ·simp (disch:=omega) only [Kz,Eg,L2,h1,h2,h3,xe,EVP,EV,simprocAttr]
 ·simp (disch:=omega) only [Kz,Eg,h1,xe,EVP,EV,simprocAttr]
end Go.X.G
/- Names on the way up; delegations above a name. -/
namespace Go.X.G
open Go Go.X
def upN (o n:List UInt8):List (List UInt8):=(List.range ((lbl n).length - (lbl o).length+1)).map fun k=>jn ((lbl n).drop k)
def Jg {o n x:List UInt8} (h:under n o=true):x∈upN o n↔under n x=true∧under x o=true:=by
 obtain ⟨hn,ho,hs⟩:=Ct.1 h;have hle:=hs.length_le;rw [Q2] at hs;unfold upN;rw [Eb];constructor
 ·rintro ⟨k,hk,rfl⟩;rw [E9] at hk;obtain ⟨v1,v2⟩:=Jf hn k;refine ⟨Ct.2 ⟨hn,v1,by rw [v2];exact List.drop_suffix _ _⟩,Ct.2 ⟨v1,ho,?_⟩⟩;rw [v2,hs];have:(lbl n).length - (lbl o).length=k+((lbl n).length - (lbl o).length - k):=by omega
  rw [this,←Cm];exact List.drop_suffix _ _
 ·rintro ⟨h1,h2⟩;obtain ⟨_,hx,h3⟩:=Ct.1 h1;obtain ⟨_,_,h4⟩:=Ct.1 h2;have l1:=h3.length_le;have l2:=h4.length_le;rw [Q2] at h3;refine ⟨(lbl n).length - (lbl x).length,?_,?_⟩
  ·rw [E9];omega
  ·rw [←h3];exact (Y4 hx).symm
def Wq (o n:List UInt8):(upN o n).length≤256:=by have:=F2 n;simp [upN];omega
def Og {o n:List UInt8} {k:Nat} (hk:k≤(lbl n).length - (lbl o).length):(upN o n)[k]? =some (jn ((lbl n).drop k)):=by unfold upN;rw [Bc,B8 (by omega)];rfl
def i8 {n:List UInt8} (h:vld n=true):jn ((lbl n).drop 0)=n:=by rw [Ed];exact (Y4 h).symm
def Y5 {o n:List UInt8} (h:under n o=true) {k:Nat} (hk:k≤(lbl n).length - (lbl o).length):jn ((lbl n).drop k)=o↔k=(lbl n).length - (lbl o).length:=by
 obtain ⟨hn,ho,hs⟩:=Ct.1 h;have hle:=hs.length_le;rw [Q2] at hs;obtain ⟨v1,v2⟩:=Jf hn k;constructor
 ·intro e;have:=congrArg (fun x=>(lbl x).length) e;simp only [v2,Bn] at this;omega
 ·rintro rfl;rw [←hs];exact (Y4 ho).symm
def Az8 {o n:List UInt8} (h:under n o=true) {k:Nat} (hk:k<(lbl n).length - (lbl o).length):parentN (jn ((lbl n).drop k))=jn ((lbl n).drop (k+1))∧Sn (jn ((lbl n).drop k))=true:=by
 obtain ⟨hn,ho,hs⟩:=Ct.1 h;obtain ⟨v1,v2⟩:=Jf hn k;have hne:jn ((lbl n).drop k)≠[46]:=by intro e;have:=(Sz v1).2 e;rw [v2] at this;have:=congrArg List.length this;simp at this;omega
 unfold parentN Sn;rw [if_pos ⟨v1,hne⟩,v2,Cm];exact ⟨rfl,by simp [v1,hne]⟩
def As6 {o:List UInt8} (ho:vld o=true):under (parentN o) o=false:=by
 rcases Aq (under (parentN o) o) with h|h
 ·obtain ⟨_,_,h2⟩:=Ct.1 h;unfold parentN at h2;by_cases hr:o=[46]
  ·rw [if_neg (by simp [hr])] at h2;unfold parentN at h;rw [if_neg (by simp [hr])] at h;obtain ⟨h3,_,_⟩:=Ct.1 h;simp [vld,nm] at h3
  ·rw [if_pos ⟨ho,hr⟩,(Jf ho 1).2] at h2;have:=h2.length_le;have hne:lbl o≠[]:=fun e=>hr ((Sz ho).1 e);have:=Bf.2 hne;simp at*;omega
 ·exact h
def D8 (z:Zone) (r:Rec):Bool:=decide (r.typ=2) && H4 r.name z.origin
def fj (z:Zone) (n:List UInt8):List UInt8→List Rec→List UInt8
 |b,[]=>b
 |b,r::rs=>fj z n (if D8 z r && under n r.name && (decide (b=[])||decide ((lbl r.name).length<(lbl b).length)) then r.name else b) rs
def Bs0 (z:Zone) (n:List UInt8):List UInt8:=fj z n [] z.recs
def j6 (z:Zone) (n:List UInt8):∀(l:List Rec) (b:List UInt8),(b=[]∨under n b=true)→
  (fj z n b l=[]→b=[]∧∀r∈l,D8 z r=true→under n r.name=false)∧
  (fj z n b l≠[]→under n (fj z n b l)=true∧(fj z n b l=b∨∃r∈l,D8 z r=true∧r.name=fj z n b l)∧(b≠[]→(lbl (fj z n b l)).length≤(lbl b).length)∧∀r∈l,D8 z r=true→under n r.name=true→(lbl (fj z n b l)).length≤(lbl r.name).length)
 |[],b,hb=>by simp only [fj];refine ⟨fun h=>⟨h,fun r hr=>by simp at hr⟩,fun h=>⟨hb.resolve_left h, .inl trivial,fun _=>Af _,fun r hr=>by simp at hr⟩⟩
 |r::rs,b,hb=>by
  simp only [fj];have hne:under n r.name=true→r.name≠[]:=fun h e=>by have:=(Ct.1 h).2.1;rw [e] at this;simp [vld,nm] at this
  by_cases hc:(D8 z r && under n r.name && (decide (b=[])||decide ((lbl r.name).length<(lbl b).length)))=true
  ·rw [if_pos hc];simp only [Ay,A0,decide_eq_true_eq] at hc;obtain ⟨⟨c1,c2⟩,c3⟩:=hc;obtain ⟨h1,h2⟩:=j6 z n rs r.name (.inr c2);refine ⟨fun h=>absurd (h1 h).1 (hne c2),fun h=> ?_⟩;obtain ⟨g1,g2,g3,g4⟩:=h2 h;refine ⟨g1, .inr ?_,fun hb0=> ?_,fun x hx hx1 hx2=> ?_⟩
   ·rcases g2 with g2|⟨x,hx,g2⟩
    ·exact ⟨r, .head _,c1,g2.symm⟩
    ·exact ⟨x, .tail _ hx,g2⟩
   ·have:=g3 (hne c2);rcases c3 with c3|c3
    ·exact absurd c3 hb0
    ·omega
   ·rcases An.1 hx with rfl|hx
    ·exact g3 (hne c2)
    ·exact g4 x hx hx1 hx2
  ·rw [if_neg hc];obtain ⟨h1,h2⟩:=j6 z n rs b hb;have hr:D8 z r=true→under n r.name=true→b≠[]∧(lbl b).length≤(lbl r.name).length:=by intro c1 c2;simp only [c1,c2,Bool.and_self,Ey4,A0,decide_eq_true_eq,not_or,Nat.not_lt] at hc;exact hc
   refine ⟨fun h=> ?_,fun h=> ?_⟩
   ·obtain ⟨g1,g2⟩:=h1 h;refine ⟨g1,fun x hx hx1=> ?_⟩;rcases An.1 hx with rfl|hx
    ·rcases Aq (under n x.name) with h3|h3
     ·exact absurd g1 (hr hx1 h3).1
     ·exact h3
    ·exact g2 x hx hx1
   ·obtain ⟨g1,g2,g3,g4⟩:=h2 h;refine ⟨g1,?_,g3,fun x hx hx1 hx2=> ?_⟩
    ·rcases g2 with g2|⟨x,hx,g2⟩
     ·exact .inl g2
     ·exact .inr ⟨x, .tail _ hx,g2⟩
    ·rcases An.1 hx with rfl|hx
     ·obtain ⟨q1,q2⟩:=hr hx1 hx2;have:=g3 q1;omega
     ·exact g4 x hx hx1 hx2
def ed (z:Zone) (n:List UInt8):Bool:=z.recs.any fun r=>D8 z r && decide (r.name≠n) && under n r.name
def um {a b:List UInt8} (h1:under a b=true) (h2:(lbl a).length≤(lbl b).length):a=b:=by obtain ⟨va,vb,s⟩:=Ct.1 h1;exact Sb va vb (s.eq_of_length_le h2).symm
def Dr9 (z:Zone) (n:List UInt8):ed z n=(decide (Bs0 z n≠[]) && decide (Bs0 z n≠n)):=by
 obtain ⟨h1,h2⟩:=j6 z n z.recs [] (.inl rfl);have e:Bs0 z n=fj z n [] z.recs:=rfl;rw [←e] at h1 h2;rw [Ds];unfold ed;simp only [List.any_eq_true,Ay,decide_eq_true_eq];constructor
 ·rintro ⟨r,hr,⟨c1,c2⟩,c3⟩;have hne:Bs0 z n≠[]:=fun h=>by have:=(h1 h).2 r hr c1;rw [c3] at this;cases this
  refine ⟨hne,fun h=> ?_⟩;obtain ⟨_,_,_,g4⟩:=h2 hne;have:=g4 r hr c1 c3;rw [h] at this;exact c2 (um c3 this).symm
 ·rintro ⟨hne,hnn⟩;obtain ⟨g1,g2,_,_⟩:=h2 hne;rcases g2 with g2|⟨r,hr,c1,c2⟩
  ·exact absurd g2 hne
  ·exact ⟨r,hr,⟨c1,by rw [c2];exact hnn⟩,by rw [c2];exact g1⟩
def Ey2 (z:Zone):List (List UInt8):=(z.recs.filter fun r=>under r.name z.origin && !ed z r.name).flatMap fun r=>upN z.origin r.name
def namesN (z:Zone):List (List UInt8):=setN (Ey2 z)
def Br7 (z:Zone) (x:List UInt8):Prop:=∃r∈z.recs,under r.name z.origin=true∧ed z r.name=false∧under r.name x=true∧under x z.origin=true
def tn (z:Zone) (x:List UInt8):x∈Ey2 z↔Br7 z x:=by
 unfold Ey2 Br7;simp only [List.mem_flatMap,Dp,Ay,Br];constructor
 ·rintro ⟨r,⟨hr,h1,h2⟩,h3⟩;obtain ⟨h4,h5⟩:=(Jg h1).1 h3;exact ⟨r,hr,h1,h2,h4,h5⟩
 ·rintro ⟨r,hr,h1,h2,h4,h5⟩;exact ⟨r,⟨hr,h1,h2⟩,(Jg h1).2 ⟨h4,h5⟩⟩
def pq (z:Zone) (l:List (List UInt8)) (h:∀x,x∈l↔Br7 z x):setN l=namesN z:=
 Rh to_N _ _ (Md _) (Md _) fun x=>by rw [Jp,h,namesN,Jp,tn]
def Un (z:Zone) (x:List UInt8):x∈namesN z↔Br7 z x:=by unfold namesN;rw [Jp,tn]
end Go.X.G
