/- Names: what the reference's functions give. -/
import Derived.Test.YtfnmphjdknjkmaaGreatDoorNsecCoversG7
import Derived.Test.YtfnmphjdknjkmaaGreatDoorNsecCoversG8
open Bool renaming eq_false_or_eq_true→Aq,and_eq_true→Aw,or_eq_true→Ap,not_eq_true'→A7,eq_iff_iff→C1,and_true→Ow,eq_false_iff→ov
open Int renaming toNat_natCast→Gs
open List renaming getElem?_eq_some_iff→Av,getElem?_eq_getElem→Az,length_append→Ac,mem_cons→Am,append_assoc→As,length_cons→A3,mem_of_getElem?→Bv,length_pos_iff→Bc,length_nil→Bf,getD_eq_getElem?_getD→Bl,take_append_drop→Bt,cons_append→B5,getElem?_cons_zero→Cb,nil_append→Cg,take_add_one→Cl,drop_eq_getElem_cons→Ct,drop_drop→C2,take_length→Db,drop_zero→D2,length_map→E6,drop_eq_nil_of_le→Gr,cons_prefix_cons→Hw,mem_cons_self→H1,drop_append_of_le_length→Ic,getLast_eq_getElem→I4,flatMap_cons→I6,isSuffixOf_iff_suffix→Kn,append_cancel_right→Ov,reverse_prefix→Fn9,count_eq_zero→Iz4
open Nat renaming le_refl→Af,zero_le→Cz,mod_eq_of_lt→Dk,one_mul→Ex
open Option renaming map_eq_some_iff→Ax,map_some→A4
open Option.some renaming injEq→Ak
set_option maxHeartbeats 1000000
set_option linter.unusedVariables false
set_option linter.unusedSimpArgs false
namespace Go.X.G
open Go Go.X
def Np (c:UInt8):Bool:=decide (97≤(c.toNat:Int)) && decide ((c.toNat:Int)≤122)||decide (48≤(c.toNat:Int)) && decide ((c.toNat:Int)≤57)||decide ((c.toNat:Int)=45)||decide ((c.toNat:Int)=95)
theorem Ag3 (c:UInt8):(decide (97≤(c.toNat:Int)) && decide ((c.toNat:Int)≤122)||decide (48≤(c.toNat:Int)) && decide ((c.toNat:Int)≤57)||decide ((c.toNat:Int)=45)||decide ((c.toNat:Int)=95))=Np c:=rfl
def Jc (s:List UInt8):Bool:=decide (s=[42])||(decide (1≤s.length) && decide (s.length≤63) && s.all Np)
theorem Ag8 (s:List UInt8) (N:Nat) (hN:s.length<N) (hs:s.length≤4294967296):
  Bs4.ev S N [.s s]=some (if s.all Np=true then .yld 0 [] else .ret [.b false]):=by
 refine E2 s (fun i=>[.i .i64 (i:Int)]) (fun i r=>if r.all Np=true then .yld 0 [] else .ret [.b false]) rfl hN (fun i c r hd hi hc=> ?_) ?_
 ·simp (disch:=omega) only [As7,xe,EV,simprocAttr,hc,Ag3];cases h:Np c<;>simp [h,Out.goes]
 ·simp (disch:=omega) [As7,xe,EV,simprocAttr,Out.goes]
theorem Ag7 (s:List UInt8) (hs:s.length≤4294967296):S bg 1 [.s s]=some [.b (Jc s)]:=by
 refine Hz4 (N:=s.length+1) rfl ?_;simp (disch:=omega) only [As7,Ag8,xe,EV,simprocAttr];unfold Jc
 grind
end Go.X.G
/- Names: what the reference's functions give. -/
namespace Go.X.G
open Go Go.X
def spl (first:Bool) (cur:List UInt8):List UInt8→Option (List (List UInt8))
 |[]=>some []
 |c::r=>if c=46 then (if Jc cur=true∧(cur=[42]→first=true) then (spl false [] r).map (cur::·) else none) else spl first (cur++[c]) r
def nm (n:List UInt8):Option (List (List UInt8)):=
 if n=[46] then some [] else if 2≤n.length∧n.length≤254∧n[n.length - 1]? =some 46 then spl true [] n else none
def lbl (n:List UInt8):List (List UInt8):=(nm n).getD []
def vld (n:List UInt8):Bool:=(nm n).isSome
theorem Fs0 {α:Type} (n:List α) (i j:Nat) (c:α) (h:n[i]? =some c) (hj:j≤i):(n.take (i+1)).drop j=(n.take i).drop j++[c]:=by have hi:i<n.length:=(Av.1 h).1;rw [Cl,h,Ic (by simp;omega)];rfl
theorem Fs1 {α:Type} (n:List α) (i:Nat):(n.take i).drop i=[]:=by rw [List.drop_eq_nil_iff];simp;omega
def Tr (l:List (List UInt8)):Option (List (List UInt8))→Out
 |some ls=> .yld 0 [.l 1 ((l++ls).map .s)]
 |none=> .ret [.l 1 [], .b false]
theorem Dr6 (n:List UInt8) (N:Nat) (hN:n.length<N) (hs:n.length≤1000):
  El5.ev S N [.s n]=some (Tr [] (spl true [] n)):=by
 refine Fb n (fun i (g:List (List UInt8)×Nat)=>[.l 1 (g.1.map .s), .i .i64 (g.2:Int), .i .i64 (i:Int)]) (fun i g r=>Tr g.1 (spl (decide (g.2=0)) ((n.take i).drop g.2) r)) (fun i g=>g.1.length≤i∧g.2≤i) ([],0) rfl ⟨Af _,Af _⟩ hN (fun i g c r hd hi hc hI=> ?_) (fun g hI=> ?_)
 ·obtain ⟨l,st⟩:=g;obtain ⟨h1,h2⟩:=hI;simp only at h1 h2 ⊢;have hl:((n.take i).drop st).length≤4294967296:=by simp;omega
  have hm:(l.map PV.s).length=l.length:=E6 ..;have hd':=Fr3 c 46 (by omega);by_cases hdot:c=46
  ·have hdi:=hd'.2 hdot;simp (disch:=omega) only [Yl,xe,EV,simprocAttr,hc,Ag7];simp only [spl,if_pos hdot];by_cases h:Jc ((n.take i).drop st)=true∧((n.take i).drop st=[42]→st=0)
   ·obtain ⟨h3,h4⟩:=h;left;refine ⟨(l++[(n.take i).drop st],i+1),?_,?_,?_⟩
    ·rw [if_neg (by simp only [h3];intro h;simp at h;have:=h4 h.1;omega)];simp
    ·simp;omega
    ·simp only [Fs1];rw [if_pos ⟨h3,by simpa using h4⟩];cases h9:spl false [] r<;>simp [h9,Tr]
   ·right;have h':¬(Jc ((n.take i).drop st)=true∧((n.take i).drop st=[42]→decide (st=0)=true)):=by simpa using h
    rw [if_neg h'];refine ⟨?_,rfl⟩;rw [if_pos]
    ·rfl
    ·cases h5:Jc ((n.take i).drop st)
     ·simp
     ·simp only [h5,true_and] at h;have ⟨h6,h7⟩:=Classical.not_imp.1 h;simp [h6];omega
  ·have hdi:¬(c.toNat:Int)=46:=fun h=>hdot (hd'.1 h);left;refine ⟨(l,st),?_,?_,?_⟩
   ·simp (disch:=omega) only [Yl,xe,EV,simprocAttr,hc]
   ·simp only;omega
   ·simp only [spl];rw [if_neg hdot,Fs0 n i st c hc h2]
 ·simp (disch:=omega) [Yl,xe,EV,simprocAttr,Out.goes,spl,Tr]
theorem split_ok (n:List UInt8) (hs:n.length≤9223372036854775807):S Z8 1 [.s n]=some [Bd (lbl n), .b (vld n)]:=by
 refine Ih2 (N:=n.length+1) rfl ?_;unfold Bd lbl vld nm;by_cases h1:n=[46]
 ·simp (disch:=omega) [Yl,xe,EV,simprocAttr,h1]
 ·rw [if_neg h1];by_cases h2:n.length<2
  ·simp (disch:=omega) only [Yl,xe,EV,simprocAttr,h1];have h3:¬(2≤n.length∧n.length≤254∧n[n.length - 1]? =some 46):=by omega
   rw [if_neg h3];rfl
  ·by_cases h3:254<n.length
   ·simp (disch:=omega) only [Yl,xe,EV,simprocAttr,h1];have h3:¬(2≤n.length∧n.length≤254∧n[n.length - 1]? =some 46):=by omega
    rw [if_neg h3];rfl
   ·have h4:=Az (l:=n) (i:=n.length - 1) (by omega);have h5:((n.length:Int) - 1).toNat=n.length - 1:=by omega
    have h6:=Fr3 (n[n.length - 1]'(by omega)) 46 (by omega);simp (disch:=omega) only [Yl,xe,EV,simprocAttr,h1,h4,h5,Dr6];by_cases h7:n[n.length - 1]'(by omega)=46
    ·rw [if_pos (show 2≤n.length∧n.length≤254∧some (n[n.length - 1]'(by omega))=some 46 from ⟨by omega,by omega,by rw [h7]⟩),if_neg (fun h=>h (h6.2 h7))];cases h8:spl true [] n
     ·simp [Tr,Dz4]
     ·simp (disch:=omega) [Yl,Tr,xe,EV,simprocAttr]
    ·rw [if_neg (show¬(2≤n.length∧n.length≤254∧some (n[n.length - 1]'(by omega))=some 46) from fun h=>h7 (by simpa using h.2.2)),if_pos (show (((n[n.length - 1]'(by omega)).toNat:Int)≠46) from fun h=>h7 (h6.1 h))];rfl
end Go.X.G
/- Names: what the reference's functions give, ctd. -/
namespace Go.X.G
open Go Go.X
theorem gr:∀(r:List UInt8) (f:Bool) (cur:List UInt8) (l:List (List UInt8)),spl f cur r=some l→l.length≤r.length
 |[],f,cur,l,h=>by simp [spl] at h;simp [←h]
 |c::r,f,cur,l,h=>by
  simp only [spl] at h;split at h
  ·split at h
   ·obtain ⟨m,hm,rfl⟩:=Ax.1 h;have:=gr r _ _ _ hm;simp;omega
   ·cases h
  ·have:=gr r _ _ _ h;simp;omega
theorem Hg8 {n:List UInt8} {l:List (List UInt8)} (h:nm n=some l):l.length≤254:=by
 unfold nm at h;split at h
 ·injection h with h;subst h;simp
 ·split at h
  ·rename_i h2;have:=gr _ _ _ _ h;omega
  ·cases h
theorem Ip (n:List UInt8):(lbl n).length≤254:=by
 unfold lbl;cases h:nm n with
 |none=>simp
 |some l=>exact Hg8 h
def O7 {α:Type} [DecidableEq α]:List α→List α→Nat
 |x::xs,y::ys=>if x=y then O7 xs ys+1 else 0
 |_,_=>0
def Gt (a b:List (List UInt8)):Nat:=O7 a.reverse b.reverse
theorem Cq9 {α:Type} [DecidableEq α]:∀(a b:List α),O7 a b≤a.length∧O7 a b≤b.length
 |[],b=>by simp [O7]
 |x::xs,[]=>by simp [O7]
 |x::xs,y::ys=>by have:=Cq9 xs ys;simp only [O7];split<;>simp<;>omega
theorem tw (a b:List (List UInt8)):Gt a b≤a.length∧Gt a b≤b.length:=by have:=Cq9 a.reverse b.reverse;simpa [Gt] using this
theorem Gj2 (a b:List (List UInt8)) (N:Nat) (hN:a.length<N) (ha:a.length≤1000000) (hb:b.length≤1000000):
  Bp9.ev S N [Bd a,Bd b]=some (.yld 0 [.i .i64 (Gt a b:Int)]):=by
 have key:=Jh (fn:=S) (N:=N) (η:=[Bd a,Bd b]) (id:=1) (init:=[(.c (.i .i64 (0)))]) (body:=Dx5) (α:=Nat) (fun k=>[.i .i64 (k:Int)]) (fun k=> .yld 0 [.i .i64 ((k+O7 (a.reverse.drop k) (b.reverse.drop k):Nat):Int)]) (fun k=>k≤a.length∧k≤b.length) (fun k=>a.length - k) 0 rfl ⟨Cz _,Cz _⟩ (by omega) ?_
 ·simpa [Gt,Bp9] using key
 ·rintro k ⟨h1,h2⟩;by_cases h3:k<a.length
  ·by_cases h4:k<b.length
   ·have e1:((a.length:Int) - 1 - k).toNat=a.length - 1 - k:=by omega
    have e2:((b.length:Int) - 1 - k).toNat=b.length - 1 - k:=by omega
    have g1:a[a.length - 1 - k]? =some (a[a.length - 1 - k]'(by omega)):=Az (by omega);have g2:b[b.length - 1 - k]? =some (b[b.length - 1 - k]'(by omega)):=Az (by omega);have d1:a.reverse.drop k=(a[a.length - 1 - k]'(by omega))::a.reverse.drop (k+1):=by rw [Ct (by simpa using h3)];simp
    have d2:b.reverse.drop k=(b[b.length - 1 - k]'(by omega))::b.reverse.drop (k+1):=by rw [Ct (by simpa using h4)];simp
    simp (disch:=omega) only [Df4,xe,EVP,EV,simprocAttr,e1,e2,g1,g2];rw [d1,d2];simp only [O7];by_cases h:a[a.length - 1 - k]'(by omega)=b[b.length - 1 - k]'(by omega)
    ·left;refine ⟨k+1,by simp [h],⟨by omega,by omega⟩,by omega,?_⟩;rw [if_pos h];congr 3
     push_cast
     omega
    ·right;simp [h,Out.goes]
   ·right;have d2:b.reverse.drop k=[]:=Gr (by simp;omega);have z:O7 (a.reverse.drop k) []=0:=by cases a.reverse.drop k<;>rfl
    rw [d2,z];simp (disch:=omega) [Df4,xe,EVP,EV,simprocAttr,Out.goes]
  ·right;have d1:a.reverse.drop k=[]:=Gr (by simp;omega);have z:O7 [] (b.reverse.drop k)=0:=rfl;rw [d1,z];simp (disch:=omega) [Df4,xe,EVP,EV,simprocAttr,Out.goes]
theorem ik (a b:List (List UInt8)) (ha:a.length≤1000000) (hb:b.length≤1000000):S Af0 2 [Bd a,Bd b]=some [.i .i64 (Gt a b:Int)]:=by refine Ih1 (N:=a.length+1) rfl ?_;simp (disch:=omega) only [Df4,Gj2,xe,EVP,EV,simprocAttr]
def under (n top:List UInt8):Bool:=vld n && vld top && decide (Gt (lbl n) (lbl top)=(lbl top).length)
theorem Lz (n top:List UInt8) (hn:n.length≤9223372036854775807) (ht:top.length≤9223372036854775807):S Ag0 2 [.s n, .s top]=some [.b (under n top)]:=by
 refine In3 (N:=1) rfl ?_;have h1:=Ip n;have h2:=Ip top;unfold under;cases h3:vld n<;>cases h4:vld top<;>simp (disch:=omega) only [Ic1,split_ok,ik,h3,h4,xe,EVP,EV,simprocAttr]
 all_goals (simp;try omega)
def cmpS (a b:List UInt8):Int:=if Op.bytesLess a b then -1 else if a=b then 0 else 1
theorem Nj (a b:List UInt8):S Ad9 2 [.s a, .s b]=some [.i .i64 (cmpS a b)]:=by
 refine Ih0 (N:=1) rfl ?_;unfold cmpS;simp (disch:=omega) only [Iz6,xe,EVP,EV,simprocAttr];cases h:Op.bytesLess a b
 ·by_cases h2:a=b<;>simp [h2]
 ·simp
def Hq (a b:List UInt8):Int:=
 if vld a && vld b then
  let k:=Gt (lbl a) (lbl b)
  if k<(lbl a).length∧k<(lbl b).length then cmpS ((lbl a).getD ((lbl a).length - 1 - k) []) ((lbl b).getD ((lbl b).length - 1 - k) [])
  else if (lbl a).length<(lbl b).length then -1 else if (lbl b).length<(lbl a).length then 1 else 0
 else if vld a then -1 else if vld b then 1 else cmpS a b
theorem Kv (a b:List UInt8) (hn:a.length≤9223372036854775807) (ht:b.length≤9223372036854775807):S Af9 2 [.s a, .s b]=some [.i .i64 (Hq a b)]:=by
 refine In2 (N:=1) rfl ?_;have h1:=Ip a;have h2:=Ip b;have h5:=tw (lbl a) (lbl b);unfold Hq;cases h3:vld a<;>cases h4:vld b
 ·simp (disch:=omega) [Ar6,split_ok,Nj,h3,h4,xe,EVP,EV,simprocAttr]
 ·simp (disch:=omega) [Ar6,split_ok,Nj,h3,h4,xe,EVP,EV,simprocAttr]
 ·simp (disch:=omega) [Ar6,split_ok,Nj,h3,h4,xe,EVP,EV,simprocAttr]
 ·by_cases h6:Gt (lbl a) (lbl b)<(lbl a).length∧Gt (lbl a) (lbl b)<(lbl b).length
  ·obtain ⟨h7,h8⟩:=h6;have e1:(((lbl a).length:Int) - 1 - (Gt (lbl a) (lbl b):Int)).toNat=(lbl a).length - 1 - Gt (lbl a) (lbl b):=by omega
   have e2:(((lbl b).length:Int) - 1 - (Gt (lbl a) (lbl b):Int)).toNat=(lbl b).length - 1 - Gt (lbl a) (lbl b):=by omega
   have g1:=Az (l:=lbl a) (i:=(lbl a).length - 1 - Gt (lbl a) (lbl b)) (by omega);have g2:=Az (l:=lbl b) (i:=(lbl b).length - 1 - Gt (lbl a) (lbl b)) (by omega);simp (disch:=omega) only [Ar6,split_ok,ik,Nj,h3,h4,e1,e2,g1,g2,xe,EVP,EV,simprocAttr];simp [h7,h8,g1,g2]
  ·simp (disch:=omega) only [Ar6,split_ok,ik,Nj,h3,h4,xe,EVP,EV,simprocAttr];simp only [h6]
   grind
end Go.X.G
/- The library's functions on strings. -/
namespace Go.X.G
open Go Go.X
theorem Gb6 (x:List UInt8) (c:UInt8):S t6 2 [.s x, .i .u8 (c.toNat:Int)]=some [.i .i64 (x.count c:Int)]:=
 Hw4 (args:=[.s x, .i .u8 (c.toNat:Int)]) (by simp [XK.run,Ay4,Lib.countByte])
theorem Gx0 (x:List UInt8) (c:UInt8):S uj 2 [.s x, .i .u8 (c.toNat:Int)]=some [.i .i64 (Lib.indexByte x c)]:=
 Hw5 (args:=[.s x, .i .u8 (c.toNat:Int)]) (by simp [XK.run,Ay4])
theorem Gb7 (x y:List UInt8):S uk 2 [.s x, .s y]=some [.i .i64 (Lib.compareBytes x y)]:=
 Hx5 (args:=[.s x, .s y]) (by simp [XK.run,Ds4])
theorem N9 (x:List UInt8) (c:UInt8):S Uw 2 [.s x, .i .u8 (c.toNat:Int)]=some [.i .i64 (Lib.indexByte x c)]:=by refine Hx4 (N:=1) rfl ?_;simp (disch:=omega) only [Gr7,Gx0,xe,EVP,EV,simprocAttr]
theorem et (x:List UInt8) (c:UInt8):S bf 2 [.s x, .i .u8 (c.toNat:Int)]=some [.i .i64 (Lib.indexByte x c)]:=by refine Hz1 (N:=1) rfl ?_;simp (disch:=omega) only [Gs2,N9,xe,EVP,EV,simprocAttr]
theorem My (c:UInt8):∀(x:List UInt8),c∉x→Lib.indexByte x c= -1
 |[],_=>rfl
 |b::l,h=>by have h1:b≠c:=fun e=>h (by simp [e]);have h2:=My c l (fun e=>h (by simp [e]));simp [Lib.indexByte,h1,h2]
theorem Jd (c:UInt8) (post:List UInt8):∀(pre:List UInt8),c∉pre→Lib.indexByte (pre++c::post) c=(pre.length:Int)
 |[],_=>by simp [Lib.indexByte]
 |b::l,h=>by
  have h1:b≠c:=fun e=>h (by simp [e]);have h2:=Jd c post l (fun e=>h (by simp [e]));simp only [B5,Lib.indexByte,h2];simp [h1]
  try omega
theorem dot_split (c:UInt8):∀(s:List UInt8),c∉s∨∃pre post,s=pre++c::post∧c∉pre
 |[]=> .inl (by simp)
 |b::l=>by
  by_cases h:b=c
  ·exact .inr ⟨[],l,by simp [h],by simp⟩
  ·rcases dot_split c l with h1|⟨pre,post,rfl,h2⟩
   ·exact .inl (by simp [h1,Ne.symm h])
   ·exact .inr ⟨b::pre,post,by simp,by simp [h2,Ne.symm h]⟩
def pcs (cur:List UInt8):List UInt8→List (List UInt8)
 |[]=>[cur]
 |c::r=>if c=46 then cur::pcs [] r else pcs (cur++[c]) r
def cut (s:List UInt8):List (List UInt8):=pcs [] s
theorem Bd9 (post:List UInt8):∀(pre cur:List UInt8),(46:UInt8)∉pre→pcs cur (pre++46::post)=(cur++pre)::pcs [] post
 |[],cur,_=>by simp [pcs]
 |b::l,cur,h=>by have h1:b≠46:=fun e=>h (by simp [e]);have h2:=Bd9 post l (cur++[b]) (fun e=>h (by simp [e]));simp [pcs,h1,h2]
theorem Wz:∀(s cur:List UInt8),(46:UInt8)∉s→pcs cur s=[cur++s]
 |[],cur,_=>by simp [pcs]
 |b::l,cur,h=>by have h1:b≠46:=fun e=>h (by simp [e]);have h2:=Wz l (cur++[b]) (fun e=>h (by simp [e]));simp [pcs,h1,h2]
theorem Cq8 (s:List UInt8):(cut s).length=s.count 46+1:=by
 have:∀(s cur:List UInt8),(pcs cur s).length=s.count 46+1:=by
  intro s
  induction s with
  |nil=>intro cur;rfl
  |cons c r ih=>
   intro cur;by_cases h:c=46<;>simp [pcs,h,ih]
 exact this s []
theorem Am8 (s:List UInt8) (hs:s.length≤9223372036854775807):S ab 2 [.s s, .s [46]]=some [.i .i64 (Lib.indexByte s 46)]:=by
 refine Hw3 (N:=1) rfl ?_;have h1:=N9 s 46;have e:(((46:UInt8).toNat:Nat):Int)=46:=rfl;rw [e] at h1;by_cases h:[46]=s
 ·subst h;simp (disch:=omega) only [Ed2,xe,EVP,EV,simprocAttr];rfl
 ·simp (disch:=omega) only [Ed2,h,h1,e,xe,EVP,EV,simprocAttr]
theorem ep (s:List UInt8) (hs:s.length≤9223372036854775807):S Uq 2 [.s s, .s [46]]=some [.i .i64 (Lib.indexByte s 46)]:=by refine Hx1 (N:=1) rfl ?_;simp (disch:=omega) only [Gr5,Am8,xe,EVP,EV,simprocAttr]
theorem Db6 (s:List UInt8):S al 2 [.s s, .s [46]]=some [.i .i64 (s.count 46:Int)]:=by refine Hx2 (N:=1) rfl ?_;have h1:=Gb6 s 46;have e:(((46:UInt8).toNat:Nat):Int)=46:=rfl;rw [e] at h1;simp (disch:=omega) only [Gr6,h1,e,xe,EVP,EV,simprocAttr]
def Cj7 (done rest:List (List UInt8)):Out:=
 .yld 0 [.s ((done++rest).getLastD []),Bd ((done++rest).dropLast++[[]]), .i .i64 (((done++rest).length:Int) - 1)]
theorem jl (s:List UInt8) (N:Nat) (hN:s.length<N) (hs:s.length≤1000000) (p q:PV):
  jy.ev S N [.s s, .s [46], .i .i64 0,p, .i .i64 ((s.count 46:Int)+1)]=some (Cj7 [] (cut s)):=by
 have hc0:s.count 46≤s.length:=List.count_le_length;have key:=Jh (fn:=S) (N:=N) (η:=[.s s, .s [46], .i .i64 0,p, .i .i64 ((s.count 46:Int)+1)]) (id:=1) (init:=[(.v 0),(.rep 1 (.mn (.v 4) (.bin .add (.slen (.v 0)) (.c (.i .i64 (1))))) (.c (.s []))),(.c (.i .i64 (0)))]) (body:=mr) (α:=List (List UInt8)×List UInt8)
  (fun a=>[.s a.2,Bd (a.1++List.replicate (a.2.count 46+1) []), .i .i64 (a.1.length:Int)]) (fun a=>Cj7 a.1 (cut a.2)) (fun a=>a.1.length+a.2.count 46=s.count 46∧a.2.length≤s.length) (fun a=>a.2.length) ([],s) ?_ ⟨by simp,Af _⟩ hN ?_
 ·simpa [jy] using key
 ·have e:((s.count 46:Int)+1).toNat=s.count 46+1:=by omega
  simp (disch:=omega) only [e,xe,EVP,EV,simprocAttr]
 ·rintro ⟨done,rest⟩ ⟨h1,h2⟩;simp only at h1 h2 ⊢;rcases dot_split 46 rest with h|⟨pre,post,rfl,h⟩
  ·right;have c0:rest.count 46=0:=Iz4.2 h;have i0:=My 46 rest h;have cu:cut rest=[rest]:=by simpa [cut] using Wz rest [] h
   refine ⟨?_,rfl⟩;rw [c0];rw [c0] at h1;simp (disch:=omega) only [As5,ep,i0,xe,EVP,EV,simprocAttr];simp [Cj7,cu,List.getLastD_eq_getLast?]
  ·left;have c0:(pre++46::post).count 46=post.count 46+1:=by rw [List.count_append,Iz4.2 h];simp
   have i0:=Jd 46 post pre h;have cu:cut (pre++46::post)=pre::cut post:=by simpa [cut] using Bd9 post pre [] h
   have hl:(pre++46::post).length=pre.length+post.length+1:=by simp;omega
   have sl1:List.drop (0:Int).toNat (List.take ((pre.length:Int)+0).toNat (pre++46::post))=pre:=by simp
   have sl2:List.drop ((pre.length:Int)+1).toNat (List.take (pre++46::post).length (pre++46::post))=post:=by
    have:((pre.length:Int)+1).toNat=pre.length+1:=by omega
    rw [this,Db,List.drop_append];simp
   have sl3:(done++[]::[]::List.replicate (post.count 46) ([]:List UInt8)).length=done.length+post.count 46+2:=by simp;omega
   refine ⟨(done++[pre],post),?_,⟨by simp;omega,by simp only;omega⟩,by simp;omega,by simp [Cj7,cu]⟩;rw [c0];rw [c0] at h1;simp (disch:=omega) only [As5,ep,i0,sl1,sl2,xe,EVP,EV,simprocAttr];simp [List.replicate_succ,List.set_append]
theorem jh (s:List UInt8) (hs:s.length≤1000000):S bz 4 [.s s, .s [46], .i .i64 0, .i .i64 (-1)]=some [Bd (cut s)]:=by
 refine Hy8 (N:=s.length+1) rfl ?_;have h1:=Cq8 s;have h2:s.count 46≤s.length:=List.count_le_length;obtain ⟨l,x,hx⟩:∃l x,cut s=l++[x]:=⟨(cut s).dropLast,(cut s).getLast (by intro e;simp [e] at h1),(List.dropLast_concat_getLast _).symm⟩;have h3:l.length=s.count 46:=by rw [hx] at h1;simpa using h1
 have h4:((l.length:Int)+1 - 1)=(l.length:Int):=by omega
 have h5:((l++[([]:List UInt8)]).length:Int)=l.length+1:=by simp
 have h6:((l++[x]).length:Int)=l.length+1:=by simp
 have g1:(l++[([]:List UInt8)])[l.length]? =some []:=by simp
 have g2:(l++[x]).getLastD []=x:=by simp [List.getLastD_eq_getLast?]
 have g3:(l++[([]:List UInt8)]).set l.length x=l++[x]:=by simp
 have hk:=jl s (s.length+1) (by omega) hs (.i .i64 (-1)) .u;rw [hx] at hk ⊢;simp only [Cj7,Cg,List.dropLast_concat] at hk;simp (disch:=omega) only [As5,Db6,hk,h4,h6,g1,g2,g3,xe,EVP,EV,simprocAttr];have g4:((l.length:Int)+1).toNat=(l++[x]).length:=by simp
 rw [g4,Db];rfl
theorem ew (s:List UInt8) (hs:s.length≤1000000):S Um 2 [.s s, .s [46]]=some [Bd (cut s)]:=by refine Hb7 (N:=1) rfl ?_;simp (disch:=omega) only [Gs9,jh,xe,EVP,EV,simprocAttr]
theorem Yw (s t:List UInt8) (hs:s.length≤9223372036854775807):S bd 2 [.s s, .s t]=some [.b (t.isSuffixOf s)]:=by
 refine Hy9 (N:=1) rfl ?_;by_cases h:t.length≤s.length
 ·have e:((s.length:Int) - (t.length:Int)).toNat=s.length - t.length:=by omega
  simp (disch:=omega) only [Ed7,e,xe,EVP,EV,simprocAttr];simp only [Db];congr 4;rw [C1,Kn,decide_eq_true_eq];refine ⟨fun h=>h▸List.drop_suffix _ _,fun h=> ?_⟩;obtain ⟨p,rfl⟩:=h;simp
 ·have h2:t.isSuffixOf s=false:=by rw [ov,ne_eq,Kn];exact fun h'=>h h'.length_le
  simp (disch:=omega) only [Ed7,h2,xe,EVP,EV,simprocAttr]
theorem Lc (s t:List UInt8) (hs:s.length≤9223372036854775807):S Un 2 [.s s, .s t]=some [.b (t.isSuffixOf s)]:=by refine Hb8 (N:=1) rfl ?_;simp (disch:=omega) only [Gt0,Yw,xe,EVP,EV,simprocAttr]
theorem nc (x y:List UInt8):S bh 2 [.s x, .s y]=some [.i .i64 (Lib.compareBytes x y)]:=by refine Hz5 (N:=1) rfl ?_;simp (disch:=omega) only [Gs3,Gb7,xe,EVP,EV,simprocAttr]
theorem nw (x y:List UInt8):S Z9 2 [.s x, .s y]=some [.i .i64 (Lib.compareBytes x y)]:=by refine Ih5 (N:=1) rfl ?_;simp (disch:=omega) only [Iz7,nc,xe,EVP,EV,simprocAttr]
end Go.X.G
/- Names and their labels. -/
namespace Go.X.G
open Go Go.X
def flat (l:List (List UInt8)):List UInt8:=l.flatMap fun x=>x++[46]
def jn (l:List (List UInt8)):List UInt8:=if l=[] then [46] else flat l
def Gh (first:Bool):List (List UInt8)→Bool
 |[]=>true
 |p::r=>Jc p && (!decide (p=[42])||first) && Gh false r
theorem Gw1:Np 46=false:=by decide
theorem K8 {p:List UInt8} (h:Jc p=true):(46:UInt8)∉p:=by
 unfold Jc at h;simp at h;rcases h with rfl|⟨_,h⟩
 ·decide
 ·intro h2;have:=h 46 h2;rw [Gw1] at this;cases this
theorem u5 {p:List UInt8} (h:Jc p=true):p≠[]:=by rintro rfl;simp [Jc] at h
theorem Hh {p:List UInt8}:∀{f:Bool} {l:List (List UInt8)},Gh f l=true→p∈l→Jc p=true
 |f,q::r,h,hp=>by
  simp only [Gh,Aw] at h;rcases Am.1 hp with rfl|hp
  ·exact h.1.1
  ·exact Hh h.2 hp
theorem Ag9:∀{l:List (List UInt8)},Gh false l=true→Gh true l=true
 |[],_=>rfl
 |p::r,h=>by simp only [Gh,Aw] at h ⊢;exact ⟨⟨h.1.1,by simp⟩,h.2⟩
theorem dz:∀{f:Bool} {a b:List (List UInt8)},Gh f (a++b)=(Gh f a && Gh (f && a.isEmpty) b)
 |f,[],b=>by simp [Gh]
 |f,p::r,b=>by simp only [B5,Gh,dz (a:=r)];simp [Bool.and_assoc]
theorem Ah0 {f:Bool} {l:List (List UInt8)} (h:Gh f l=true) (k:Nat):Gh f (l.drop k)=true:=by
 rw [←Bt k l,dz,Aw] at h;have h2:=h.2;cases f with
 |false=>simpa using h2
 |true=>
  cases he:(l.take k).isEmpty with
  |true=>rw [he] at h2;exact h2
  |false=>rw [he] at h2;exact Ag9 h2
theorem Q5:∀(m:List UInt8) (f:Bool) (cur:List UInt8),spl f cur (m++[46])=if Gh f (pcs cur m)=true then some (pcs cur m) else none
 |[],f,cur=>by simp only [Cg,spl,if_true,pcs,Gh,A4,Ow];by_cases h:Jc cur=true<;>by_cases h2:cur=[42]<;>cases f<;>simp [h,h2]
 |c::r,f,cur=>by
  simp only [B5,spl,pcs];by_cases hc:c=46
  ·simp only [if_pos hc];rw [Q5 r false []];simp only [Gh];by_cases h:Jc cur=true<;>by_cases h2:cur=[42]<;>cases f<;>by_cases h3:Gh false (pcs [] r)=true<;>simp [h,h2,h3]
  ·simp only [if_neg hc];exact Q5 r f (cur++[c])
theorem Rz (b:List UInt8):∀(a cur:List UInt8),pcs cur (a++46::b)=pcs cur a++cut b
 |[],cur=>by simp [pcs,cut]
 |c::r,cur=>by
  simp only [B5,pcs];split
  ·rw [Rz b r []];rfl
  ·exact Rz b r _
theorem Qf:∀(m cur:List UInt8),flat (pcs cur m)=cur++m++[46]
 |[],cur=>by simp [pcs,flat]
 |c::r,cur=>by
  simp only [pcs];split
  ·rename_i h;have:=Qf r [];simp only [flat,I6] at this ⊢;rw [this,h];simp
  ·rw [Qf r (cur++[c])];simp
theorem vq (a b:List (List UInt8)):flat (a++b)=flat a++flat b:=by simp [flat]
theorem Hf1 (cur m:List UInt8):pcs cur m≠[]:=by
 cases m with
 |nil=>simp [pcs]
 |cons c r=>
  simp only [pcs];split
  ·simp
  ·intro h;have:=Qf r (cur++[c]);rw [h] at this;simp [flat] at this
theorem Qh:∀(l:List (List UInt8)),(∀p∈l,(46:UInt8)∉p)→cut (flat l)=l++[[]]
 |[],_=>rfl
 |p::l,h=>by
  have h1:flat (p::l)=p++46::flat l:=by simp [flat]
  rw [h1];show pcs [] _=_;rw [Rz,Wz p [] (h p (by simp)),Qh l (fun q hq=>h q (by simp [hq]))];simp
theorem Jm:∀(l:List (List UInt8)),l≠[]→∃m,flat l=m++[46]
 |[p],_=>⟨p,by simp [flat]⟩
 |p::q::r,_=>by obtain ⟨m,hm⟩:=Jm (q::r) (by simp);exact ⟨p++[46]++m,by simp only [flat,I6] at hm ⊢;rw [hm];simp⟩
theorem vf {l:List (List UInt8)} (hl:l≠[]) (h:∀p∈l,(46:UInt8)∉p) {m:List UInt8} (hm:flat l=m++[46]):cut m=l:=by
 have h1:=Qh l h;rw [hm] at h1;have h2:cut (m++[46])=cut m++[[]]:=by show pcs [] (m++46::[])=_;rw [Rz];rfl
 rw [h2] at h1;exact Ov h1
theorem Jv {l:List (List UInt8)} (h:Gh true l=true) (hl:l≠[]):2≤(flat l).length:=by
 cases l with
 |nil=>exact absurd rfl hl
 |cons p r=>
  have h1:=u5 (Hh h (H1 ..));have:0<p.length:=Bc.2 h1;simp [flat];omega
theorem Gq0 {l:List (List UInt8)} (h:Gh true l=true) (hl:l≠[]) (hlen:(flat l).length≤254):nm (flat l)=some l:=by obtain ⟨m,hm⟩:=Jm l hl;have h1:=vf hl (fun p hp=>K8 (Hh h hp)) hm;have h2:=Jv h hl;unfold nm;rw [if_neg (by intro e;rw [e] at h2;simp at h2),if_pos ⟨h2,hlen,by rw [hm];simp⟩,hm,Q5];have:pcs [] m=l:=h1;rw [this,if_pos h]
theorem Gk9 {n:List UInt8} {l:List (List UInt8)} (h:nm n=some l):(n=[46]∧l=[])∨(l≠[]∧Gh true l=true∧n=flat l∧n.length≤254):=by
 unfold nm at h;split at h
 ·rename_i e;injection h with h;exact .inl ⟨e,h.symm⟩
 ·split at h
  ·rename_i h1;right;obtain ⟨h2,h3,h4⟩:=h1;obtain ⟨m,hm⟩:∃m,n=m++[46]:=by
    refine ⟨n.dropLast,?_⟩;have:n≠[]:=by intro e;simp [e] at h2
    have h5:=List.dropLast_concat_getLast this;rw [←h5];congr 1
    ·simp
    ·have h6:n[n.length - 1]? =some (n.getLast this):=by rw [I4];exact Az _
     rw [h6] at h4;injection h4 with h4;simp [h4]
   rw [hm,Q5] at h;split at h
   ·rename_i h5;injection h with h;subst h;refine ⟨Hf1 _ _,h5,?_,by omega⟩;rw [Qf,hm];simp
   ·cases h
  ·cases h
theorem Fr1 {n:List UInt8}:vld n=true↔nm n=some (lbl n):=by unfold vld lbl;cases nm n<;>simp
theorem vld_cases {n:List UInt8} (h:vld n=true):(n=[46]∧lbl n=[])∨(lbl n≠[]∧Gh true (lbl n)=true∧n=flat (lbl n)∧n.length≤254):=Gk9 (Fr1.1 h)
theorem Df8 {n:List UInt8} (h:vld n=true):Gh true (lbl n)=true:=by
 rcases vld_cases h with ⟨_,h⟩|⟨_,h,_⟩
 ·rw [h];rfl
 ·exact h
theorem Tf {n:List UInt8} (h:vld n=true):n=jn (lbl n):=by
 unfold jn;rcases vld_cases h with ⟨h1,h2⟩|⟨h1,_,h2,_⟩
 ·rw [h2,if_pos rfl];exact h1
 ·rw [if_neg h1];exact h2
theorem Jt {n:List UInt8} (h:vld n=true):n.length≤254:=by
 rcases vld_cases h with ⟨h1,_⟩|⟨_,_,_,h⟩
 ·simp [h1]
 ·exact h
theorem Qc:lbl [46]=[]:=rfl
theorem dh {l:List (List UInt8)} (h:Gh true l=true) (hl:l≠[]):flat l≠[46]:=by intro e;have:=Jv h hl;rw [e] at this;simp at this
theorem Bn5 {n:List UInt8} (h:vld n=true):lbl n=[]↔n=[46]:=by
 rcases vld_cases h with ⟨h1,h2⟩|⟨h1,h2,h3,_⟩
 ·simp [h1,Qc]
 ·constructor
  ·intro e;exact absurd e h1
  ·intro e;rw [h3] at e;exact absurd e (dh h2 h1)
theorem Hj6 {l:List (List UInt8)} (h:Gh true l=true) (hlen:(flat l).length≤254):vld (jn l)=true∧lbl (jn l)=l:=by
 unfold jn;by_cases hl:l=[]
 ·subst hl;exact ⟨rfl,rfl⟩
 ·rw [if_neg hl];have:=Gq0 h hl hlen;exact ⟨by simp [vld,this],by simp [lbl,this]⟩
theorem W4 {a b:List UInt8} (ha:vld a=true) (hb:vld b=true) (h:lbl a=lbl b):a=b:=by rw [Tf ha,Tf hb,h]
theorem Xv (l:List (List UInt8)) (k:Nat):(flat (l.drop k)).length≤(flat l).length:=by
 have:flat l=flat (l.take k)++flat (l.drop k):=by rw [←vq,Bt]
 rw [this,Ac];omega
theorem M8 {n:List UInt8} (h:vld n=true) (k:Nat):vld (jn ((lbl n).drop k))=true∧lbl (jn ((lbl n).drop k))=(lbl n).drop k:=by
 refine Hj6 (Ah0 (Df8 h) k) ?_;rcases vld_cases h with ⟨_,h1⟩|⟨_,_,h1,h2⟩
 ·rw [h1];simp [flat]
 ·have:=Xv (lbl n) k;rw [←h1] at this;omega
theorem Qq {n:List UInt8} (h:vld n=true):0<n.length:=by
 rcases vld_cases h with ⟨h1,_⟩|⟨h1,h2,h3,_⟩
 ·simp [h1]
 ·have:=Jv h2 h1;rw [h3];omega
end Go.X.G
/- Names: what the program's functions give. -/
namespace Go.X.G
open Go Go.X
def ord (s:List UInt8):Bool:=decide (1≤s.length) && decide (s.length≤63) && s.all Np
theorem Cj1 (s:List UInt8):Jc s=(decide (s=[42])||ord s):=rfl
theorem Ek1:ord [42]=false:=by decide
theorem ic (s:List UInt8) (N:Nat) (hN:s.length<N) (hs:s.length≤9223372036854775807):
  Bs7.ev S N [.s s]=some (if s.all Np=true then .yld 0 [] else .ret [.b false]):=by
 refine E2 s (fun i=>[.i .i64 (i:Int)]) (fun i r=>if r.all Np=true then .yld 0 [] else .ret [.b false]) rfl hN (fun i c r hd hi hc=> ?_) ?_
 ·have key:m8.ev S N ([.s s]++[.i .i64 (i:Int)])=some (if Np c=true then .yld 1 [.i .i64 ((i:Int)+1)] else .ret [.b false]):=by
   simp (disch:=omega) only [Ys,hc,xe,EVP,EV,simprocAttr];unfold Np
   grind
  rw [key];rcases Aq (Np c) with h|h<;>simp [h,Out.goes]
 ·simp (disch:=omega) [Ys,xe,EVP,EV,simprocAttr,Out.goes]
theorem J3 (s:List UInt8) (hs:s.length≤9223372036854775807):S cj 1 [.s s]=some [.b (ord s)]:=by
 refine Hb6 (N:=s.length+1) rfl ?_;unfold ord;by_cases h1:s=[]
 ·subst h1;simp (disch:=omega) [Ys,xe,EVP,EV,simprocAttr]
 ·have h2:1≤s.length:=Bc.2 h1;by_cases h3:s.length≤63
  ·simp (disch:=omega) only [Ys,ic,h1,xe,EVP,EV,simprocAttr];cases s.all Np<;>simp [h2,h3]
  ·simp (disch:=omega) only [Ys,h1,xe,EVP,EV,simprocAttr];simp [h3]
def okP (i:Nat) (p:List UInt8):Bool:=ord p||(decide (i=0) && decide (p=[42]))
def Eq0:Nat→List (List UInt8)→Bool
 |_,[]=>true
 |i,p::r=>okP i p && Eq0 (i+1) r
theorem Z4:∀(l:List (List UInt8)) (i:Nat),Eq0 i l=Gh (decide (i=0)) l
 |[],_=>rfl
 |p::r,i=>by
  have h1:=Z4 r (i+1);simp only [Eq0,Gh,h1,okP,Cj1];by_cases h2:p=[42]
  ·subst h2;by_cases h3:i=0<;>simp [Ek1,h3]
  ·simp [h2]
theorem Dz6 (p q:PV) (l:List (List UInt8)) (hl:l.length≤1000000) (hw:∀x∈l,x.length≤9223372036854775807) (N:Nat) (hN:l.length<N):
  El9.ev S N [p,q,Bd l]=some (if Eq0 0 l=true then .yld 0 [] else .ret [.b false]):=by
 refine E2 l (fun i=>[.i .i64 (i:Int)]) (fun i r=>if Eq0 i r=true then .yld 0 [] else .ret [.b false]) rfl hN (fun i c r hd hi hc=> ?_) ?_
 ·have hcw:=hw c (Bv hc);have key:Dx6.ev S N ([p,q,Bd l]++[.i .i64 (i:Int)])=some (if okP i c=true then .yld 1 [.i .i64 ((i:Int)+1)] else .ret [.b false]):=by
   rcases Aq (ord c) with h1|h1
   ·simp (disch:=omega) only [Vs,J3,hc,h1,xe,EVP,EV,simprocAttr];simp [okP,h1]
   ·by_cases h2:i=0
    ·subst h2;by_cases h3:c=[42]
     ·subst h3;simp (disch:=omega) only [Vs,J3,hc,h1,xe,EVP,EV,simprocAttr];simp [okP]
     ·simp (disch:=omega) only [Vs,J3,hc,h1,h3,xe,EVP,EV,simprocAttr];simp [okP,h1,h3]
    ·simp (disch:=omega) only [Vs,J3,hc,h1,xe,EVP,EV,simprocAttr];simp [okP,h1,h2]
  rw [key];rcases Aq (okP i c) with h|h<;>simp [h,Eq0,Out.goes]
 ·simp (disch:=omega) only [Vs,xe,EVP,EV,simprocAttr];simp [Out.goes,Eq0]
theorem Wb:∀(m cur:List UInt8) (x:List UInt8),x∈pcs cur m→x.length≤cur.length+m.length
 |[],cur,x,h=>by simp [pcs] at h;subst h;simp
 |c::r,cur,x,h=>by
  simp only [pcs] at h;split at h
  ·rcases Am.1 h with rfl|h
   ·omega
   ·have:=Wb r [] x h;simp at this ⊢;omega
  ·have:=Wb r _ x h;simp at this ⊢;omega
theorem Ez0 (m x:List UInt8) (h:x∈cut m):x.length≤m.length:=by simpa using Wb m [] x h
theorem Iv7 (m:List UInt8):(cut m).length≤m.length+1:=by have:=Cq8 m;have:m.count 46≤m.length:=List.count_le_length;omega
theorem Bj2 (n:List UInt8):([46]:List UInt8).isSuffixOf n=true↔∃m,n=m++[46]:=by rw [Kn];exact ⟨fun ⟨m,h⟩=>⟨m,h.symm⟩,fun ⟨m,h⟩=>⟨m,h.symm⟩⟩
theorem Df7 (m:List UInt8) (hm:m≠[]) (hl:m.length≤253):vld (m++[46])=Eq0 0 (cut m):=by have h1:m++[46]≠[46]:=fun e=>hm (Ov (bs:=[46]) (by simpa using e));have h2:0<m.length:=Bc.2 hm;unfold vld nm;rw [if_neg h1,if_pos ⟨by simp;omega,by simp;omega,by simp⟩,Q5,Z4];have e:pcs [] m=cut m:=rfl;have e2:Gh (decide ((0:Nat)=0)) (cut m)=Gh true (cut m):=rfl;rw [e,e2];cases Gh true (cut m)<;>rfl
theorem Ev9 (m:List UInt8) (h:vld (m++[46])=true) (hm:m≠[]):lbl (m++[46])=cut m:=by
 rcases vld_cases h with ⟨h1,_⟩|⟨h1,h2,h3,_⟩
 ·exact absurd (Ov (bs:=[46]) (by simpa using h1)) hm
 ·exact (vf h1 (fun p hp=>K8 (Hh h2 hp)) h3.symm).symm
theorem Br (n:List UInt8) (hn:n.length≤9223372036854775807):S J4 1 [.s n]=some [.b (vld n)]:=by
 refine Il7 (N:=300) rfl ?_;by_cases h0:n=[46]
 ·subst h0;simp (disch:=omega) only [Vs,xe,EVP,EV,simprocAttr];rfl
 ·by_cases h1:255≤n.length
  ·have hv:vld n=false:=by rw [ov];intro h;have:=Jt h;omega
   simp (disch:=omega) only [Vs,h0,hv,xe,EVP,EV,simprocAttr]
  ·rcases Aq (([46]:List UInt8).isSuffixOf n) with h2|h2
   ·obtain ⟨m,rfl⟩:=(Bj2 n).1 h2;have hm:m≠[]:=fun e=>h0 (by simp [e]);have hl:(m++[46]).length=m.length+1:=by simp
    have hml:m.length≤1000000:=by omega
    have e:List.drop 0 (List.take (((m++[46]).length:Int) - 1).toNat (m++[46]))=m:=by
     have:(((m++[46]).length:Int) - 1).toNat=m.length:=by omega
     rw [this];simp
    have hc:=Iv7 m;have hv:=Df7 m hm (by omega);have hk:=Dz6 (.s (m++[46])) (.b true) (cut m) (by omega) (fun x hx=>by have:=Ez0 m x hx;omega) 300 (by omega);simp (disch:=omega) only [Vs,Lc,ew,e,hk,h0,h2,xe,EVP,EV,simprocAttr];rw [hv];cases Eq0 0 (cut m)<;>simp
   ·have hv:vld n=false:=by
     rw [ov];intro h;rcases vld_cases h with ⟨h3,_⟩|⟨h3,_,h5,_⟩
     ·exact h0 h3
     ·obtain ⟨m,hm⟩:=Jm _ h3;have:=(Bj2 n).2 ⟨m,h5.trans hm⟩;rw [h2] at this;cases this
    simp (disch:=omega) only [Vs,Lc,h0,h2,hv,xe,EVP,EV,simprocAttr]
theorem O9 (n:List UInt8) (hn:n.length≤9223372036854775807):S i6 1 [.s n]=some [Bd (lbl n)]:=by
 refine Ih4 (N:=1) rfl ?_;by_cases h0:n=[46]
 ·subst h0;simp (disch:=omega) only [Fp5,Qc,xe,EVP,EV,simprocAttr]
 ·rcases Aq (vld n) with h1|h1
  ·obtain ⟨m,hm,rfl⟩:∃m,m≠[]∧n=m++[46]:=by
    rcases vld_cases h1 with ⟨h3,_⟩|⟨h3,_,h5,_⟩
    ·exact absurd h3 h0
    ·obtain ⟨m,hm⟩:=Jm _ h3;exact ⟨m,fun e=>h0 (by rw [h5,hm,e];rfl),h5.trans hm⟩
   have hl:(m++[46]).length=m.length+1:=by simp
   have e:List.drop 0 (List.take (((m++[46]).length:Int) - 1).toNat (m++[46]))=m:=by
    have:(((m++[46]).length:Int) - 1).toNat=m.length:=by omega
    rw [this];simp
   have hl2:=Jt h1;have e2:=Ev9 m h1 hm;simp (disch:=omega) only [Fp5,Br,ew,e,e2,h0,h1,xe,EVP,EV,simprocAttr]
  ·have e:lbl n=[]:=by
    unfold lbl;unfold vld at h1;cases h:nm n with
    |none=>rfl
    |some l=>rw [h] at h1;cases h1
   simp (disch:=omega) only [Fp5,Br,h0,h1,e,xe,EVP,EV,simprocAttr]
theorem N2 (p:List UInt8) (l:List (List UInt8)):flat (p::l)=p++46::flat l:=by simp [flat]
def Or (n:List UInt8):List UInt8:=if vld n=true∧n≠[46] then jn ((lbl n).drop 1) else []
def u6 (n:List UInt8):Bool:=vld n && !decide (n=[46])
theorem Vd (n:List UInt8) (hn:n.length≤9223372036854775807):S Up 1 [.s n]=some [.s (Or n), .b (u6 n)]:=by
 refine Hc1 (N:=1) rfl ?_;unfold Or u6;by_cases h0:n=[46]
 ·subst h0;simp (disch:=omega) only [od,xe,EVP,EV,simprocAttr];simp
 ·rcases Aq (vld n) with h1|h1
  ·rcases vld_cases h1 with ⟨h3,_⟩|⟨h3,h4,h5,h6⟩
   ·exact absurd h3 h0
   ·cases hl:lbl n with
    |nil=>exact absurd hl h3
    |cons p r=>
     rw [hl] at h4 h5;have hp:=K8 (Hh h4 (H1 ..));have hi:=et n 46;have hc:(((46:UInt8).toNat:Nat):Int)=46:=rfl;have hx:Lib.indexByte n 46=(p.length:Int):=by rw [h5,N2];exact Jd 46 _ p hp
     rw [hc,hx] at hi;have hlen:n.length=p.length+1+(flat r).length:=by rw [h5,N2];simp;omega
     have e:List.drop ((p.length:Int)+1).toNat (List.take n.length n)=flat r:=by
      have:((p.length:Int)+1).toNat=p.length+1:=by omega
      rw [this,Db,h5,N2];simp
     by_cases h7:r=[]
     ·subst h7;have e2:flat []=[]:=rfl;simp (disch:=omega) only [od,Br,hi,e,e2,h0,h1,xe,EVP,EV,simprocAttr];simp [jn]
     ·have e2:¬flat r=[]:=by obtain ⟨m,hm⟩:=Jm r h7;rw [hm];simp
      simp (disch:=omega) only [od,Br,hi,e,e2,h0,h1,xe,EVP,EV,simprocAttr];simp [jn,h7]
  ·simp (disch:=omega) only [od,Br,h0,h1,xe,EVP,EV,simprocAttr];simp
def j6 (n top:List UInt8):Bool:=(decide (top=[46])||decide (n=top))||(46::top).isSuffixOf n
theorem j5 (n top:List UInt8) (hn:n.length≤9223372036854775807) (ht:top.length≤1000000):S Af1 2 [.s n, .s top]=some [.b (j6 n top)]:=by
 refine Ih6 (N:=1) rfl ?_;unfold j6;have h0:([46]:List UInt8).length=1:=rfl;by_cases h1:top=[46]<;>by_cases h2:n=top<;>simp (disch:=omega) only [Iz8,Lc,h1,h2,xe,EVP,EV,simprocAttr]
 all_goals simp
theorem jr {a b:List (List UInt8)} (ha:Gh true a=true) (hb:Gh true b=true) (h:(46::flat b)<:+flat a):b<:+a:=by obtain ⟨p,hp⟩:=h;have h1:=Qh a (fun x hx=>K8 (Hh ha hx));have h2:=Qh b (fun x hx=>K8 (Hh hb hx));rw [←hp] at h1;have h3:cut (p++46::flat b)=cut p++cut (flat b):=Rz (flat b) p [];rw [h3,h2,←As] at h1;exact ⟨cut p,Ov h1⟩
theorem vz {n top:List UInt8} (hn:vld n=true) (ht:vld top=true):j6 n top=true↔lbl top<:+lbl n:=by
 unfold j6;simp only [Ap,decide_eq_true_eq,Kn];constructor
 ·rintro ((rfl|rfl)|h)
  ·rw [Qc];exact List.nil_suffix
  ·exact List.suffix_refl _
  ·rcases vld_cases ht with ⟨h1,h2⟩|⟨h1,h2,h3,_⟩
   ·rw [h2];exact List.nil_suffix
   ·rcases vld_cases hn with ⟨h5,_⟩|⟨h5,h6,h7,_⟩
    ·rw [h5] at h;have h9:=h.length_le;have h8:=Jv h2 h1;rw [←h3] at h8;simp only [A3,Bf] at h9;omega
    ·rw [h3,h7] at h;exact jr h6 h2 h
 ·intro h;obtain ⟨p,hp⟩:=h;rcases vld_cases ht with ⟨h1,h2⟩|⟨h1,h2,h3,_⟩
  ·exact .inl (.inl h1)
  ·by_cases hp0:p=[]
   ·left;right;subst hp0;exact W4 hn ht hp.symm
   ·right;rcases vld_cases hn with ⟨_,h5⟩|⟨h5,h6,h7,_⟩
    ·rw [h5] at hp;exact absurd (List.append_eq_nil_iff.1 hp).1 hp0
    ·obtain ⟨m,hm⟩:=Jm p hp0;rw [h7,←hp,vq,hm];exact ⟨m,by rw [As,←h3];simp⟩
theorem Sm {α:Type} [DecidableEq α]:∀(a b:List α),O7 a b=b.length↔b<+:a
 |[],[]=>by simp [O7]
 |[],y::ys=>by simp [O7]
 |x::xs,[]=>by simp [O7]
 |x::xs,y::ys=>by
  have:=Sm xs ys;simp only [O7];split
  ·rename_i h;subst h;simp [this,Hw]
  ·rename_i h;simp [Hw,Ne.symm h]
theorem Zf (a b:List (List UInt8)):Gt a b=b.length↔b<:+a:=by unfold Gt;have:=Sm a.reverse b.reverse;rw [List.length_reverse] at this;rw [this,Fn9]
theorem Dm {n top:List UInt8}:under n top=true↔vld n=true∧vld top=true∧lbl top<:+lbl n:=by unfold under;simp [Zf,and_assoc]
theorem Ax3 {n top:List UInt8} (hn:vld n=true) (ht:vld top=true):j6 n top=under n top:=by rw [C1,vz hn ht,Dm];simp [hn,ht]
theorem E5 (n top:List UInt8) (hn:n.length≤9223372036854775807) (ht:top.length≤9223372036854775807):S O2 2 [.s n, .s top]=some [.b (under n top)]:=by
 refine In7 (N:=1) rfl ?_;rcases Aq (vld n) with h1|h1
 ·rcases Aq (vld top) with h2|h2
  ·have h3:=Jt h2;simp (disch:=omega) only [Fp8,Br,j5,h1,h2,xe,EVP,EV,simprocAttr];rw [Ax3 h1 h2]
  ·have h3:under n top=false:=by simp [under,h2]
   simp (disch:=omega) only [Fp8,Br,h1,h2,h3,xe,EVP,EV,simprocAttr]
 ·have h3:under n top=false:=by simp [under,h1]
  simp (disch:=omega) only [Fp8,Br,h1,h3,xe,EVP,EV,simprocAttr]
end Go.X.G
/- Names: order, common ancestors, wildcards. -/
namespace Go.X.G
open Go Go.X
theorem Pt:∀(a:List UInt8),Op.bytesLess a a=false
 |[]=>rfl
 |a::x=>by simp [Op.bytesLess,Pt x]
theorem Lv:∀(a b:List UInt8),Lib.compareBytes a b=cmpS a b
 |[],[]=>rfl
 |[],_::_=>rfl
 |_::_,[]=>rfl
 |a::x,b::y=>by
  have ih:=Lv x y;unfold cmpS at ih ⊢;simp only [Lib.compareBytes,Op.bytesLess,ih];by_cases h1:a<b
  ·simp [h1]
  ·by_cases h2:b<a
   ·have h3:a≠b:=fun e=>by subst e;exact h1 h2
    simp [h1,h2,h3]
   ·have h3:a=b:=UInt8.le_antisymm (UInt8.not_lt.1 h2) (UInt8.not_lt.1 h1);subst h3;simp [h1]
theorem Hr {a b:List UInt8}:cmpS a b=0↔a=b:=by
 unfold cmpS;by_cases h:a=b
 ·subst h;simp [Pt]
 ·cases h2:Op.bytesLess a b<;>simp [h]
theorem Kq (x y:List UInt8):S Z9 2 [.s x, .s y]=some [.i .i64 (cmpS x y)]:=by rw [nw,Lv]
def Qm:List (List UInt8)→List (List UInt8)→Option Int
 |x::xs,y::ys=>if x=y then Qm xs ys else some (cmpS x y)
 |_,_=>none
theorem Cv3:∀(a b:List (List UInt8)),Qm a b=if O7 a b<a.length∧O7 a b<b.length then some (cmpS (a.getD (O7 a b) []) (b.getD (O7 a b) [])) else none
 |[],b=>by simp [Qm,O7]
 |x::xs,[]=>by simp [Qm,O7]
 |x::xs,y::ys=>by
  have ih:=Cv3 xs ys;simp only [Qm,O7];by_cases h:x=y
  ·simp only [if_pos h,ih];simp
  ·simp [h]
def kx (a b:List (List UInt8)):Int:=match Qm a.reverse b.reverse with
 |some c=>c
 |none=>if a.length<b.length then -1 else if b.length<a.length then 1 else 0
theorem vj (a:List (List UInt8)) (k:Nat) (h:k<a.length):a.reverse.getD k []=a.getD (a.length - 1 - k) []:=by simp [Bl,List.getElem?_reverse h]
theorem Sn {a b:List UInt8} (ha:vld a=true) (hb:vld b=true):Hq a b=kx (lbl a) (lbl b):=by
 unfold Hq kx;rw [Cv3];have e:O7 (lbl a).reverse (lbl b).reverse=Gt (lbl a) (lbl b):=rfl;rw [e,ha,hb];simp only [List.length_reverse,Bool.and_self,if_true];by_cases h:Gt (lbl a) (lbl b)<(lbl a).length∧Gt (lbl a) (lbl b)<(lbl b).length
 ·rw [if_pos h,if_pos h,vj _ _ h.1,vj _ _ h.2]
 ·rw [if_neg h,if_neg h]
theorem nb (a b:List (List UInt8)) (p1 p2 p3 p4:PV) (ha:a.length≤1000) (hb:b.length≤1000) (N:Nat) (hN:1001<N):
  Br0.ev S N [p1,p2,p3,p4,Bd a,Bd b]=some (match Qm a.reverse b.reverse with|some c=> .ret [.i .i64 c]|none=> .yld 0 []):=by
 have key:=Jh (fn:=S) (N:=N) (η:=[p1,p2,p3,p4,Bd a,Bd b]) (id:=1) (init:=[(.c (.i .i64 (1)))]) (body:=Dx7) (α:=Nat) (fun k=>[.i .i64 ((k:Int)+1)])
  (fun k=>match Qm (a.reverse.drop k) (b.reverse.drop k) with|some c=> .ret [.i .i64 c]|none=> .yld 0 []) (fun k=>k≤a.length∧k≤b.length) (fun k=>a.length - k) 0 rfl ⟨Cz _,Cz _⟩ (by omega) ?_
 ·simpa [Br0] using key
 ·rintro k ⟨h1,h2⟩;by_cases h3:k<a.length
  ·by_cases h4:k<b.length
   ·have e1:((a.length:Int) - ((k:Int)+1)).toNat=a.length - 1 - k:=by omega
    have e2:((b.length:Int) - ((k:Int)+1)).toNat=b.length - 1 - k:=by omega
    have g1:a[a.length - 1 - k]? =some (a[a.length - 1 - k]'(by omega)):=Az (by omega);have g2:b[b.length - 1 - k]? =some (b[b.length - 1 - k]'(by omega)):=Az (by omega);have d1:a.reverse.drop k=(a[a.length - 1 - k]'(by omega))::a.reverse.drop (k+1):=by rw [Ct (by simpa using h3)];simp
    have d2:b.reverse.drop k=(b[b.length - 1 - k]'(by omega))::b.reverse.drop (k+1):=by rw [Ct (by simpa using h4)];simp
    rw [d1,d2];generalize (a[a.length - 1 - k]'(by omega))=x at g1;generalize (b[b.length - 1 - k]'(by omega))=y at g2;simp only [Qm];by_cases h:x=y
    ·left;have h5:cmpS x y=0:=Hr.2 h;refine ⟨k+1,?_,⟨by omega,by omega⟩,by omega,by rw [if_pos h]⟩;simp (disch:=omega) only [f8,Kq,e1,e2,g1,g2,h5,xe,EVP,EV,simprocAttr]
    ·right;have h5:¬cmpS x y=0:=fun e=>h (Hr.1 e);rw [if_neg h];simp (disch:=omega) only [f8,Kq,e1,e2,g1,g2,h5,xe,EVP,EV,simprocAttr];simp [Out.goes]
   ·right;have d2:b.reverse.drop k=[]:=Gr (by simp;omega);have z:Qm (a.reverse.drop k) []=none:=by cases a.reverse.drop k<;>rfl
    rw [d2,z];simp (disch:=omega) [f8,xe,EVP,EV,simprocAttr,Out.goes]
  ·right;have d1:a.reverse.drop k=[]:=Gr (by simp;omega);have z:Qm [] (b.reverse.drop k)=none:=rfl;rw [d1,z];simp (disch:=omega) [f8,xe,EVP,EV,simprocAttr,Out.goes]
theorem Hj (a b:List UInt8) (hn:a.length≤9223372036854775807) (ht:b.length≤9223372036854775807):S Mh 2 [.s a, .s b]=some [.i .i64 (Hq a b)]:=by
 refine In6 (N:=1002) rfl ?_;have h1:=Ip a;have h2:=Ip b;rcases Aq (vld a) with h3|h3<;>rcases Aq (vld b) with h4|h4
 ·rw [Sn h3 h4];unfold kx;have hk:=nb (lbl a) (lbl b) (.s a) (.s b) (.b true) (.b true) (by omega) (by omega) 1002 (by omega);cases h5:Qm (lbl a).reverse (lbl b).reverse with
  |some c=>
   rw [h5] at hk;simp (disch:=omega) only [f8,Br,O9,hk,h3,h4,xe,EVP,EV,simprocAttr]
  |none=>
   rw [h5] at hk;simp (disch:=omega) only [f8,Br,O9,hk,h3,h4,xe,EVP,EV,simprocAttr]
   grind
 all_goals unfold Hq
 all_goals simp (disch:=omega) only [f8,Br,Kq,h3,h4,xe,EVP,EV,simprocAttr]
 all_goals simp
def Gl (a b:List UInt8):List UInt8:=if vld a=true∧vld b=true then jn ((lbl a).drop ((lbl a).length - Gt (lbl a) (lbl b))) else []
theorem Y5 {α:Type} [DecidableEq α]:∀(a b:List α) (j:Nat),j≤a.length→(a.take j<+:b↔j≤O7 a b)
 |_,_,0,_=>by simp
 |[],_,j+1,h=>by simp at h
 |x::xs,[],j+1,h=>by simp [O7]
 |x::xs,y::ys,j+1,h=>by
  have:=Y5 xs ys j (by simpa using h);simp only [List.take_succ_cons,O7,Hw];by_cases hxy:x=y
  ·simp [hxy,this]
  ·simp [hxy]
theorem Cq6 (a b:List (List UInt8)) (k:Nat) (h:k≤a.length):a.drop k<:+b↔a.length - k≤Gt a b:=by unfold Gt;rw [←Y5 _ _ _ (by simp),←Fn9,List.reverse_drop]
theorem Bt4 {n:List UInt8} (h:vld n=true) (k:Nat):(jn ((lbl n).drop k)).length≤254:=Jt (M8 h k).1
theorem Db7 (a b:List UInt8) (p1 p2 p3 p4:PV) (ha:vld a=true) (hb:vld b=true) (N:Nat) (hN:300<N) (hp1:p1= .s a) (hp2:p2= .s b):
  jz.ev S N [p1,p2,p3,p4]=some (.yld 0 [.s (Gl a b)]):=by
 subst hp1;subst hp2;have hl:=Ip a;have hs:=tw (lbl a) (lbl b);have hla:=Jt ha;have hlb:=Jt hb;have ec:Gl a b=jn ((lbl a).drop ((lbl a).length - Gt (lbl a) (lbl b))):=by unfold Gl;rw [if_pos ⟨ha,hb⟩]
 have key:=Jh (fn:=S) (N:=N) (η:=[.s a, .s b,p3,p4]) (id:=1) (init:=[(.v 0)]) (body:=ms) (α:=Nat) (fun k=>[.s (jn ((lbl a).drop k))])
  (fun k=> .yld 0 [.s (Gl a b)]) (fun k=>k+Gt (lbl a) (lbl b)≤(lbl a).length) (fun k=>(lbl a).length - k) 0 (by
   have:jn ((lbl a).drop 0)=a:=by rw [D2];exact (Tf ha).symm
   rw [this];rfl) (by omega) (by omega) ?_
 ·simpa [jz] using key
 ·intro k hk;obtain ⟨hv,hlk⟩:=M8 ha k;have hlen:=Bt4 ha k;have he:j6 b (jn ((lbl a).drop k))=true↔(lbl a).length - k≤Gt (lbl a) (lbl b):=by rw [vz hb hv,hlk,Cq6 _ _ _ (by omega)]
  by_cases h:(lbl a).length - k≤Gt (lbl a) (lbl b)
  ·right;have h1:=he.2 h;have h2:(lbl a).length - Gt (lbl a) (lbl b)=k:=by omega
   simp (disch:=omega) only [Yp,j5,h1,xe,EVP,EV,simprocAttr];rw [ec,h2];simp [Out.goes]
  ·left;have h1:j6 b (jn ((lbl a).drop k))=false:=by rw [ov];intro h2;exact h (he.1 h2)
   have h2:Or (jn ((lbl a).drop k))=jn ((lbl a).drop (k+1)):=by
    unfold Or;have h3:jn ((lbl a).drop k)≠[46]:=by intro e;have:=(Bn5 hv).2 e;rw [hlk] at this;have:=congrArg List.length this;simp at this;omega
    rw [if_pos ⟨hv,h3⟩,hlk,C2]
   refine ⟨k+1,?_,by omega,by omega,rfl⟩;simp (disch:=omega) only [Yp,j5,Vd,h1,h2,xe,EVP,EV,simprocAttr]
theorem Am9 (a b:List UInt8) (ha:a.length≤9223372036854775807) (hb:b.length≤9223372036854775807):S Ud 2 [.s a, .s b]=some [.s (Gl a b)]:=by
 refine Hz3 (N:=301) rfl ?_;rcases Aq (vld a) with h3|h3
 ·rcases Aq (vld b) with h4|h4
  ·have hk:=Db7 a b (.s a) (.s b) (.b true) (.b true) h3 h4 301 (by omega) rfl rfl;simp (disch:=omega) only [Yp,Br,hk,h3,h4,xe,EVP,EV,simprocAttr]
  ·simp (disch:=omega) only [Yp,Br,h3,h4,xe,EVP,EV,simprocAttr];simp [Gl,h4]
 ·simp (disch:=omega) only [Yp,Br,h3,xe,EVP,EV,simprocAttr];simp [Gl,h3]
def Gn6 (n:List UInt8):Int:=if n=[46] then 1 else if vld n=true then (n.length:Int)+1 else 0
theorem Db0 (n:List UInt8) (hn:n.length≤9223372036854775807):S Uc 1 [.s n]=some [.i .i64 (Gn6 n)]:=by
 refine Hz2 (N:=1) rfl ?_;unfold Gn6;by_cases h:n=[46]
 ·simp (disch:=omega) only [As6,h,xe,EVP,EV,simprocAttr]
 ·rcases Aq (vld n) with h3|h3
  ·have:=Jt h3;simp (disch:=omega) only [As6,Br,h,h3,xe,EVP,EV,simprocAttr]
  ·simp (disch:=omega) only [As6,Br,h,h3,xe,EVP,EV,simprocAttr]
def Tq (n:List UInt8):List UInt8:=if n=[46] then [42,46] else [42,46]++n
def Nw (n:List UInt8):Bool:=vld n && !decide ((lbl n)[0]? =some [42]) && vld (Tq n)
def gn (n:List UInt8):List UInt8:=if Nw n=true then Tq n else []
theorem Tp {n:List UInt8} (h:vld n=true):(n[0]? =some 42↔(lbl n)[0]? =some [42]):=by
 rcases vld_cases h with ⟨h1,h2⟩|⟨h1,h2,h3,_⟩
 ·subst h1;simp [Qc]
 ·cases hl:lbl n with
  |nil=>exact absurd hl h1
  |cons p r=>
   rw [hl] at h2 h3;have hp:=Hh h2 (H1 ..);have hne:=u5 hp;cases p with
   |nil=>exact absurd rfl hne
   |cons c q=>
    rw [h3,N2];simp only [B5,Cb,Ak];constructor
    ·rintro rfl;unfold Jc at hp;simp at hp;rcases hp with h|h
     ·rw [h]
     ·exfalso;have:Np 42=false:=by decide
      rw [this] at h;simp at h
    ·intro h;injection h
theorem Aw4 (n:List UInt8) (hn:n.length≤1000000):S Bg3 1 [.s n]=some [.s (gn n), .b (Nw n)]:=by
 refine Ih7 (N:=1) rfl ?_;have h0:([42,46]:List UInt8).length=2:=rfl;have hl:(Tq n).length≤9223372036854775807:=by
  unfold Tq;split
  ·simp
  ·rw [Ac,h0];omega
 unfold gn Nw;have tail:T.ev S 1 Cx4 [.s n, .s (Tq n)]=some (.ret [.s (gn n), .b (Nw n)]):=by
  unfold gn Nw;rcases Aq (vld n) with h3|h3
  ·have h4:=Tp h3;have h5:=Az (Qq h3);have h6:=Fr3 (n[0]'(Qq h3)) 42 (by omega);by_cases h7:(lbl n)[0]? =some [42]
   ·have h8:=h4.2 h7;rw [h5] at h8;injection h8 with h8;have h9:((n[0]'(Qq h3)).toNat:Int)=42:=h6.2 h8;simp (disch:=omega) only [Df5,Br,h3,h5,xe,EVP,EV,simprocAttr];simp [h7]
   ·have h8:¬n[0]? =some 42:=fun e=>h7 (h4.1 e);rw [h5] at h8;have h9:¬((n[0]'(Qq h3)).toNat:Int)=42:=fun e=>h8 (by rw [h6.1 e];rfl);rcases Aq (vld (Tq n)) with ha|ha<;>simp (disch:=omega) only [Df5,Br,h3,h5,ha,xe,EVP,EV,simprocAttr]<;>simp [h7]
  ·simp (disch:=omega) only [Df5,Br,h3,xe,EVP,EV,simprocAttr];simp
 unfold gn Nw at tail;obtain ⟨y0,y1,y2,y3,y4,y5,y6,y7,yt⟩:=Df5;by_cases h4:n=[46]
 ·have e:Tq n=[42,46]:=by simp [Tq,h4]
  rw [e] at tail ⊢;subst h4;simp (disch:=omega) only [y0,y1,y2,yt,xe,EVP,EV,simprocAttr];rw [tail];simp
 ·have e:Tq n=42::46::n:=by simp [Tq,h4]
  rw [e] at tail ⊢;simp (disch:=omega) only [y0,y1,y2,yt,h4,xe,EVP,EV,simprocAttr];rw [tail];simp
end Go.X.G
/- Data of records: what the reference's functions give. -/
namespace Go.X.G
open Go Go.X
theorem t15 (t:Int):t=1∨t=2∨t=5∨t=6∨t=12∨t=15∨t=16∨t=28∨t=33∨t=39∨t=43∨t=46∨t=47∨t=48∨(t≠1∧t≠2∧t≠5∧t≠6∧t≠12∧t≠15∧t≠16∧t≠28∧t≠33∧t≠39∧t≠43∧t≠46∧t≠47∧t≠48):=by omega
def knw (t:Int):Bool:=decide (t=1)||decide (t=2)||decide (t=5)||decide (t=6)||decide (t=12)||decide (t=15)||decide (t=16)||decide (t=28)||decide (t=33)||decide (t=39)||decide (t=43)||decide (t=46)||decide (t=47)||decide (t=48)
def D6 (d:Dat):Bool:=d.v6||(decide (d.hi=0) && decide (d.lo<4294967296))
def inB (n most:Int):Bool:=decide (0≤n) && decide (n≤most)
def I0 (s:List UInt8):Bool:=decide (1≤s.length) && decide (s.length≤255)
def Hg (n:List UInt8):Bool:=vld n && decide (n[0]? ≠some 42)
def bit (set:Int) (t:Nat):Int:=set / 2 ^ t % 2
theorem Jy0 (x:Int):IntKind.u64.wrap ((BitVec.ofInt IntKind.u64.bits x &&& BitVec.ofInt IntKind.u64.bits 1).toNat:Int)=x % 2:=by
 have h2:(BitVec.ofInt 64 x &&& BitVec.ofInt 64 1).toNat=(BitVec.ofInt 64 x).toNat % 2:=by rw [BitVec.toNat_and];show (BitVec.ofInt 64 x).toNat &&& 1=_;exact Nat.and_one_is_mod _
 show IntKind.u64.wrap (((BitVec.ofInt 64 x &&& BitVec.ofInt 64 1).toNat:Nat):Int)=_;rw [h2,BitVec.toNat_ofInt];rw [Gt1]<;>omega
end Go.X.G
/- NSEC records: what they show. -/
namespace Go.X.G
open Go Go.X
theorem i5 (n t:Nat):n &&& 2 ^ t=(n.testBit t).toNat*2 ^ t:=by
 apply Nat.eq_of_testBit_eq;intro i;rw [Nat.testBit_and,Nat.testBit_two_pow];by_cases h:t=i
 ·subst h;cases h2:n.testBit t<;>simp
 ·cases h2:n.testBit t<;>simp [h,Nat.testBit_two_pow]
theorem Gm8 (x:Int) (t:Nat) (ht:t<64):IntKind.u64.wrap ((BitVec.ofInt IntKind.u64.bits x &&& BitVec.ofInt IntKind.u64.bits (2 ^ t)).toNat:Int)=if bit x t=1 then 2 ^ t else 0:=by
 have hp:(2 ^ t:Nat)<2 ^ 64:=Nat.pow_lt_pow_right (by decide) ht;have h1:(BitVec.ofInt 64 ((2:Int) ^ t)).toNat=2 ^ t:=by
  rw [BitVec.toNat_ofInt];have e:((2:Int) ^ t)=((2 ^ t:Nat):Int):=by simp
  rw [e,←Int.natCast_emod,Gs];exact Dk hp
 have h2:(BitVec.ofInt 64 x &&& BitVec.ofInt 64 ((2:Int) ^ t)).toNat=((BitVec.ofInt 64 x).toNat.testBit t).toNat*2 ^ t:=by rw [BitVec.toNat_and,h1,i5]
 show IntKind.u64.wrap (((BitVec.ofInt 64 x &&& BitVec.ofInt 64 ((2:Int) ^ t)).toNat:Nat):Int)=_;have h3:(BitVec.ofInt 64 x).toNat.testBit t=decide (bit x t=1):=by
  rw [BitVec.toNat_ofInt,Nat.testBit_eq_decide_div_mod_eq,decide_eq_decide];unfold bit;have hpos:(0:Int)<2 ^ t:=Int.pow_pos (by decide);have hb:0≤x % ((2 ^ 64:Nat):Int):=Int.emod_nonneg _ (by decide);have e1:(((x % ((2 ^ 64:Nat):Int)).toNat / 2 ^ t % 2:Nat):Int)=x % ((2 ^ 64:Nat):Int) / 2 ^ t % 2:=by rw [Int.natCast_emod,Int.natCast_ediv,Int.toNat_of_nonneg hb];simp
  have e2:x % ((2 ^ 64:Nat):Int) / 2 ^ t % 2=x / 2 ^ t % 2:=by
   have hs:((2 ^ 64:Nat):Int)=2 ^ t*(2*2 ^ (63 - t)):=by
    have:(2:Int) ^ 64=2 ^ t*(2*2 ^ (63 - t)):=by rw [←Int.mul_assoc,←Int.pow_succ,←Int.pow_add];congr 1;omega
    simpa using this
   have hx:x=((2 ^ 64:Nat):Int)*(x / ((2 ^ 64:Nat):Int))+x % ((2 ^ 64:Nat):Int):=(Int.mul_ediv_add_emod x _).symm;have hd:x / 2 ^ t=(2*2 ^ (63 - t))*(x / ((2 ^ 64:Nat):Int))+x % ((2 ^ 64:Nat):Int) / 2 ^ t:=by
    have:x=2 ^ t*((2*2 ^ (63 - t))*(x / ((2 ^ 64:Nat):Int)))+x % ((2 ^ 64:Nat):Int):=by rw [←Int.mul_assoc,←hs];exact hx
    calc x / 2 ^ t=(2 ^ t*((2*2 ^ (63 - t))*(x / ((2 ^ 64:Nat):Int)))+x % ((2 ^ 64:Nat):Int)) / 2 ^ t:=by rw [←this]
     _=_:=by rw [Int.mul_add_ediv_left _ _ (Int.ne_of_gt hpos)]
   rw [hd,Int.mul_assoc];omega
  rw [←e2,←e1];generalize (x % ((2 ^ 64:Nat):Int)).toNat / 2 ^ t % 2=q;omega
 rw [h2,h3];have hq:((2 ^ t:Nat):Int)≤9223372036854775808:=by have:(2 ^ t:Nat)≤2 ^ 63:=Nat.pow_le_pow_right (by decide) (by omega);omega
 by_cases hb:bit x t=1
 ·simp only [hb,decide_true,Bool.toNat_true,Ex,if_true];rw [Gt1 (by omega) (by omega)];simp
 ·simp only [hb,decide_false,Bool.toNat_false,Nat.zero_mul,if_false];rw [Gt1 (by omega) (by omega)];simp
def Ph (r:Rec) (t:Int):Bool:=decide (0≤t) && decide (t≤63) && decide (bit r.data.bits t.toNat=1)
theorem Jg (r:Rec) (t:Int):S P5 2 [r.pv, .i .i64 t]=some [.b (Ph r t)]:=by
 refine Ih3 (N:=1) rfl ?_;unfold Ph;by_cases h1:0≤t
 ·by_cases h2:t≤63
  ·obtain ⟨n,rfl⟩:∃n:Nat,t=(n:Int):=⟨t.toNat,by omega⟩;have hb:IntKind.u64.bits=64:=rfl;have h3:X.bin .shr (.i .u64 r.data.bits) (.i .i64 (n:Int))=some (.i .u64 (r.data.bits / 2 ^ n)):=Bk4 _ _ _ _ (by rw [hb];omega);have h4:r.data.bits / 2 ^ n % 2=bit r.data.bits n:=rfl;simp (disch:=omega) only [Fp4,S2,Jy0,h3,h4,xe,EVP,EV,simprocAttr]
   try simp
   try omega
  ·simp (disch:=omega) only [Fp4,xe,EVP,EV,simprocAttr]
   try simp [h2]
 ·simp (disch:=omega) only [Fp4,xe,EVP,EV,simprocAttr]
  try simp [h1]
theorem Eb1 (n:Nat) (h:n<64):S Bg4 1 [.i .i64 (n:Int)]=some [.i .u64 (2 ^ n)]:=by
 refine Ih8 (N:=1) rfl ?_;have hb:IntKind.u64.bits=64:=rfl;have h1:min n 64=n:=by omega
 have hp:(2:Int) ^ n≤18446744073709551615:=by
  have h2:(2 ^ n:Nat)≤2 ^ 63:=Nat.pow_le_pow_right (by decide) (by omega);have h3:((2:Int) ^ n)=((2 ^ n:Nat):Int):=by simp
  rw [h3];omega
 have hp0:(0:Int)≤2 ^ n:=Int.le_of_lt (Int.pow_pos (by decide));have h4:¬((n:Int)<0):=by omega
 simp (disch:=omega) only [Iz9,Dx1,hb,h1,h4,Int.one_mul,xe,EVP,EV,simprocAttr]
theorem u7 (r:Rec) (t:Int):S i7 2 [r.pv, .i .i64 t]=some [.b (Ph r t)]:=by
 refine In1 (N:=1) rfl ?_;unfold Ph;by_cases h1:0≤t
 ·by_cases h2:t≤63
  ·obtain ⟨n,rfl⟩:∃n:Nat,t=(n:Int):=⟨t.toNat,by omega⟩;have h3:=Gm8 r.data.bits n (by omega);have hp0:(0:Int)<2 ^ n:=Int.pow_pos (by decide);simp (disch:=omega) only [Fp7,Eb1,S2,h3,xe,EVP,EV,simprocAttr];by_cases h4:bit r.data.bits n=1
   ·simp [h4];omega
   ·simp [h4]
  ·simp (disch:=omega) only [Fp7,xe,EVP,EV,simprocAttr]
   try simp [h2]
 ·simp (disch:=omega) only [Fp7,xe,EVP,EV,simprocAttr]
  try simp [h1]
def Kb (n top:List UInt8):Bool:=decide (n≠top) && under n top
theorem Gm (n top:List UInt8) (hn:n.length≤9223372036854775807) (ht:top.length≤9223372036854775807):S i8 2 [.s n, .s top]=some [.b (Kb n top)]:=by
 refine In5 (N:=1) rfl ?_;unfold Kb;by_cases h:n=top
 ·simp (disch:=omega) only [Gr2,h,xe,EVP,EV,simprocAttr]
  try simp
 ·simp (disch:=omega) only [Gr2,E5,h,xe,EVP,EV,simprocAttr]
  try simp
def Vk (r:Rec):Bool:=Ph r 39||(Ph r 2 && !Ph r 6)
theorem wq (r:Rec):S Bh6 1 [r.pv]=some [.b (Vk r)]:=by refine In4 (N:=1) rfl ?_;unfold Vk;rcases Aq (Ph r 39) with h1|h1<;>rcases Aq (Ph r 2) with h2|h2<;>rcases Aq (Ph r 6) with h3|h3<;>simp (disch:=omega) only [Ic2,Jg,h1,h2,h3,xe,EVP,EV,simprocAttr]<;>rfl
def H3 (r:Rec) (zone name:List UInt8):Bool:=
 decide (r.typ=47) && under name zone && decide (0<Hq name r.name) && !(decide (r.data.host≠zone) && decide (0≤Hq name r.data.host)) && (!Kb name r.name|| !Vk r)
theorem Oj (r:Rec) (zone name:List UInt8) (hr:r.wf) (hz:zone.length≤9223372036854775807) (hn:name.length≤9223372036854775807):S bl 3 [r.pv, .s zone, .s name]=some [.b (H3 r zone name)]:=by
 refine Ip4 (N:=1) rfl ?_;have g1:=hr.name;have g2:=hr.data.host;unfold S7 at g1 g2;unfold H3;by_cases h1:r.typ=47
 ·rcases Aq (under name zone) with h2|h2
  ·by_cases h3:0<Hq name r.name
   ·by_cases h4:r.data.host=zone
    ·rcases Aq (Kb name r.name) with h6|h6<;>rcases Aq (Vk r) with h7|h7<;>simp (disch:=omega) only [Ax1,E5,Hj,Gm,wq,h1,h2,h4,h6,h7,xe,EVP,EV,simprocAttr]<;>simp [h3]
    ·by_cases h5:0≤Hq name r.data.host
     ·simp (disch:=omega) only [Ax1,E5,Hj,h1,h2,h4,xe,EVP,EV,simprocAttr]
      try simp [h4,h5]
     ·rcases Aq (Kb name r.name) with h6|h6<;>rcases Aq (Vk r) with h7|h7<;>simp (disch:=omega) only [Ax1,E5,Hj,Gm,wq,h1,h2,h4,h6,h7,xe,EVP,EV,simprocAttr]<;>simp [h3,h5]
   ·simp (disch:=omega) only [Ax1,E5,Hj,h1,h2,xe,EVP,EV,simprocAttr]
    try simp [h3]
  ·simp (disch:=omega) only [Ax1,E5,h1,h2,xe,EVP,EV,simprocAttr]
   try simp
 ·simp (disch:=omega) only [Ax1,h1,xe,EVP,EV,simprocAttr]
  try simp
theorem Cv1 (a:List UInt8):Hq a a=0:=by
 rcases Aq (vld a) with h|h
 ·rw [Sn h h];unfold kx;have:∀l:List (List UInt8),Qm l l=none:=by
   intro l;induction l with
   |nil=>rfl
   |cons x xs ih=>simp [Qm,ih]
  rw [this];simp
 ·unfold Hq;simp [h,Hr]
theorem nv (r:Rec) (zone name:List UInt8) (hr:r.wf) (hz:zone.length≤9223372036854775807) (hn:name.length≤9223372036854775807):S Bm0 3 [r.pv, .s zone, .s name]=some [.b (H3 r zone name)]:=by
 refine Ip3 (N:=1) rfl ?_;have g1:=hr.name;have g2:=hr.data.host;unfold S7 at g1 g2;unfold H3;by_cases h1:r.typ=47
 ·rcases Aq (under name zone) with h2|h2
  ·by_cases h3:0<Hq name r.name
   ·have hne:name≠r.name:=fun e=>by rw [←e,Cv1] at h3;omega
    have hbel:Kb name r.name=under name r.name:=by simp [Kb,hne]
    rw [hbel];unfold Vk;by_cases h4:r.data.host=zone
    ·rcases Aq (under name r.name) with h6|h6<;>rcases Aq (Ph r 39) with h7|h7<;>rcases Aq (Ph r 6) with h8|h8<;>rcases Aq (Ph r 2) with h9|h9<;>simp (disch:=omega) only [Ax0,Lz,Kv,u7,h1,h2,h4,h6,h7,h8,h9,xe,EVP,EV,simprocAttr]<;>simp [h3]
    ·by_cases h5:0≤Hq name r.data.host
     ·simp (disch:=omega) only [Ax0,Lz,Kv,h1,h2,h4,xe,EVP,EV,simprocAttr]
      try simp [h4,h5]
     ·rcases Aq (under name r.name) with h6|h6<;>rcases Aq (Ph r 39) with h7|h7<;>rcases Aq (Ph r 6) with h8|h8<;>rcases Aq (Ph r 2) with h9|h9<;>simp (disch:=omega) only [Ax0,Lz,Kv,u7,h1,h2,h4,h6,h7,h8,h9,xe,EVP,EV,simprocAttr]<;>simp [h3,h5]
   ·simp (disch:=omega) only [Ax0,Lz,Kv,h1,h2,xe,EVP,EV,simprocAttr]
    try simp [h3]
  ·simp (disch:=omega) only [Ax0,Lz,h1,h2,xe,EVP,EV,simprocAttr]
   try simp
 ·simp (disch:=omega) only [Ax0,h1,xe,EVP,EV,simprocAttr]
  try simp
def j7 (r:Rec) (name:List UInt8):List UInt8:=if Gn6 (Gl name r.name)<Gn6 (Gl name r.data.host) then Gl name r.data.host else Gl name r.name
theorem Kk (a b:List UInt8):(Gl a b).length≤254:=by
 unfold Gl;split
 ·rename_i h;exact Bt4 h.1 _
 ·simp
theorem Rh (r:Rec) (name:List UInt8) (hr:r.wf) (hn:name.length≤9223372036854775807):S Bg1 2 [r.pv, .s name]=some [.s (j7 r name)]:=by refine Ig8 (N:=1) rfl ?_;have g1:=hr.name;have g2:=hr.data.host;unfold S7 at g1 g2;have h1:=Kk name r.name;have h2:=Kk name r.data.host;unfold j7;by_cases h:Gn6 (Gl name r.name)<Gn6 (Gl name r.data.host)<;>simp (disch:=omega) only [Iz5,Am9,Db0,h,xe,EVP,EV,simprocAttr]
theorem Ck7 (r:Rec) (name:List UInt8):(j7 r name).length≤254:=by
 unfold j7;split
 ·exact Kk _ _
 ·exact Kk _ _
def Zz (zone name:List UInt8) (r:Rec):Option (List UInt8):=
 if H3 r zone name && !Kb r.data.host name && Nw (j7 r name) then some (gn (j7 r name)) else none
def starsN (l:List Rec) (zone name:List UInt8):List (List UInt8):=l.filterMap (Zz zone name)
theorem s8 (l:List Rec) (zone name:List UInt8) (hw:∀r∈l,r.wf) (hl:l.length≤1000000) (hz:zone.length≤9223372036854775807) (hn:name.length≤9223372036854775807):
  S Af7 3 [Al l, .s zone, .s name]=some [Bd (starsN l zone name)]:=by
 refine Im9 (N:=l.length+1) rfl ?_;have key:Em3.ev S (l.length+1) [Al l, .s zone, .s name]=some (.yld 0 [Bd ([]++starsN l zone name)]):=by
  refine Fb l (fun i (g:List (List UInt8))=>[Bd g, .i .i64 (i:Int)]) (fun i g r=> .yld 0 [Bd (g++starsN r zone name)]) (fun i g=>g.length≤i) [] rfl (Af _) (by omega) (fun i g c r hd hi hc hI=> ?_) (fun g hI=> ?_)
  ·left;have hcw:=hw c (Bv hc);have g2:=hcw.data.host;unfold S7 at g2;have h1:=Oj c zone name hcw hz hn;have h2:=Rh c name hcw hn;have h3:=Ck7 c name;cases h:Zz zone name c with
   |some s=>
    refine ⟨g++[s],?_,by simp;omega,by simp [starsN,h]⟩;unfold Zz at h;split at h
    ·rename_i hc2;injection h with h;subst h;simp only [Aw,A7] at hc2;obtain ⟨⟨k1,k2⟩,k3⟩:=hc2;simp (disch:=omega) only [Aw9,hc,h1,h2,Gm,Aw4,k1,k2,k3,xe,EVP,EV,simprocAttr]
    ·cases h
   |none=>
    refine ⟨g,?_,by omega,by simp [starsN,h]⟩;unfold Zz at h;split at h
    ·cases h
    ·rename_i hc2;rcases ch3 (H3 c zone name) (!Kb c.data.host name) (Nw (j7 c name)) with e0|⟨e0,e1⟩|⟨e0,e1,e2⟩|⟨e0,e1,e2⟩
     ·simp (disch:=omega) only [Aw9,hc,h1,e0,xe,EVP,EV,simprocAttr]
     ·simp only [Bool.not_eq_false'] at e1;simp (disch:=omega) only [Aw9,hc,h1,Gm,e0,e1,xe,EVP,EV,simprocAttr]
     ·simp only [A7] at e1;simp (disch:=omega) only [Aw9,hc,h1,h2,Gm,Aw4,e0,e1,e2,xe,EVP,EV,simprocAttr]
     ·exact absurd (by simp [e0,e1,e2]) hc2
  ·simp (disch:=omega) only [Aw9,xe,EVP,EV,simprocAttr]
   try simp [starsN,Out.goes]
 simp (disch:=omega) only [Aw9,key,xe,EVP,EV,simprocAttr]
def Jl (v:List UInt8):List (List UInt8)→Nat→Int
 |[],_=> -1
 |x::r,i=>if v=x then (i:Int) else Jl v r (i+1)
theorem dw (v:List UInt8):∀(l:List (List UInt8)) (i:Nat),decide (0≤Jl v l i)=decide (v∈l)
 |[],i=>by simp [Jl]
 |x::r,i=>by
  simp only [Jl];by_cases h:v=x
  ·simp [h]
  ·simp only [if_neg h,dw v r (i+1)];simp [h]
theorem Bq3 (l:List (List UInt8)) (v:List UInt8) (hl:l.length≤1000000):S cq 2 [Bd l, .s v]=some [.i .i64 (Jl v l 0)]:=by
 refine Hb9 (N:=l.length+1) rfl ?_;have key:Bs8.ev S (l.length+1) [Bd l, .s v]=some (if Jl v l 0= -1 then .yld 0 [] else .ret [.i .i64 (Jl v l 0)]):=by
  refine E2 l (fun i=>[.i .i64 (i:Int)]) (fun i r=>if Jl v r i= -1 then .yld 0 [] else .ret [.i .i64 (Jl v r i)]) rfl (by omega) (fun i c r hd hi hc=> ?_) ?_
  ·by_cases h:v=c
   ·right;simp (disch:=omega) only [Yt,hc,h,xe,EVP,EV,simprocAttr];have:¬((i:Int)= -1):=by omega
    simp [Jl,this,Out.goes]
   ·left;simp (disch:=omega) only [Yt,hc,h,xe,EVP,EV,simprocAttr]
    try simp [Jl,h]
  ·simp (disch:=omega) only [Yt,xe,EVP,EV,simprocAttr]
   try simp [Jl,Out.goes]
 by_cases h:Jl v l 0= -1
 ·rw [if_pos h] at key;simp (disch:=omega) only [Yt,key,h,xe,EVP,EV,simprocAttr]
 ·rw [if_neg h] at key;simp (disch:=omega) only [Yt,key,xe,EVP,EV,simprocAttr]
theorem Px (l:List (List UInt8)) (v:List UInt8) (hl:l.length≤1000000):S Af2 2 [Bd l, .s v]=some [.b (decide (v∈l))]:=by refine Il8 (N:=1) rfl ?_;rw [←dw v l 0];simp (disch:=omega) only [Ib4,Bq3,xe,EVP,EV,simprocAttr]
def Lk (l:List Rec) (zone name star:List UInt8):Bool:=decide (star∈starsN l zone name)
theorem Tn (l:List Rec) (zone name:List UInt8):(starsN l zone name).length≤l.length:=List.length_filterMap_le _ _
theorem nq (l:List Rec) (zone name star:List UInt8) (hw:∀r∈l,r.wf) (hl:l.length≤1000000) (hz:zone.length≤9223372036854775807) (hn:name.length≤9223372036854775807):
  S Bh7 4 [Al l, .s zone, .s name, .s star]=some [.b (Lk l zone name star)]:=by
 refine In8 (N:=1) rfl ?_;have h1:=Tn l zone name;simp (disch:=omega) only [Ic3,s8 l zone name hw hl hz hn,Px,Lk,xe,EVP,EV,simprocAttr]
def Bk5 (l:List Rec):Bool:=decide (l.length≤30) && l.all fun r=>decide (r.name.length≤300) && decide (r.data.host.length≤300)
theorem Ay2 (l:List Rec):S Bm1 1 [Al l]=some [.b (Bk5 l)]:=by
 refine Ip5 (N:=l.length+1) rfl ?_;unfold Bk5;by_cases hl:l.length≤30
 ·have key:Em6.ev S (l.length+1) [Al l]=some (if (l.all fun r=>decide (r.name.length≤300) && decide (r.data.host.length≤300))=true then .yld 0 [] else .ret [.b false]):=by
   refine E2 l (fun i=>[.i .i64 (i:Int)]) (fun i q=>if (q.all fun r=>decide (r.name.length≤300) && decide (r.data.host.length≤300))=true then .yld 0 [] else .ret [.b false]) rfl (by omega) (fun i c r hd hi hc=> ?_) ?_
   ·by_cases h1:c.name.length≤300
    ·by_cases h2:c.data.host.length≤300
     ·left;simp (disch:=omega) only [Ax2,hc,xe,EVP,EV,simprocAttr]
      try simp [h1,h2]
     ·right;simp (disch:=omega) only [Ax2,hc,xe,EVP,EV,simprocAttr]
      try simp [h2,Out.goes]
    ·right;simp (disch:=omega) only [Ax2,hc,xe,EVP,EV,simprocAttr]
     try simp [h1,Out.goes]
   ·simp (disch:=omega) only [Ax2,xe,EVP,EV,simprocAttr]
    try simp [Out.goes]
  rcases Aq (l.all fun r=>decide (r.name.length≤300) && decide (r.data.host.length≤300)) with h|h<;>rw [h] at key ⊢<;>simp (disch:=omega) only [Ax2,key,xe,EVP,EV,simprocAttr]<;>simp [hl]
 ·simp (disch:=omega) only [Ax2,xe,EVP,EV,simprocAttr]
  try simp [hl]
end Go.X.G
