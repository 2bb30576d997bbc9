/- Names: what the reference's functions give. -/
import Derived.Test.YtfnmphjdknjkmaaGreatDoorNsecEmptyG7
import Derived.Test.YtfnmphjdknjkmaaGreatDoorNsecEmptyG8
open Bool renaming eq_false_or_eq_true→Ak,and_eq_true→Aw,or_eq_true→Ap,not_eq_true'→A7,eq_iff_iff→C2,and_true→Oh,eq_false_iff→qv
open Int renaming toNat_natCast→G4
open List renaming getElem?_eq_some_iff→Av,getElem?_eq_getElem→Az,length_append→Ac,mem_cons→Am,append_assoc→As,length_cons→A3,mem_of_getElem?→A9,length_pos_iff→Bb,length_nil→Bf,getD_eq_getElem?_getD→Bl,take_append_drop→Bs,length_drop→B3,cons_append→B4,getElem?_cons_zero→Cj,nil_append→Cb,take_add_one→Cl,drop_eq_getElem_cons→Ct,drop_drop→C0,take_length→Dq,drop_zero→D3,length_map→E9,mem_cons_self→Gq,mem_of_mem_drop→Gc,drop_eq_nil_of_le→G3,cons_prefix_cons→Hh,drop_append_of_le_length→Ir,getLast_eq_getElem→Jq,flatMap_cons→Jw,isSuffixOf_iff_suffix→K2,append_cancel_right→Og,reverse_prefix→Gy3,filterMap_cons→Gy4,count_eq_zero→Ir4
open Nat renaming le_refl→Af,zero_le→Cc,mod_eq_of_lt→Dk,one_mul→Eb
open Option renaming map_eq_some_iff→Ax,map_some→A5
open Option.some renaming injEq→Aq
set_option maxHeartbeats 1000000
set_option linter.unusedVariables false
set_option linter.unusedSimpArgs false
namespace Go.X.G
open Go Go.X
def N4 (c:UInt8):Bool:=decide (97≤(c.toNat:Int)) && decide ((c.toNat:Int)≤122)||decide (48≤(c.toNat:Int)) && decide ((c.toNat:Int)≤57)||decide ((c.toNat:Int)=45)||decide ((c.toNat:Int)=95)
theorem An6 (c:UInt8):(decide (97≤(c.toNat:Int)) && decide ((c.toNat:Int)≤122)||decide (48≤(c.toNat:Int)) && decide ((c.toNat:Int)≤57)||decide ((c.toNat:Int)=45)||decide ((c.toNat:Int)=95))=N4 c:=rfl
def Ib (s:List UInt8):Bool:=decide (s=[42])||(decide (1≤s.length) && decide (s.length≤63) && s.all N4)
theorem Ap2 (s:List UInt8) (N:Nat) (hN:s.length<N) (hs:s.length≤4294967296):
  Cv4.ev S N [.s s]=some (if s.all N4=true then .yld 0 [] else .ret [.b false]):=by
 refine Ew s (fun i=>[.i .i64 (i:Int)]) (fun i r=>if r.all N4=true then .yld 0 [] else .ret [.b false]) rfl hN (fun i c r hd hi hc=> ?_) ?_
 ·simp (disch:=omega) only [Bv7,xe,EV,simprocAttr,hc,An6];cases h:N4 c<;>simp [h,Out.goes]
 ·simp (disch:=omega) [Bv7,xe,EV,simprocAttr,Out.goes]
theorem Ap1 (s:List UInt8) (hs:s.length≤4294967296):S df 1 [.s s]=some [.b (Ib s)]:=by
 refine Hr4 (N:=s.length+1) rfl ?_;simp (disch:=omega) only [Bv7,Ap2,xe,EV,simprocAttr];unfold Ib
 grind
end Go.X.G
/- Names: what the reference's functions give. -/
namespace Go.X.G
open Go Go.X
def spl (first:Bool) (cur:List UInt8):List UInt8→Option (List (List UInt8))
 |[]=>some []
 |c::r=>if c=46 then (if Ib cur=true∧(cur=[42]→first=true) then (spl false [] r).map (cur::·) else none) else spl first (cur++[c]) r
def nm (n:List UInt8):Option (List (List UInt8)):=
 if n=[46] then some [] else if 2≤n.length∧n.length≤254∧n[n.length - 1]? =some 46 then spl true [] n else none
def lbl (n:List UInt8):List (List UInt8):=(nm n).getD []
def vld (n:List UInt8):Bool:=(nm n).isSome
theorem Gb5 {α:Type} (n:List α) (i j:Nat) (c:α) (h:n[i]? =some c) (hj:j≤i):(n.take (i+1)).drop j=(n.take i).drop j++[c]:=by have hi:i<n.length:=(Av.1 h).1;rw [Cl,h,Ir (by simp;omega)];rfl
theorem Gb6 {α:Type} (n:List α) (i:Nat):(n.take i).drop i=[]:=by rw [List.drop_eq_nil_iff];simp;omega
def Uc (l:List (List UInt8)):Option (List (List UInt8))→Out
 |some ls=> .yld 0 [.l 1 ((l++ls).map .s)]
 |none=> .ret [.l 1 [], .b false]
theorem Ev4 (n:List UInt8) (N:Nat) (hN:n.length<N) (hs:n.length≤1000):
  Et4.ev S N [.s n]=some (Uc [] (spl true [] n)):=by
 refine Fy n (fun i (g:List (List UInt8)×Nat)=>[.l 1 (g.1.map .s), .i .i64 (g.2:Int), .i .i64 (i:Int)]) (fun i g r=>Uc g.1 (spl (decide (g.2=0)) ((n.take i).drop g.2) r)) (fun i g=>g.1.length≤i∧g.2≤i) ([],0) rfl ⟨Af _,Af _⟩ hN (fun i g c r hd hi hc hI=> ?_) (fun g hI=> ?_)
 ·obtain ⟨l,st⟩:=g;obtain ⟨h1,h2⟩:=hI;simp only at h1 h2 ⊢;have hl:((n.take i).drop st).length≤4294967296:=by simp;omega
  have hm:(l.map PV.s).length=l.length:=E9 ..;have hd':=Gz8 c 46 (by omega);by_cases hdot:c=46
  ·have hdi:=hd'.2 hdot;simp (disch:=omega) only [Zg,xe,EV,simprocAttr,hc,Ap1];simp only [spl,if_pos hdot];by_cases h:Ib ((n.take i).drop st)=true∧((n.take i).drop st=[42]→st=0)
   ·obtain ⟨h3,h4⟩:=h;left;refine ⟨(l++[(n.take i).drop st],i+1),?_,?_,?_⟩
    ·rw [if_neg (by simp only [h3];intro h;simp at h;have:=h4 h.1;omega)];simp
    ·simp;omega
    ·simp only [Gb6];rw [if_pos ⟨h3,by simpa using h4⟩];cases h9:spl false [] r<;>simp [h9,Uc]
   ·right;have h':¬(Ib ((n.take i).drop st)=true∧((n.take i).drop st=[42]→decide (st=0)=true)):=by simpa using h
    rw [if_neg h'];refine ⟨?_,rfl⟩;rw [if_pos]
    ·rfl
    ·cases h5:Ib ((n.take i).drop st)
     ·simp
     ·simp only [h5,true_and] at h;have ⟨h6,h7⟩:=Classical.not_imp.1 h;simp [h6];omega
  ·have hdi:¬(c.toNat:Int)=46:=fun h=>hdot (hd'.1 h);left;refine ⟨(l,st),?_,?_,?_⟩
   ·simp (disch:=omega) only [Zg,xe,EV,simprocAttr,hc]
   ·simp only;omega
   ·simp only [spl];rw [if_neg hdot,Gb5 n i st c hc h2]
 ·simp (disch:=omega) [Zg,xe,EV,simprocAttr,Out.goes,spl,Uc]
theorem split_ok (n:List UInt8) (hs:n.length≤9223372036854775807):S Pk 1 [.s n]=some [Bd (lbl n), .b (vld n)]:=by
 refine Jv8 (N:=n.length+1) rfl ?_;unfold Bd lbl vld nm;by_cases h1:n=[46]
 ·simp (disch:=omega) [Zg,xe,EV,simprocAttr,h1]
 ·rw [if_neg h1];by_cases h2:n.length<2
  ·simp (disch:=omega) only [Zg,xe,EV,simprocAttr,h1];have h3:¬(2≤n.length∧n.length≤254∧n[n.length - 1]? =some 46):=by omega
   rw [if_neg h3];rfl
  ·by_cases h3:254<n.length
   ·simp (disch:=omega) only [Zg,xe,EV,simprocAttr,h1];have h3:¬(2≤n.length∧n.length≤254∧n[n.length - 1]? =some 46):=by omega
    rw [if_neg h3];rfl
   ·have h4:=Az (l:=n) (i:=n.length - 1) (by omega);have h5:((n.length:Int) - 1).toNat=n.length - 1:=by omega
    have h6:=Gz8 (n[n.length - 1]'(by omega)) 46 (by omega);simp (disch:=omega) only [Zg,xe,EV,simprocAttr,h1,h4,h5,Ev4];by_cases h7:n[n.length - 1]'(by omega)=46
    ·rw [if_pos (show 2≤n.length∧n.length≤254∧some (n[n.length - 1]'(by omega))=some 46 from ⟨by omega,by omega,by rw [h7]⟩),if_neg (fun h=>h (h6.2 h7))];cases h8:spl true [] n
     ·simp [Uc,Dg8]
     ·simp (disch:=omega) [Zg,Uc,xe,EV,simprocAttr]
    ·rw [if_neg (show¬(2≤n.length∧n.length≤254∧some (n[n.length - 1]'(by omega))=some 46) from fun h=>h7 (by simpa using h.2.2)),if_pos (show (((n[n.length - 1]'(by omega)).toNat:Int)≠46) from fun h=>h7 (h6.1 h))];rfl
end Go.X.G
/- Names: what the reference's functions give, ctd. -/
namespace Go.X.G
open Go Go.X
theorem jz:∀(r:List UInt8) (f:Bool) (cur:List UInt8) (l:List (List UInt8)),spl f cur r=some l→l.length≤r.length
 |[],f,cur,l,h=>by simp [spl] at h;simp [←h]
 |c::r,f,cur,l,h=>by
  simp only [spl] at h;split at h
  ·split at h
   ·obtain ⟨m,hm,rfl⟩:=Ax.1 h;have:=jz r _ _ _ hm;simp;omega
   ·cases h
  ·have:=jz r _ _ _ h;simp;omega
theorem Iq8 {n:List UInt8} {l:List (List UInt8)} (h:nm n=some l):l.length≤254:=by
 unfold nm at h;split at h
 ·injection h with h;subst h;simp
 ·split at h
  ·rename_i h2;have:=jz _ _ _ _ h;omega
  ·cases h
theorem G8 (n:List UInt8):(lbl n).length≤254:=by
 unfold lbl;cases h:nm n with
 |none=>simp
 |some l=>exact Iq8 h
theorem Tg (n:List UInt8) (hs:n.length≤9223372036854775807):S Bn5 1 [.s n]=some [.b (vld n)]:=by refine Jv2 (N:=1) rfl ?_;simp (disch:=omega) only [Ir6,split_ok,xe,EVP,EV,simprocAttr]
theorem At3 (n:List UInt8) (hs:n.length≤9223372036854775807):S Al8 1 [.s n]=some [Bd (lbl n)]:=by refine Jv0 (N:=1) rfl ?_;simp (disch:=omega) only [Ir5,split_ok,xe,EVP,EV,simprocAttr]
def Pz {α:Type} [DecidableEq α]:List α→List α→Nat
 |x::xs,y::ys=>if x=y then Pz xs ys+1 else 0
 |_,_=>0
def F0 (a b:List (List UInt8)):Nat:=Pz a.reverse b.reverse
theorem Cz6 {α:Type} [DecidableEq α]:∀(a b:List α),Pz a b≤a.length∧Pz a b≤b.length
 |[],b=>by simp [Pz]
 |x::xs,[]=>by simp [Pz]
 |x::xs,y::ys=>by have:=Cz6 xs ys;simp only [Pz];split<;>simp<;>omega
theorem W3 (a b:List (List UInt8)):F0 a b≤a.length∧F0 a b≤b.length:=by have:=Cz6 a.reverse b.reverse;simpa [F0] using this
theorem Gd7 (a b:List (List UInt8)) (N:Nat) (hN:a.length<N) (ha:a.length≤1000000) (hb:b.length≤1000000):
  Ck9.ev S N [Bd a,Bd b]=some (.yld 0 [.i .i64 (F0 a b:Int)]):=by
 have key:=Js (fn:=S) (N:=N) (η:=[Bd a,Bd b]) (id:=1) (init:=[(.c (.i .i64 (0)))]) (body:=Dd6) (α:=Nat) (fun k=>[.i .i64 (k:Int)]) (fun k=> .yld 0 [.i .i64 ((k+Pz (a.reverse.drop k) (b.reverse.drop k):Nat):Int)]) (fun k=>k≤a.length∧k≤b.length) (fun k=>a.length - k) 0 rfl ⟨Cc _,Cc _⟩ (by omega) ?_
 ·simpa [F0,Ck9] using key
 ·rintro k ⟨h1,h2⟩;by_cases h3:k<a.length
  ·by_cases h4:k<b.length
   ·have e1:((a.length:Int) - 1 - k).toNat=a.length - 1 - k:=by omega
    have e2:((b.length:Int) - 1 - k).toNat=b.length - 1 - k:=by omega
    have g1:a[a.length - 1 - k]? =some (a[a.length - 1 - k]'(by omega)):=Az (by omega);have g2:b[b.length - 1 - k]? =some (b[b.length - 1 - k]'(by omega)):=Az (by omega);have d1:a.reverse.drop k=(a[a.length - 1 - k]'(by omega))::a.reverse.drop (k+1):=by rw [Ct (by simpa using h3)];simp
    have d2:b.reverse.drop k=(b[b.length - 1 - k]'(by omega))::b.reverse.drop (k+1):=by rw [Ct (by simpa using h4)];simp
    simp (disch:=omega) only [Dn3,xe,EVP,EV,simprocAttr,e1,e2,g1,g2];rw [d1,d2];simp only [Pz];by_cases h:a[a.length - 1 - k]'(by omega)=b[b.length - 1 - k]'(by omega)
    ·left;refine ⟨k+1,by simp [h],⟨by omega,by omega⟩,by omega,?_⟩;rw [if_pos h];congr 3
     push_cast
     omega
    ·right;simp [h,Out.goes]
   ·right;have d2:b.reverse.drop k=[]:=G3 (by simp;omega);have z:Pz (a.reverse.drop k) []=0:=by cases a.reverse.drop k<;>rfl
    rw [d2,z];simp (disch:=omega) [Dn3,xe,EVP,EV,simprocAttr,Out.goes]
  ·right;have d1:a.reverse.drop k=[]:=G3 (by simp;omega);have z:Pz [] (b.reverse.drop k)=0:=rfl;rw [d1,z];simp (disch:=omega) [Dn3,xe,EVP,EV,simprocAttr,Out.goes]
theorem W2 (a b:List (List UInt8)) (ha:a.length≤1000000) (hb:b.length≤1000000):S kv 2 [Bd a,Bd b]=some [.i .i64 (F0 a b:Int)]:=by refine Jv7 (N:=a.length+1) rfl ?_;simp (disch:=omega) only [Dn3,Gd7,xe,EVP,EV,simprocAttr]
def under (n top:List UInt8):Bool:=vld n && vld top && decide (F0 (lbl n) (lbl top)=(lbl top).length)
theorem I6 (n top:List UInt8) (hn:n.length≤9223372036854775807) (ht:top.length≤9223372036854775807):S cq 2 [.s n, .s top]=some [.b (under n top)]:=by
 refine Jz4 (N:=1) rfl ?_;have h1:=G8 n;have h2:=G8 top;unfold under;cases h3:vld n<;>cases h4:vld top<;>simp (disch:=omega) only [It4,split_ok,W2,h3,h4,xe,EVP,EV,simprocAttr]
 all_goals (simp;try omega)
def cmpS (a b:List UInt8):Int:=if Op.bytesLess a b then -1 else if a=b then 0 else 1
theorem Nb (a b:List UInt8):S Am0 2 [.s a, .s b]=some [.i .i64 (cmpS a b)]:=by
 refine Jv6 (N:=1) rfl ?_;unfold cmpS;simp (disch:=omega) only [Ir8,xe,EVP,EV,simprocAttr];cases h:Op.bytesLess a b
 ·by_cases h2:a=b<;>simp [h2]
 ·simp
def Hf (a b:List UInt8):Int:=
 if vld a && vld b then
  let k:=F0 (lbl a) (lbl b)
  if k<(lbl a).length∧k<(lbl b).length then cmpS ((lbl a).getD ((lbl a).length - 1 - k) []) ((lbl b).getD ((lbl b).length - 1 - k) [])
  else if (lbl a).length<(lbl b).length then -1 else if (lbl b).length<(lbl a).length then 1 else 0
 else if vld a then -1 else if vld b then 1 else cmpS a b
theorem Kf (a b:List UInt8) (hn:a.length≤9223372036854775807) (ht:b.length≤9223372036854775807):S An1 2 [.s a, .s b]=some [.i .i64 (Hf a b)]:=by
 refine Jz3 (N:=1) rfl ?_;have h1:=G8 a;have h2:=G8 b;have h5:=W3 (lbl a) (lbl b);unfold Hf;cases h3:vld a<;>cases h4:vld b
 ·simp (disch:=omega) [Bq5,split_ok,Nb,h3,h4,xe,EVP,EV,simprocAttr]
 ·simp (disch:=omega) [Bq5,split_ok,Nb,h3,h4,xe,EVP,EV,simprocAttr]
 ·simp (disch:=omega) [Bq5,split_ok,Nb,h3,h4,xe,EVP,EV,simprocAttr]
 ·by_cases h6:F0 (lbl a) (lbl b)<(lbl a).length∧F0 (lbl a) (lbl b)<(lbl b).length
  ·obtain ⟨h7,h8⟩:=h6;have e1:(((lbl a).length:Int) - 1 - (F0 (lbl a) (lbl b):Int)).toNat=(lbl a).length - 1 - F0 (lbl a) (lbl b):=by omega
   have e2:(((lbl b).length:Int) - 1 - (F0 (lbl a) (lbl b):Int)).toNat=(lbl b).length - 1 - F0 (lbl a) (lbl b):=by omega
   have g1:=Az (l:=lbl a) (i:=(lbl a).length - 1 - F0 (lbl a) (lbl b)) (by omega);have g2:=Az (l:=lbl b) (i:=(lbl b).length - 1 - F0 (lbl a) (lbl b)) (by omega);simp (disch:=omega) only [Bq5,split_ok,W2,Nb,h3,h4,e1,e2,g1,g2,xe,EVP,EV,simprocAttr];simp [h7,h8,g1,g2]
  ·simp (disch:=omega) only [Bq5,split_ok,W2,Nb,h3,h4,xe,EVP,EV,simprocAttr];simp only [h6]
   grind
end Go.X.G
/- The library's functions on strings. -/
namespace Go.X.G
open Go Go.X
theorem Gs5 (x:List UInt8) (c:UInt8):S wq 2 [.s x, .i .u8 (c.toNat:Int)]=some [.i .i64 (x.count c:Int)]:=
 Hm3 (args:=[.s x, .i .u8 (c.toNat:Int)]) (by simp [XK.run,Ad2,Lib.countByte])
theorem Gm8 (x:List UInt8) (c:UInt8):S wx 2 [.s x, .i .u8 (c.toNat:Int)]=some [.i .i64 (Lib.indexByte x c)]:=
 Hm4 (args:=[.s x, .i .u8 (c.toNat:Int)]) (by simp [XK.run,Ad2])
theorem Gs6 (x y:List UInt8):S wz 2 [.s x, .s y]=some [.i .i64 (Lib.compareBytes x y)]:=
 Hn4 (args:=[.s x, .s y]) (by simp [XK.run,Ew2])
theorem Od (x:List UInt8) (c:UInt8):S U5 2 [.s x, .i .u8 (c.toNat:Int)]=some [.i .i64 (Lib.indexByte x c)]:=by refine Hn3 (N:=1) rfl ?_;simp (disch:=omega) only [Hb6,Gm8,xe,EVP,EV,simprocAttr]
theorem gp (x:List UInt8) (c:UInt8):S db 2 [.s x, .i .u8 (c.toNat:Int)]=some [.i .i64 (Lib.indexByte x c)]:=by refine Hr0 (N:=1) rfl ?_;simp (disch:=omega) only [Hc1,Od,xe,EVP,EV,simprocAttr]
theorem Mh (c:UInt8):∀(x:List UInt8),c∉x→Lib.indexByte x c= -1
 |[],_=>rfl
 |b::l,h=>by have h1:b≠c:=fun e=>h (by simp [e]);have h2:=Mh c l (fun e=>h (by simp [e]));simp [Lib.indexByte,h1,h2]
theorem Jn (c:UInt8) (post:List UInt8):∀(pre:List UInt8),c∉pre→Lib.indexByte (pre++c::post) c=(pre.length:Int)
 |[],_=>by simp [Lib.indexByte]
 |b::l,h=>by
  have h1:b≠c:=fun e=>h (by simp [e]);have h2:=Jn c post l (fun e=>h (by simp [e]));simp only [B4,Lib.indexByte,h2];simp [h1]
  try omega
theorem dot_split (c:UInt8):∀(s:List UInt8),c∉s∨∃pre post,s=pre++c::post∧c∉pre
 |[]=> .inl (by simp)
 |b::l=>by
  by_cases h:b=c
  ·exact .inr ⟨[],l,by simp [h],by simp⟩
  ·rcases dot_split c l with h1|⟨pre,post,rfl,h2⟩
   ·exact .inl (by simp [h1,Ne.symm h])
   ·exact .inr ⟨b::pre,post,by simp,by simp [h2,Ne.symm h]⟩
def pcs (cur:List UInt8):List UInt8→List (List UInt8)
 |[]=>[cur]
 |c::r=>if c=46 then cur::pcs [] r else pcs (cur++[c]) r
def cut (s:List UInt8):List (List UInt8):=pcs [] s
theorem Bm6 (post:List UInt8):∀(pre cur:List UInt8),(46:UInt8)∉pre→pcs cur (pre++46::post)=(cur++pre)::pcs [] post
 |[],cur,_=>by simp [pcs]
 |b::l,cur,h=>by have h1:b≠46:=fun e=>h (by simp [e]);have h2:=Bm6 post l (cur++[b]) (fun e=>h (by simp [e]));simp [pcs,h1,h2]
theorem Xq:∀(s cur:List UInt8),(46:UInt8)∉s→pcs cur s=[cur++s]
 |[],cur,_=>by simp [pcs]
 |b::l,cur,h=>by have h1:b≠46:=fun e=>h (by simp [e]);have h2:=Xq l (cur++[b]) (fun e=>h (by simp [e]));simp [pcs,h1,h2]
theorem Cz5 (s:List UInt8):(cut s).length=s.count 46+1:=by
 have:∀(s cur:List UInt8),(pcs cur s).length=s.count 46+1:=by
  intro s
  induction s with
  |nil=>intro cur;rfl
  |cons c r ih=>
   intro cur;by_cases h:c=46<;>simp [pcs,h,ih]
 exact this s []
theorem At4 (s:List UInt8) (hs:s.length≤9223372036854775807):S c5 2 [.s s, .s [46]]=some [.i .i64 (Lib.indexByte s 46)]:=by
 refine Hm2 (N:=1) rfl ?_;have h1:=Od s 46;have e:(((46:UInt8).toNat:Nat):Int)=46:=rfl;rw [e] at h1;by_cases h:[46]=s
 ·subst h;simp (disch:=omega) only [En1,xe,EVP,EV,simprocAttr];rfl
 ·simp (disch:=omega) only [En1,h,h1,e,xe,EVP,EV,simprocAttr]
theorem gn (s:List UInt8) (hs:s.length≤9223372036854775807):S U3 2 [.s s, .s [46]]=some [.i .i64 (Lib.indexByte s 46)]:=by refine Hn0 (N:=1) rfl ?_;simp (disch:=omega) only [Hb4,At4,xe,EVP,EV,simprocAttr]
theorem Dh8 (s:List UInt8):S c8 2 [.s s, .s [46]]=some [.i .i64 (s.count 46:Int)]:=by refine Hn1 (N:=1) rfl ?_;have h1:=Gs5 s 46;have e:(((46:UInt8).toNat:Nat):Int)=46:=rfl;rw [e] at h1;simp (disch:=omega) only [Hb5,h1,e,xe,EVP,EV,simprocAttr]
def Cx7 (done rest:List (List UInt8)):Out:=
 .yld 0 [.s ((done++rest).getLastD []),Bd ((done++rest).dropLast++[[]]), .i .i64 (((done++rest).length:Int) - 1)]
theorem lr (s:List UInt8) (N:Nat) (hN:s.length<N) (hs:s.length≤1000000) (p q:PV):
  lw.ev S N [.s s, .s [46], .i .i64 0,p, .i .i64 ((s.count 46:Int)+1)]=some (Cx7 [] (cut s)):=by
 have hc0:s.count 46≤s.length:=List.count_le_length;have key:=Js (fn:=S) (N:=N) (η:=[.s s, .s [46], .i .i64 0,p, .i .i64 ((s.count 46:Int)+1)]) (id:=1) (init:=[(.v 0),(.rep 1 (.mn (.v 4) (.bin .add (.slen (.v 0)) (.c (.i .i64 (1))))) (.c (.s []))),(.c (.i .i64 (0)))]) (body:=o4) (α:=List (List UInt8)×List UInt8)
  (fun a=>[.s a.2,Bd (a.1++List.replicate (a.2.count 46+1) []), .i .i64 (a.1.length:Int)]) (fun a=>Cx7 a.1 (cut a.2)) (fun a=>a.1.length+a.2.count 46=s.count 46∧a.2.length≤s.length) (fun a=>a.2.length) ([],s) ?_ ⟨by simp,Af _⟩ hN ?_
 ·simpa [lw] using key
 ·have e:((s.count 46:Int)+1).toNat=s.count 46+1:=by omega
  simp (disch:=omega) only [e,xe,EVP,EV,simprocAttr]
 ·rintro ⟨done,rest⟩ ⟨h1,h2⟩;simp only at h1 h2 ⊢;rcases dot_split 46 rest with h|⟨pre,post,rfl,h⟩
  ·right;have c0:rest.count 46=0:=Ir4.2 h;have i0:=Mh 46 rest h;have cu:cut rest=[rest]:=by simpa [cut] using Xq rest [] h
   refine ⟨?_,rfl⟩;rw [c0];rw [c0] at h1;simp (disch:=omega) only [Bv5,gn,i0,xe,EVP,EV,simprocAttr];simp [Cx7,cu,List.getLastD_eq_getLast?]
  ·left;have c0:(pre++46::post).count 46=post.count 46+1:=by rw [List.count_append,Ir4.2 h];simp
   have i0:=Jn 46 post pre h;have cu:cut (pre++46::post)=pre::cut post:=by simpa [cut] using Bm6 post pre [] h
   have hl:(pre++46::post).length=pre.length+post.length+1:=by simp;omega
   have sl1:List.drop (0:Int).toNat (List.take ((pre.length:Int)+0).toNat (pre++46::post))=pre:=by simp
   have sl2:List.drop ((pre.length:Int)+1).toNat (List.take (pre++46::post).length (pre++46::post))=post:=by
    have:((pre.length:Int)+1).toNat=pre.length+1:=by omega
    rw [this,Dq,List.drop_append];simp
   have sl3:(done++[]::[]::List.replicate (post.count 46) ([]:List UInt8)).length=done.length+post.count 46+2:=by simp;omega
   refine ⟨(done++[pre],post),?_,⟨by simp;omega,by simp only;omega⟩,by simp;omega,by simp [Cx7,cu]⟩;rw [c0];rw [c0] at h1;simp (disch:=omega) only [Bv5,gn,i0,sl1,sl2,xe,EVP,EV,simprocAttr];simp [List.replicate_succ,List.set_append]
theorem lp (s:List UInt8) (hs:s.length≤1000000):S dy 4 [.s s, .s [46], .i .i64 0, .i .i64 (-1)]=some [Bd (cut s)]:=by
 refine Hp7 (N:=s.length+1) rfl ?_;have h1:=Cz5 s;have h2:s.count 46≤s.length:=List.count_le_length;obtain ⟨l,x,hx⟩:∃l x,cut s=l++[x]:=⟨(cut s).dropLast,(cut s).getLast (by intro e;simp [e] at h1),(List.dropLast_concat_getLast _).symm⟩;have h3:l.length=s.count 46:=by rw [hx] at h1;simpa using h1
 have h4:((l.length:Int)+1 - 1)=(l.length:Int):=by omega
 have h5:((l++[([]:List UInt8)]).length:Int)=l.length+1:=by simp
 have h6:((l++[x]).length:Int)=l.length+1:=by simp
 have g1:(l++[([]:List UInt8)])[l.length]? =some []:=by simp
 have g2:(l++[x]).getLastD []=x:=by simp [List.getLastD_eq_getLast?]
 have g3:(l++[([]:List UInt8)]).set l.length x=l++[x]:=by simp
 have hk:=lr s (s.length+1) (by omega) hs (.i .i64 (-1)) .u;rw [hx] at hk ⊢;simp only [Cx7,Cb,List.dropLast_concat] at hk;simp (disch:=omega) only [Bv5,Dh8,hk,h4,h6,g1,g2,g3,xe,EVP,EV,simprocAttr];have g4:((l.length:Int)+1).toNat=(l++[x]).length:=by simp
 rw [g4,Dq];rfl
theorem gy (s:List UInt8) (hs:s.length≤1000000):S Vb 2 [.s s, .s [46]]=some [Bd (cut s)]:=by refine Hs7 (N:=1) rfl ?_;simp (disch:=omega) only [Hc8,lp,xe,EVP,EV,simprocAttr]
theorem Zj (s t:List UInt8) (hs:s.length≤9223372036854775807):S dz 2 [.s s, .s t]=some [.b (t.isSuffixOf s)]:=by
 refine Hp8 (N:=1) rfl ?_;by_cases h:t.length≤s.length
 ·have e:((s.length:Int) - (t.length:Int)).toNat=s.length - t.length:=by omega
  simp (disch:=omega) only [En6,e,xe,EVP,EV,simprocAttr];simp only [Dq];congr 4;rw [C2,K2,decide_eq_true_eq];refine ⟨fun h=>h▸List.drop_suffix _ _,fun h=> ?_⟩;obtain ⟨p,rfl⟩:=h;simp
 ·have h2:t.isSuffixOf s=false:=by rw [qv,ne_eq,K2];exact fun h'=>h h'.length_le
  simp (disch:=omega) only [En6,h2,xe,EVP,EV,simprocAttr]
theorem Lm (s t:List UInt8) (hs:s.length≤9223372036854775807):S Vd 2 [.s s, .s t]=some [.b (t.isSuffixOf s)]:=by refine Hs8 (N:=1) rfl ?_;simp (disch:=omega) only [Hc9,Zj,xe,EVP,EV,simprocAttr]
theorem pd (x y:List UInt8):S dh 2 [.s x, .s y]=some [.i .i64 (Lib.compareBytes x y)]:=by refine Hr5 (N:=1) rfl ?_;simp (disch:=omega) only [Hc2,Gs6,xe,EVP,EV,simprocAttr]
theorem pw (x y:List UInt8):S b9 2 [.s x, .s y]=some [.i .i64 (Lib.compareBytes x y)]:=by refine Jw1 (N:=1) rfl ?_;simp (disch:=omega) only [Ir9,pd,xe,EVP,EV,simprocAttr]
end Go.X.G
/- Names and their labels. -/
namespace Go.X.G
open Go Go.X
def flat (l:List (List UInt8)):List UInt8:=l.flatMap fun x=>x++[46]
def jn (l:List (List UInt8)):List UInt8:=if l=[] then [46] else flat l
def Gr (first:Bool):List (List UInt8)→Bool
 |[]=>true
 |p::r=>Ib p && (!decide (p=[42])||first) && Gr false r
theorem Gl9:N4 46=false:=by decide
theorem Lx {p:List UInt8} (h:Ib p=true):(46:UInt8)∉p:=by
 unfold Ib at h;simp at h;rcases h with rfl|⟨_,h⟩
 ·decide
 ·intro h2;have:=h 46 h2;rw [Gl9] at this;cases this
theorem xk {p:List UInt8} (h:Ib p=true):p≠[]:=by rintro rfl;simp [Ib] at h
theorem G9 {p:List UInt8}:∀{f:Bool} {l:List (List UInt8)},Gr f l=true→p∈l→Ib p=true
 |f,q::r,h,hp=>by
  simp only [Gr,Aw] at h;rcases Am.1 hp with rfl|hp
  ·exact h.1.1
  ·exact G9 h.2 hp
theorem Ap4:∀{l:List (List UInt8)},Gr false l=true→Gr true l=true
 |[],_=>rfl
 |p::r,h=>by simp only [Gr,Aw] at h ⊢;exact ⟨⟨h.1.1,by simp⟩,h.2⟩
theorem fw:∀{f:Bool} {a b:List (List UInt8)},Gr f (a++b)=(Gr f a && Gr (f && a.isEmpty) b)
 |f,[],b=>by simp [Gr]
 |f,p::r,b=>by simp only [B4,Gr,fw (a:=r)];simp [Bool.and_assoc]
theorem Ap5 {f:Bool} {l:List (List UInt8)} (h:Gr f l=true) (k:Nat):Gr f (l.drop k)=true:=by
 rw [←Bs k l,fw,Aw] at h;have h2:=h.2;cases f with
 |false=>simpa using h2
 |true=>
  cases he:(l.take k).isEmpty with
  |true=>rw [he] at h2;exact h2
  |false=>rw [he] at h2;exact Ap4 h2
theorem Rc:∀(m:List UInt8) (f:Bool) (cur:List UInt8),spl f cur (m++[46])=if Gr f (pcs cur m)=true then some (pcs cur m) else none
 |[],f,cur=>by simp only [Cb,spl,if_true,pcs,Gr,A5,Oh];by_cases h:Ib cur=true<;>by_cases h2:cur=[42]<;>cases f<;>simp [h,h2]
 |c::r,f,cur=>by
  simp only [B4,spl,pcs];by_cases hc:c=46
  ·simp only [if_pos hc];rw [Rc r false []];simp only [Gr];by_cases h:Ib cur=true<;>by_cases h2:cur=[42]<;>cases f<;>by_cases h3:Gr false (pcs [] r)=true<;>simp [h,h2,h3]
  ·simp only [if_neg hc];exact Rc r f (cur++[c])
theorem R5 (b:List UInt8):∀(a cur:List UInt8),pcs cur (a++46::b)=pcs cur a++cut b
 |[],cur=>by simp [pcs,cut]
 |c::r,cur=>by
  simp only [B4,pcs];split
  ·rw [R5 b r []];rfl
  ·exact R5 b r _
theorem Q3:∀(m cur:List UInt8),flat (pcs cur m)=cur++m++[46]
 |[],cur=>by simp [pcs,flat]
 |c::r,cur=>by
  simp only [pcs];split
  ·rename_i h;have:=Q3 r [];simp only [flat,Jw] at this ⊢;rw [this,h];simp
  ·rw [Q3 r (cur++[c])];simp
theorem X8 (a b:List (List UInt8)):flat (a++b)=flat a++flat b:=by simp [flat]
theorem Ik1 (cur m:List UInt8):pcs cur m≠[]:=by
 cases m with
 |nil=>simp [pcs]
 |cons c r=>
  simp only [pcs];split
  ·simp
  ·intro h;have:=Q3 r (cur++[c]);rw [h] at this;simp [flat] at this
theorem Q6:∀(l:List (List UInt8)),(∀p∈l,(46:UInt8)∉p)→cut (flat l)=l++[[]]
 |[],_=>rfl
 |p::l,h=>by
  have h1:flat (p::l)=p++46::flat l:=by simp [flat]
  rw [h1];show pcs [] _=_;rw [R5,Xq p [] (h p (by simp)),Q6 l (fun q hq=>h q (by simp [hq]))];simp
theorem I3:∀(l:List (List UInt8)),l≠[]→∃m,flat l=m++[46]
 |[p],_=>⟨p,by simp [flat]⟩
 |p::q::r,_=>by obtain ⟨m,hm⟩:=I3 (q::r) (by simp);exact ⟨p++[46]++m,by simp only [flat,Jw] at hm ⊢;rw [hm];simp⟩
theorem xn {l:List (List UInt8)} (hl:l≠[]) (h:∀p∈l,(46:UInt8)∉p) {m:List UInt8} (hm:flat l=m++[46]):cut m=l:=by
 have h1:=Q6 l h;rw [hm] at h1;have h2:cut (m++[46])=cut m++[[]]:=by show pcs [] (m++46::[])=_;rw [R5];rfl
 rw [h2] at h1;exact Og h1
theorem Jd {l:List (List UInt8)} (h:Gr true l=true) (hl:l≠[]):2≤(flat l).length:=by
 cases l with
 |nil=>exact absurd rfl hl
 |cons p r=>
  have h1:=xk (G9 h (Gq ..));have:0<p.length:=Bb.2 h1;simp [flat];omega
theorem Gg6 {l:List (List UInt8)} (h:Gr true l=true) (hl:l≠[]) (hlen:(flat l).length≤254):nm (flat l)=some l:=by obtain ⟨m,hm⟩:=I3 l hl;have h1:=xn hl (fun p hp=>Lx (G9 h hp)) hm;have h2:=Jd h hl;unfold nm;rw [if_neg (by intro e;rw [e] at h2;simp at h2),if_pos ⟨h2,hlen,by rw [hm];simp⟩,hm,Rc];have:pcs [] m=l:=h1;rw [this,if_pos h]
theorem Gg5 {n:List UInt8} {l:List (List UInt8)} (h:nm n=some l):(n=[46]∧l=[])∨(l≠[]∧Gr true l=true∧n=flat l∧n.length≤254):=by
 unfold nm at h;split at h
 ·rename_i e;injection h with h;exact .inl ⟨e,h.symm⟩
 ·split at h
  ·rename_i h1;right;obtain ⟨h2,h3,h4⟩:=h1;obtain ⟨m,hm⟩:∃m,n=m++[46]:=by
    refine ⟨n.dropLast,?_⟩;have:n≠[]:=by intro e;simp [e] at h2
    have h5:=List.dropLast_concat_getLast this;rw [←h5];congr 1
    ·simp
    ·have h6:n[n.length - 1]? =some (n.getLast this):=by rw [Jq];exact Az _
     rw [h6] at h4;injection h4 with h4;simp [h4]
   rw [hm,Rc] at h;split at h
   ·rename_i h5;injection h with h;subst h;refine ⟨Ik1 _ _,h5,?_,by omega⟩;rw [Q3,hm];simp
   ·cases h
  ·cases h
theorem Gz6 {n:List UInt8}:vld n=true↔nm n=some (lbl n):=by unfold vld lbl;cases nm n<;>simp
theorem vld_cases {n:List UInt8} (h:vld n=true):(n=[46]∧lbl n=[])∨(lbl n≠[]∧Gr true (lbl n)=true∧n=flat (lbl n)∧n.length≤254):=Gg5 (Gz6.1 h)
theorem qn {n:List UInt8} (h:vld n=true):Gr true (lbl n)=true:=by
 rcases vld_cases h with ⟨_,h⟩|⟨_,h,_⟩
 ·rw [h];rfl
 ·exact h
theorem Uv {n:List UInt8} (h:vld n=true):n=jn (lbl n):=by
 unfold jn;rcases vld_cases h with ⟨h1,h2⟩|⟨h1,_,h2,_⟩
 ·rw [h2,if_pos rfl];exact h1
 ·rw [if_neg h1];exact h2
theorem J5 {n:List UInt8} (h:vld n=true):n.length≤254:=by
 rcases vld_cases h with ⟨h1,_⟩|⟨_,_,_,h⟩
 ·simp [h1]
 ·exact h
theorem Q1:lbl [46]=[]:=rfl
theorem fb {l:List (List UInt8)} (h:Gr true l=true) (hl:l≠[]):flat l≠[46]:=by intro e;have:=Jd h hl;rw [e] at this;simp at this
theorem kr {n:List UInt8} (h:vld n=true):lbl n=[]↔n=[46]:=by
 rcases vld_cases h with ⟨h1,h2⟩|⟨h1,h2,h3,_⟩
 ·simp [h1,Q1]
 ·constructor
  ·intro e;exact absurd e h1
  ·intro e;rw [h3] at e;exact absurd e (fb h2 h1)
theorem Hf5 {l:List (List UInt8)} (h:Gr true l=true) (hlen:(flat l).length≤254):vld (jn l)=true∧lbl (jn l)=l:=by
 unfold jn;by_cases hl:l=[]
 ·subst hl;exact ⟨rfl,rfl⟩
 ·rw [if_neg hl];have:=Gg6 h hl hlen;exact ⟨by simp [vld,this],by simp [lbl,this]⟩
theorem Xs {a b:List UInt8} (ha:vld a=true) (hb:vld b=true) (h:lbl a=lbl b):a=b:=by rw [Uv ha,Uv hb,h]
theorem X7 (l:List (List UInt8)) (k:Nat):(flat (l.drop k)).length≤(flat l).length:=by
 have:flat l=flat (l.take k)++flat (l.drop k):=by rw [←X8,Bs]
 rw [this,Ac];omega
theorem Hd {n:List UInt8} (h:vld n=true) (k:Nat):vld (jn ((lbl n).drop k))=true∧lbl (jn ((lbl n).drop k))=(lbl n).drop k:=by
 refine Hf5 (Ap5 (qn h) k) ?_;rcases vld_cases h with ⟨_,h1⟩|⟨_,_,h1,h2⟩
 ·rw [h1];simp [flat]
 ·have:=X7 (lbl n) k;rw [←h1] at this;omega
theorem Ap3 {s:List UInt8} (h:Ib s=true):s.length≤63:=by
 unfold Ib at h;simp at h;rcases h with h|h
 ·simp [h]
 ·omega
theorem Ec8 {n:List UInt8} (h:vld n=false):lbl n=[]:=by
 unfold lbl;unfold vld at h;cases h1:nm n with
 |none=>rfl
 |some l=>rw [h1] at h;cases h
theorem Cj5 (n:List UInt8):∀x∈lbl n,Ib x=true:=fun x hx=>by
 rcases Ak (vld n) with h|h
 ·exact G9 (qn h) hx
 ·rw [Ec8 h] at hx;cases hx
theorem Ny {n:List UInt8} (h:vld n=true):0<n.length:=by
 rcases vld_cases h with ⟨h1,_⟩|⟨h1,h2,h3,_⟩
 ·simp [h1]
 ·have:=Jd h2 h1;rw [h3];omega
end Go.X.G
/- Names: what the program's functions give. -/
namespace Go.X.G
open Go Go.X
def ord (s:List UInt8):Bool:=decide (1≤s.length) && decide (s.length≤63) && s.all N4
theorem Cx1 (s:List UInt8):Ib s=(decide (s=[42])||ord s):=rfl
theorem Ey8:ord [42]=false:=by decide
theorem j5 (s:List UInt8) (N:Nat) (hN:s.length<N) (hs:s.length≤9223372036854775807):
  Cv7.ev S N [.s s]=some (if s.all N4=true then .yld 0 [] else .ret [.b false]):=by
 refine Ew s (fun i=>[.i .i64 (i:Int)]) (fun i r=>if r.all N4=true then .yld 0 [] else .ret [.b false]) rfl hN (fun i c r hd hi hc=> ?_) ?_
 ·have key:o8.ev S N ([.s s]++[.i .i64 (i:Int)])=some (if N4 c=true then .yld 1 [.i .i64 ((i:Int)+1)] else .ret [.b false]):=by
   simp (disch:=omega) only [Zp,hc,xe,EVP,EV,simprocAttr];unfold N4
   grind
  rw [key];rcases Ak (N4 c) with h|h<;>simp [h,Out.goes]
 ·simp (disch:=omega) [Zp,xe,EVP,EV,simprocAttr,Out.goes]
theorem Kj (s:List UInt8) (hs:s.length≤9223372036854775807):S dr 1 [.s s]=some [.b (ord s)]:=by
 refine Hs6 (N:=s.length+1) rfl ?_;unfold ord;by_cases h1:s=[]
 ·subst h1;simp (disch:=omega) [Zp,xe,EVP,EV,simprocAttr]
 ·have h2:1≤s.length:=Bb.2 h1;by_cases h3:s.length≤63
  ·simp (disch:=omega) only [Zp,j5,h1,xe,EVP,EV,simprocAttr];cases s.all N4<;>simp [h2,h3]
  ·simp (disch:=omega) only [Zp,h1,xe,EVP,EV,simprocAttr];simp [h3]
def okP (i:Nat) (p:List UInt8):Bool:=ord p||(decide (i=0) && decide (p=[42]))
def Ez7:Nat→List (List UInt8)→Bool
 |_,[]=>true
 |i,p::r=>okP i p && Ez7 (i+1) r
theorem bl:∀(l:List (List UInt8)) (i:Nat),Ez7 i l=Gr (decide (i=0)) l
 |[],_=>rfl
 |p::r,i=>by
  have h1:=bl r (i+1);simp only [Ez7,Gr,h1,okP,Cx1];by_cases h2:p=[42]
  ·subst h2;by_cases h3:i=0<;>simp [Ey8,h3]
  ·simp [h2]
theorem Dh0 (p q:PV) (l:List (List UInt8)) (hl:l.length≤1000000) (hw:∀x∈l,x.length≤9223372036854775807) (N:Nat) (hN:l.length<N):
  Et8.ev S N [p,q,Bd l]=some (if Ez7 0 l=true then .yld 0 [] else .ret [.b false]):=by
 refine Ew l (fun i=>[.i .i64 (i:Int)]) (fun i r=>if Ez7 i r=true then .yld 0 [] else .ret [.b false]) rfl hN (fun i c r hd hi hc=> ?_) ?_
 ·have hcw:=hw c (A9 hc);have key:Dd7.ev S N ([p,q,Bd l]++[.i .i64 (i:Int)])=some (if okP i c=true then .yld 1 [.i .i64 ((i:Int)+1)] else .ret [.b false]):=by
   rcases Ak (ord c) with h1|h1
   ·simp (disch:=omega) only [Wg,Kj,hc,h1,xe,EVP,EV,simprocAttr];simp [okP,h1]
   ·by_cases h2:i=0
    ·subst h2;by_cases h3:c=[42]
     ·subst h3;simp (disch:=omega) only [Wg,Kj,hc,h1,xe,EVP,EV,simprocAttr];simp [okP]
     ·simp (disch:=omega) only [Wg,Kj,hc,h1,h3,xe,EVP,EV,simprocAttr];simp [okP,h1,h3]
    ·simp (disch:=omega) only [Wg,Kj,hc,h1,xe,EVP,EV,simprocAttr];simp [okP,h1,h2]
  rw [key];rcases Ak (okP i c) with h|h<;>simp [h,Ez7,Out.goes]
 ·simp (disch:=omega) only [Wg,xe,EVP,EV,simprocAttr];simp [Out.goes,Ez7]
theorem Xv:∀(m cur:List UInt8) (x:List UInt8),x∈pcs cur m→x.length≤cur.length+m.length
 |[],cur,x,h=>by simp [pcs] at h;subst h;simp
 |c::r,cur,x,h=>by
  simp only [pcs] at h;split at h
  ·rcases Am.1 h with rfl|h
   ·omega
   ·have:=Xv r [] x h;simp at this ⊢;omega
  ·have:=Xv r _ x h;simp at this ⊢;omega
theorem Eg9 (m x:List UInt8) (h:x∈cut m):x.length≤m.length:=by simpa using Xv m [] x h
theorem Il7 (m:List UInt8):(cut m).length≤m.length+1:=by have:=Cz5 m;have:m.count 46≤m.length:=List.count_le_length;omega
theorem Bx2 (n:List UInt8):([46]:List UInt8).isSuffixOf n=true↔∃m,n=m++[46]:=by rw [K2];exact ⟨fun ⟨m,h⟩=>⟨m,h.symm⟩,fun ⟨m,h⟩=>⟨m,h.symm⟩⟩
theorem Dn6 (m:List UInt8) (hm:m≠[]) (hl:m.length≤253):vld (m++[46])=Ez7 0 (cut m):=by have h1:m++[46]≠[46]:=fun e=>hm (Og (bs:=[46]) (by simpa using e));have h2:0<m.length:=Bb.2 hm;unfold vld nm;rw [if_neg h1,if_pos ⟨by simp;omega,by simp;omega,by simp⟩,Rc,bl];have e:pcs [] m=cut m:=rfl;have e2:Gr (decide ((0:Nat)=0)) (cut m)=Gr true (cut m):=rfl;rw [e,e2];cases Gr true (cut m)<;>rfl
theorem Ec7 (m:List UInt8) (h:vld (m++[46])=true) (hm:m≠[]):lbl (m++[46])=cut m:=by
 rcases vld_cases h with ⟨h1,_⟩|⟨h1,h2,h3,_⟩
 ·exact absurd (Og (bs:=[46]) (by simpa using h1)) hm
 ·exact (xn h1 (fun p hp=>Lx (G9 h2 hp)) h3.symm).symm
theorem Br (n:List UInt8) (hn:n.length≤9223372036854775807):S Kq 1 [.s n]=some [.b (vld n)]:=by
 refine Jx3 (N:=300) rfl ?_;by_cases h0:n=[46]
 ·subst h0;simp (disch:=omega) only [Wg,xe,EVP,EV,simprocAttr];rfl
 ·by_cases h1:255≤n.length
  ·have hv:vld n=false:=by rw [qv];intro h;have:=J5 h;omega
   simp (disch:=omega) only [Wg,h0,hv,xe,EVP,EV,simprocAttr]
  ·rcases Ak (([46]:List UInt8).isSuffixOf n) with h2|h2
   ·obtain ⟨m,rfl⟩:=(Bx2 n).1 h2;have hm:m≠[]:=fun e=>h0 (by simp [e]);have hl:(m++[46]).length=m.length+1:=by simp
    have hml:m.length≤1000000:=by omega
    have e:List.drop 0 (List.take (((m++[46]).length:Int) - 1).toNat (m++[46]))=m:=by
     have:(((m++[46]).length:Int) - 1).toNat=m.length:=by omega
     rw [this];simp
    have hc:=Il7 m;have hv:=Dn6 m hm (by omega);have hk:=Dh0 (.s (m++[46])) (.b true) (cut m) (by omega) (fun x hx=>by have:=Eg9 m x hx;omega) 300 (by omega);simp (disch:=omega) only [Wg,Lm,gy,e,hk,h0,h2,xe,EVP,EV,simprocAttr];rw [hv];cases Ez7 0 (cut m)<;>simp
   ·have hv:vld n=false:=by
     rw [qv];intro h;rcases vld_cases h with ⟨h3,_⟩|⟨h3,_,h5,_⟩
     ·exact h0 h3
     ·obtain ⟨m,hm⟩:=I3 _ h3;have:=(Bx2 n).2 ⟨m,h5.trans hm⟩;rw [h2] at this;cases this
    simp (disch:=omega) only [Wg,Lm,h0,h2,hv,xe,EVP,EV,simprocAttr]
theorem Pd (n:List UInt8) (hn:n.length≤9223372036854775807):S kw 1 [.s n]=some [Bd (lbl n)]:=by
 refine Jw0 (N:=1) rfl ?_;by_cases h0:n=[46]
 ·subst h0;simp (disch:=omega) only [Gz0,Q1,xe,EVP,EV,simprocAttr]
 ·rcases Ak (vld n) with h1|h1
  ·obtain ⟨m,hm,rfl⟩:∃m,m≠[]∧n=m++[46]:=by
    rcases vld_cases h1 with ⟨h3,_⟩|⟨h3,_,h5,_⟩
    ·exact absurd h3 h0
    ·obtain ⟨m,hm⟩:=I3 _ h3;exact ⟨m,fun e=>h0 (by rw [h5,hm,e];rfl),h5.trans hm⟩
   have hl:(m++[46]).length=m.length+1:=by simp
   have e:List.drop 0 (List.take (((m++[46]).length:Int) - 1).toNat (m++[46]))=m:=by
    have:(((m++[46]).length:Int) - 1).toNat=m.length:=by omega
    rw [this];simp
   have hl2:=J5 h1;have e2:=Ec7 m h1 hm;simp (disch:=omega) only [Gz0,Br,gy,e,e2,h0,h1,xe,EVP,EV,simprocAttr]
  ·have e:lbl n=[]:=by
    unfold lbl;unfold vld at h1;cases h:nm n with
    |none=>rfl
    |some l=>rw [h] at h1;cases h1
   simp (disch:=omega) only [Gz0,Br,h0,h1,e,xe,EVP,EV,simprocAttr]
theorem Oq (p:List UInt8) (l:List (List UInt8)):flat (p::l)=p++46::flat l:=by simp [flat]
def O8 (n:List UInt8):List UInt8:=if vld n=true∧n≠[46] then jn ((lbl n).drop 1) else []
def xq (n:List UInt8):Bool:=vld n && !decide (n=[46])
theorem Wk (n:List UInt8) (hn:n.length≤9223372036854775807):S Vf 1 [.s n]=some [.s (O8 n), .b (xq n)]:=by
 refine Ht1 (N:=1) rfl ?_;unfold O8 xq;by_cases h0:n=[46]
 ·subst h0;simp (disch:=omega) only [qh,xe,EVP,EV,simprocAttr];simp
 ·rcases Ak (vld n) with h1|h1
  ·rcases vld_cases h1 with ⟨h3,_⟩|⟨h3,h4,h5,h6⟩
   ·exact absurd h3 h0
   ·cases hl:lbl n with
    |nil=>exact absurd hl h3
    |cons p r=>
     rw [hl] at h4 h5;have hp:=Lx (G9 h4 (Gq ..));have hi:=gp n 46;have hc:(((46:UInt8).toNat:Nat):Int)=46:=rfl;have hx:Lib.indexByte n 46=(p.length:Int):=by rw [h5,Oq];exact Jn 46 _ p hp
     rw [hc,hx] at hi;have hlen:n.length=p.length+1+(flat r).length:=by rw [h5,Oq];simp;omega
     have e:List.drop ((p.length:Int)+1).toNat (List.take n.length n)=flat r:=by
      have:((p.length:Int)+1).toNat=p.length+1:=by omega
      rw [this,Dq,h5,Oq];simp
     by_cases h7:r=[]
     ·subst h7;have e2:flat []=[]:=rfl;simp (disch:=omega) only [qh,Br,hi,e,e2,h0,h1,xe,EVP,EV,simprocAttr];simp [jn]
     ·have e2:¬flat r=[]:=by obtain ⟨m,hm⟩:=I3 r h7;rw [hm];simp
      simp (disch:=omega) only [qh,Br,hi,e,e2,h0,h1,xe,EVP,EV,simprocAttr];simp [jn,h7]
  ·simp (disch:=omega) only [qh,Br,h0,h1,xe,EVP,EV,simprocAttr];simp
def mj (n top:List UInt8):Bool:=(decide (top=[46])||decide (n=top))||(46::top).isSuffixOf n
theorem l9 (n top:List UInt8) (hn:n.length≤9223372036854775807) (ht:top.length≤1000000):S Am1 2 [.s n, .s top]=some [.b (mj n top)]:=by
 refine Jw2 (N:=1) rfl ?_;unfold mj;have h0:([46]:List UInt8).length=1:=rfl;by_cases h1:top=[46]<;>by_cases h2:n=top<;>simp (disch:=omega) only [Is0,Lm,h1,h2,xe,EVP,EV,simprocAttr]
 all_goals simp
theorem l6 {a b:List (List UInt8)} (ha:Gr true a=true) (hb:Gr true b=true) (h:(46::flat b)<:+flat a):b<:+a:=by obtain ⟨p,hp⟩:=h;have h1:=Q6 a (fun x hx=>Lx (G9 ha hx));have h2:=Q6 b (fun x hx=>Lx (G9 hb hx));rw [←hp] at h1;have h3:cut (p++46::flat b)=cut p++cut (flat b):=R5 (flat b) p [];rw [h3,h2,←As] at h1;exact ⟨cut p,Og h1⟩
theorem xg {n top:List UInt8} (hn:vld n=true) (ht:vld top=true):mj n top=true↔lbl top<:+lbl n:=by
 unfold mj;simp only [Ap,decide_eq_true_eq,K2];constructor
 ·rintro ((rfl|rfl)|h)
  ·rw [Q1];exact List.nil_suffix
  ·exact List.suffix_refl _
  ·rcases vld_cases ht with ⟨h1,h2⟩|⟨h1,h2,h3,_⟩
   ·rw [h2];exact List.nil_suffix
   ·rcases vld_cases hn with ⟨h5,_⟩|⟨h5,h6,h7,_⟩
    ·rw [h5] at h;have h9:=h.length_le;have h8:=Jd h2 h1;rw [←h3] at h8;simp only [A3,Bf] at h9;omega
    ·rw [h3,h7] at h;exact l6 h6 h2 h
 ·intro h;obtain ⟨p,hp⟩:=h;rcases vld_cases ht with ⟨h1,h2⟩|⟨h1,h2,h3,_⟩
  ·exact .inl (.inl h1)
  ·by_cases hp0:p=[]
   ·left;right;subst hp0;exact Xs hn ht hp.symm
   ·right;rcases vld_cases hn with ⟨_,h5⟩|⟨h5,h6,h7,_⟩
    ·rw [h5] at hp;exact absurd (List.append_eq_nil_iff.1 hp).1 hp0
    ·obtain ⟨m,hm⟩:=I3 p hp0;rw [h7,←hp,X8,hm];exact ⟨m,by rw [As,←h3];simp⟩
theorem Tq {α:Type} [DecidableEq α]:∀(a b:List α),Pz a b=b.length↔b<+:a
 |[],[]=>by simp [Pz]
 |[],y::ys=>by simp [Pz]
 |x::xs,[]=>by simp [Pz]
 |x::xs,y::ys=>by
  have:=Tq xs ys;simp only [Pz];split
  ·rename_i h;subst h;simp [this,Hh]
  ·rename_i h;simp [Hh,Ne.symm h]
theorem af (a b:List (List UInt8)):F0 a b=b.length↔b<:+a:=by unfold F0;have:=Tq a.reverse b.reverse;rw [List.length_reverse] at this;rw [this,Gy3]
theorem Dp {n top:List UInt8}:under n top=true↔vld n=true∧vld top=true∧lbl top<:+lbl n:=by unfold under;simp [af,and_assoc]
theorem Ac1 {n top:List UInt8} (hn:vld n=true) (ht:vld top=true):mj n top=under n top:=by rw [C2,xg hn ht,Dp];simp [hn,ht]
theorem E8 (n top:List UInt8) (hn:n.length≤9223372036854775807) (ht:top.length≤9223372036854775807):S Pq 2 [.s n, .s top]=some [.b (under n top)]:=by
 refine Jz8 (N:=1) rfl ?_;rcases Ak (vld n) with h1|h1
 ·rcases Ak (vld top) with h2|h2
  ·have h3:=J5 h2;simp (disch:=omega) only [Gz3,Br,l9,h1,h2,xe,EVP,EV,simprocAttr];rw [Ac1 h1 h2]
  ·have h3:under n top=false:=by simp [under,h2]
   simp (disch:=omega) only [Gz3,Br,h1,h2,h3,xe,EVP,EV,simprocAttr]
 ·have h3:under n top=false:=by simp [under,h1]
  simp (disch:=omega) only [Gz3,Br,h1,h3,xe,EVP,EV,simprocAttr]
end Go.X.G
/- Names: order, common ancestors, wildcards. -/
namespace Go.X.G
open Go Go.X
theorem P9:∀(a:List UInt8),Op.bytesLess a a=false
 |[]=>rfl
 |a::x=>by simp [Op.bytesLess,P9 x]
theorem Ld:∀(a b:List UInt8),Lib.compareBytes a b=cmpS a b
 |[],[]=>rfl
 |[],_::_=>rfl
 |_::_,[]=>rfl
 |a::x,b::y=>by
  have ih:=Ld x y;unfold cmpS at ih ⊢;simp only [Lib.compareBytes,Op.bytesLess,ih];by_cases h1:a<b
  ·simp [h1]
  ·by_cases h2:b<a
   ·have h3:a≠b:=fun e=>by subst e;exact h1 h2
    simp [h1,h2,h3]
   ·have h3:a=b:=UInt8.le_antisymm (UInt8.not_lt.1 h2) (UInt8.not_lt.1 h1);subst h3;simp [h1]
theorem H4 {a b:List UInt8}:cmpS a b=0↔a=b:=by
 unfold cmpS;by_cases h:a=b
 ·subst h;simp [P9]
 ·cases h2:Op.bytesLess a b<;>simp [h]
theorem Kc (x y:List UInt8):S b9 2 [.s x, .s y]=some [.i .i64 (cmpS x y)]:=by rw [pw,Ld]
def Q8:List (List UInt8)→List (List UInt8)→Option Int
 |x::xs,y::ys=>if x=y then Q8 xs ys else some (cmpS x y)
 |_,_=>none
theorem Cb0:∀(a b:List (List UInt8)),Q8 a b=if Pz a b<a.length∧Pz a b<b.length then some (cmpS (a.getD (Pz a b) []) (b.getD (Pz a b) [])) else none
 |[],b=>by simp [Q8,Pz]
 |x::xs,[]=>by simp [Q8,Pz]
 |x::xs,y::ys=>by
  have ih:=Cb0 xs ys;simp only [Q8,Pz];by_cases h:x=y
  ·simp only [if_pos h,ih];simp
  ·simp [h]
def ml (a b:List (List UInt8)):Int:=match Q8 a.reverse b.reverse with
 |some c=>c
 |none=>if a.length<b.length then -1 else if b.length<a.length then 1 else 0
theorem xw (a:List (List UInt8)) (k:Nat) (h:k<a.length):a.reverse.getD k []=a.getD (a.length - 1 - k) []:=by simp [Bl,List.getElem?_reverse h]
theorem Tv {a b:List UInt8} (ha:vld a=true) (hb:vld b=true):Hf a b=ml (lbl a) (lbl b):=by
 unfold Hf ml;rw [Cb0];have e:Pz (lbl a).reverse (lbl b).reverse=F0 (lbl a) (lbl b):=rfl;rw [e,ha,hb];simp only [List.length_reverse,Bool.and_self,if_true];by_cases h:F0 (lbl a) (lbl b)<(lbl a).length∧F0 (lbl a) (lbl b)<(lbl b).length
 ·rw [if_pos h,if_pos h,xw _ _ h.1,xw _ _ h.2]
 ·rw [if_neg h,if_neg h]
theorem pc (a b:List (List UInt8)) (p1 p2 p3 p4:PV) (ha:a.length≤1000) (hb:b.length≤1000) (N:Nat) (hN:1001<N):
  Cq0.ev S N [p1,p2,p3,p4,Bd a,Bd b]=some (match Q8 a.reverse b.reverse with|some c=> .ret [.i .i64 c]|none=> .yld 0 []):=by
 have key:=Js (fn:=S) (N:=N) (η:=[p1,p2,p3,p4,Bd a,Bd b]) (id:=1) (init:=[(.c (.i .i64 (1)))]) (body:=Dd9) (α:=Nat) (fun k=>[.i .i64 ((k:Int)+1)])
  (fun k=>match Q8 (a.reverse.drop k) (b.reverse.drop k) with|some c=> .ret [.i .i64 c]|none=> .yld 0 []) (fun k=>k≤a.length∧k≤b.length) (fun k=>a.length - k) 0 rfl ⟨Cc _,Cc _⟩ (by omega) ?_
 ·simpa [Cq0] using key
 ·rintro k ⟨h1,h2⟩;by_cases h3:k<a.length
  ·by_cases h4:k<b.length
   ·have e1:((a.length:Int) - ((k:Int)+1)).toNat=a.length - 1 - k:=by omega
    have e2:((b.length:Int) - ((k:Int)+1)).toNat=b.length - 1 - k:=by omega
    have g1:a[a.length - 1 - k]? =some (a[a.length - 1 - k]'(by omega)):=Az (by omega);have g2:b[b.length - 1 - k]? =some (b[b.length - 1 - k]'(by omega)):=Az (by omega);have d1:a.reverse.drop k=(a[a.length - 1 - k]'(by omega))::a.reverse.drop (k+1):=by rw [Ct (by simpa using h3)];simp
    have d2:b.reverse.drop k=(b[b.length - 1 - k]'(by omega))::b.reverse.drop (k+1):=by rw [Ct (by simpa using h4)];simp
    rw [d1,d2];generalize (a[a.length - 1 - k]'(by omega))=x at g1;generalize (b[b.length - 1 - k]'(by omega))=y at g2;simp only [Q8];by_cases h:x=y
    ·left;have h5:cmpS x y=0:=H4.2 h;refine ⟨k+1,?_,⟨by omega,by omega⟩,by omega,by rw [if_pos h]⟩;simp (disch:=omega) only [i5,Kc,e1,e2,g1,g2,h5,xe,EVP,EV,simprocAttr]
    ·right;have h5:¬cmpS x y=0:=fun e=>h (H4.1 e);rw [if_neg h];simp (disch:=omega) only [i5,Kc,e1,e2,g1,g2,h5,xe,EVP,EV,simprocAttr];simp [Out.goes]
   ·right;have d2:b.reverse.drop k=[]:=G3 (by simp;omega);have z:Q8 (a.reverse.drop k) []=none:=by cases a.reverse.drop k<;>rfl
    rw [d2,z];simp (disch:=omega) [i5,xe,EVP,EV,simprocAttr,Out.goes]
  ·right;have d1:a.reverse.drop k=[]:=G3 (by simp;omega);have z:Q8 [] (b.reverse.drop k)=none:=rfl;rw [d1,z];simp (disch:=omega) [i5,xe,EVP,EV,simprocAttr,Out.goes]
theorem Hb (a b:List UInt8) (hn:a.length≤9223372036854775807) (ht:b.length≤9223372036854775807):S Mt 2 [.s a, .s b]=some [.i .i64 (Hf a b)]:=by
 refine Jz7 (N:=1002) rfl ?_;have h1:=G8 a;have h2:=G8 b;rcases Ak (vld a) with h3|h3<;>rcases Ak (vld b) with h4|h4
 ·rw [Tv h3 h4];unfold ml;have hk:=pc (lbl a) (lbl b) (.s a) (.s b) (.b true) (.b true) (by omega) (by omega) 1002 (by omega);cases h5:Q8 (lbl a).reverse (lbl b).reverse with
  |some c=>
   rw [h5] at hk;simp (disch:=omega) only [i5,Br,Pd,hk,h3,h4,xe,EVP,EV,simprocAttr]
  |none=>
   rw [h5] at hk;simp (disch:=omega) only [i5,Br,Pd,hk,h3,h4,xe,EVP,EV,simprocAttr]
   grind
 all_goals unfold Hf
 all_goals simp (disch:=omega) only [i5,Br,Kc,h3,h4,xe,EVP,EV,simprocAttr]
 all_goals simp
def Dw (a b:List UInt8):List UInt8:=if vld a=true∧vld b=true then jn ((lbl a).drop ((lbl a).length - F0 (lbl a) (lbl b))) else []
theorem Z3 {α:Type} [DecidableEq α]:∀(a b:List α) (j:Nat),j≤a.length→(a.take j<+:b↔j≤Pz a b)
 |_,_,0,_=>by simp
 |[],_,j+1,h=>by simp at h
 |x::xs,[],j+1,h=>by simp [Pz]
 |x::xs,y::ys,j+1,h=>by
  have:=Z3 xs ys j (by simpa using h);simp only [List.take_succ_cons,Pz,Hh];by_cases hxy:x=y
  ·simp [hxy,this]
  ·simp [hxy]
theorem Cz3 (a b:List (List UInt8)) (k:Nat) (h:k≤a.length):a.drop k<:+b↔a.length - k≤F0 a b:=by unfold F0;rw [←Z3 _ _ _ (by simp),←Gy3,List.reverse_drop]
theorem Gg9 (l:List (List UInt8)) (hl:l.length≤1000) (hw:∀x∈l,x.length≤1000) (N:Nat) (hN:l.length<N):
  lz.ev S N [Bd l]=some (.yld 0 [.s (flat l)]):=by
 have key:lz.ev S N [Bd l]=some (.yld 0 [.s ([]++flat l)]):=by
  refine Fy l (fun i (g:List UInt8)=>[.s g, .i .i64 (i:Int)]) (fun i g r=> .yld 0 [.s (g++flat r)]) (fun i g=>g.length≤1001*i) [] rfl (Af _) hN (fun i g c r hd hi hc hI=> ?_) (fun g hI=> ?_)
  ·left;have h1:=hw c (A9 hc);have h0:([46]:List UInt8).length=1:=rfl;refine ⟨g++c++[46],?_,by simp;omega,by simp [flat]⟩;simp (disch:=first|omega|(simp only [Ac];omega)) only [qg,hc,xe,EVP,EV,simprocAttr]
  ·simp (disch:=omega) only [qg,xe,EVP,EV,simprocAttr];simp [flat,Out.goes]
 simpa using key
theorem Gg8 (l:List (List UInt8)) (hl:l.length≤1000) (hw:∀x∈l,x.length≤1000):S dc 1 [Bd l]=some [.s (jn l)]:=by
 refine Hr1 (N:=l.length+1) rfl ?_;unfold jn;by_cases h:l=[]
 ·subst h;simp (disch:=first|omega|(simp;omega)) only [qg,xe,EVP,EV,simprocAttr]
 ·have h1:0<l.length:=Bb.2 h;have hk:=Gg9 l hl hw (l.length+1) (by omega);simp (disch:=omega) only [qg,hk,h,xe,EVP,EV,simprocAttr]
theorem Cj3 (n:List UInt8):∀x∈lbl n,x.length≤1000:=fun x hx=>by have:=Ap3 (Cj5 n x hx);omega
theorem At7 (a b:List UInt8) (ha:a.length≤9223372036854775807) (hb:b.length≤9223372036854775807):S Al9 2 [.s a, .s b]=some [.s (Dw a b)]:=by
 refine Jv1 (N:=1) rfl ?_;unfold Dw;have h1:=G8 a;have h2:=G8 b;have h5:=W3 (lbl a) (lbl b);rcases Ak (vld a) with h3|h3<;>rcases Ak (vld b) with h4|h4
 ·have e:(((lbl a).length:Int) - (F0 (lbl a) (lbl b):Int)).toNat=(lbl a).length - F0 (lbl a) (lbl b):=by omega
  have e2:List.drop ((lbl a).length - F0 (lbl a) (lbl b)) (List.take (lbl a).length (lbl a))=(lbl a).drop ((lbl a).length - F0 (lbl a) (lbl b)):=by rw [Dq]
  have hk:=Gg8 ((lbl a).drop ((lbl a).length - F0 (lbl a) (lbl b))) (by simp;omega) (fun x hx=>Cj3 a x (Gc hx));simp (disch:=omega) only [Hz8,split_ok,W2,hk,e,e2,h3,h4,xe,EVP,EV,simprocAttr];simp
 all_goals simp (disch:=omega) only [Hz8,split_ok,h3,h4,xe,EVP,EV,simprocAttr]
 all_goals simp
theorem Cw4 {n:List UInt8} (h:vld n=true) (k:Nat):(jn ((lbl n).drop k)).length≤254:=J5 (Hd h k).1
theorem Dh9 (a b:List UInt8) (p1 p2 p3 p4:PV) (ha:vld a=true) (hb:vld b=true) (N:Nat) (hN:300<N) (hp1:p1= .s a) (hp2:p2= .s b):
  lc.ev S N [p1,p2,p3,p4]=some (.yld 0 [.s (Dw a b)]):=by
 subst hp1;subst hp2;have hl:=G8 a;have hs:=W3 (lbl a) (lbl b);have hla:=J5 ha;have hlb:=J5 hb;have ec:Dw a b=jn ((lbl a).drop ((lbl a).length - F0 (lbl a) (lbl b))):=by unfold Dw;rw [if_pos ⟨ha,hb⟩]
 have key:=Js (fn:=S) (N:=N) (η:=[.s a, .s b,p3,p4]) (id:=1) (init:=[(.v 0)]) (body:=o5) (α:=Nat) (fun k=>[.s (jn ((lbl a).drop k))])
  (fun k=> .yld 0 [.s (Dw a b)]) (fun k=>k+F0 (lbl a) (lbl b)≤(lbl a).length) (fun k=>(lbl a).length - k) 0 (by
   have:jn ((lbl a).drop 0)=a:=by rw [D3];exact (Uv ha).symm
   rw [this];rfl) (by omega) (by omega) ?_
 ·simpa [lc] using key
 ·intro k hk;obtain ⟨hv,hlk⟩:=Hd ha k;have hlen:=Cw4 ha k;have he:mj b (jn ((lbl a).drop k))=true↔(lbl a).length - k≤F0 (lbl a) (lbl b):=by rw [xg hb hv,hlk,Cz3 _ _ _ (by omega)]
  by_cases h:(lbl a).length - k≤F0 (lbl a) (lbl b)
  ·right;have h1:=he.2 h;have h2:(lbl a).length - F0 (lbl a) (lbl b)=k:=by omega
   simp (disch:=omega) only [Zm,l9,h1,xe,EVP,EV,simprocAttr];rw [ec,h2];simp [Out.goes]
  ·left;have h1:mj b (jn ((lbl a).drop k))=false:=by rw [qv];intro h2;exact h (he.1 h2)
   have h2:O8 (jn ((lbl a).drop k))=jn ((lbl a).drop (k+1)):=by
    unfold O8;have h3:jn ((lbl a).drop k)≠[46]:=by intro e;have:=(kr hv).2 e;rw [hlk] at this;have:=congrArg List.length this;simp at this;omega
    rw [if_pos ⟨hv,h3⟩,hlk,C0]
   refine ⟨k+1,?_,by omega,by omega,rfl⟩;simp (disch:=omega) only [Zm,l9,Wk,h1,h2,xe,EVP,EV,simprocAttr]
theorem At6 (a b:List UInt8) (ha:a.length≤9223372036854775807) (hb:b.length≤9223372036854775807):S Vk 2 [.s a, .s b]=some [.s (Dw a b)]:=by
 refine Hr3 (N:=301) rfl ?_;rcases Ak (vld a) with h3|h3
 ·rcases Ak (vld b) with h4|h4
  ·have hk:=Dh9 a b (.s a) (.s b) (.b true) (.b true) h3 h4 301 (by omega) rfl rfl;simp (disch:=omega) only [Zm,Br,hk,h3,h4,xe,EVP,EV,simprocAttr]
  ·simp (disch:=omega) only [Zm,Br,h3,h4,xe,EVP,EV,simprocAttr];simp [Dw,h4]
 ·simp (disch:=omega) only [Zm,Br,h3,xe,EVP,EV,simprocAttr];simp [Dw,h3]
def Ec2 (n:List UInt8):Int:=if n=[46] then 1 else if vld n=true then (n.length:Int)+1 else 0
theorem Dh4 (n:List UInt8) (hn:n.length≤9223372036854775807):S Vj 1 [.s n]=some [.i .i64 (Ec2 n)]:=by
 refine Hr2 (N:=1) rfl ?_;unfold Ec2;by_cases h:n=[46]
 ·simp (disch:=omega) only [Bv6,h,xe,EVP,EV,simprocAttr]
 ·rcases Ak (vld n) with h3|h3
  ·have:=J5 h3;simp (disch:=omega) only [Bv6,Br,h,h3,xe,EVP,EV,simprocAttr]
  ·simp (disch:=omega) only [Bv6,Br,h,h3,xe,EVP,EV,simprocAttr]
def K6 (n:List UInt8):List UInt8:=if n=[46] then [42,46] else [42,46]++n
def Kh (n:List UInt8):Bool:=vld n && !decide ((lbl n)[0]? =some [42]) && vld (K6 n)
def Tt (n:List UInt8):List UInt8:=if Kh n=true then K6 n else []
theorem Y4 (n:List UInt8) (hn:n.length≤1000000):S Br4 1 [.s n]=some [.s (Tt n), .b (Kh n)]:=by
 refine Jy5 (N:=1) rfl ?_;have h0:([42,46]:List UInt8).length=2:=rfl;have hl:(K6 n).length≤9223372036854775807:=by
  unfold K6;split
  ·simp
  ·rw [Ac,h0];omega
 have h1:=G8 n;unfold Tt Kh;rcases Ak (vld n) with h3|h3
 ·have tail:∀(q:List (List UInt8)),(¬q[0]? =some [42])→T.ev S 1 Cc5 [.s n,Bd q, .b true]=some (.ret (if vld (K6 n)=true then [.s (K6 n), .b true] else [.s [], .b false])):=by
   intro q _;unfold K6 at hl ⊢;by_cases h4:n=[46]
   ·simp only [if_pos h4] at hl ⊢;rcases Ak (vld [42,46]) with h5|h5<;>simp (disch:=omega) only [i4,Tg,h4,h5,xe,EVP,EV,simprocAttr]
   ·simp only [if_neg h4] at hl ⊢;rcases Ak (vld ([42,46]++n)) with h5|h5<;>simp (disch:=omega) only [i4,Tg,h4,xe,EVP,EV,simprocAttr]<;>simp only [B4,Cb] at h5 hl<;>simp (disch:=omega) only [i4,Tg,h5,xe,EVP,EV,simprocAttr]<;>simp
  cases hq:lbl n with
  |nil=>
   have ht:=tail [] (by simp);simp (disch:=first|omega|(simp;omega)) only [↓ht,i4,split_ok,hq,h3,xe,EVP,EV,simprocAttr];rcases Ak (vld (K6 n)) with h5|h5<;>simp [h5]
  |cons p r=>
   have h6:0<((p::r).length:Int):=by simp only [A3];omega
   by_cases h7:p=[42]
   ·subst h7;simp (disch:=first|omega|(simp only [A3];omega)) only [i4,split_ok,hq,h3,xe,EVP,EV,simprocAttr];simp
   ·have ht:=tail (p::r) (by simpa using h7);simp (disch:=first|omega|(simp only [A3];omega)) only [↓ht,i4,split_ok,hq,h3,h7,xe,EVP,EV,simprocAttr];rcases Ak (vld (K6 n)) with h5|h5<;>simp [h5,h7]
 ·simp (disch:=omega) only [i4,split_ok,h3,xe,EVP,EV,simprocAttr];simp
theorem Ub {n:List UInt8} (h:vld n=true):(n[0]? =some 42↔(lbl n)[0]? =some [42]):=by
 rcases vld_cases h with ⟨h1,h2⟩|⟨h1,h2,h3,_⟩
 ·subst h1;simp [Q1]
 ·cases hl:lbl n with
  |nil=>exact absurd hl h1
  |cons p r=>
   rw [hl] at h2 h3;have hp:=G9 h2 (Gq ..);have hne:=xk hp;cases p with
   |nil=>exact absurd rfl hne
   |cons c q=>
    rw [h3,Oq];simp only [B4,Cj,Aq];constructor
    ·rintro rfl;unfold Ib at hp;simp at hp;rcases hp with h|h
     ·rw [h]
     ·exfalso;have:N4 42=false:=by decide
      rw [this] at h;simp at h
    ·intro h;injection h
theorem Ab1 (n:List UInt8) (hn:n.length≤1000000):S Bn9 1 [.s n]=some [.s (Tt n), .b (Kh n)]:=by
 refine Jw3 (N:=1) rfl ?_;have h0:([42,46]:List UInt8).length=2:=rfl;have hl:(K6 n).length≤9223372036854775807:=by
  unfold K6;split
  ·simp
  ·rw [Ac,h0];omega
 unfold Tt Kh;have tail:T.ev S 1 Cd2 [.s n, .s (K6 n)]=some (.ret [.s (Tt n), .b (Kh n)]):=by
  unfold Tt Kh;rcases Ak (vld n) with h3|h3
  ·have h4:=Ub h3;have h5:=Az (Ny h3);have h6:=Gz8 (n[0]'(Ny h3)) 42 (by omega);by_cases h7:(lbl n)[0]? =some [42]
   ·have h8:=h4.2 h7;rw [h5] at h8;injection h8 with h8;have h9:((n[0]'(Ny h3)).toNat:Int)=42:=h6.2 h8;simp (disch:=omega) only [Dn4,Br,h3,h5,xe,EVP,EV,simprocAttr];simp [h7]
   ·have h8:¬n[0]? =some 42:=fun e=>h7 (h4.1 e);rw [h5] at h8;have h9:¬((n[0]'(Ny h3)).toNat:Int)=42:=fun e=>h8 (by rw [h6.1 e];rfl);rcases Ak (vld (K6 n)) with ha|ha<;>simp (disch:=omega) only [Dn4,Br,h3,h5,ha,xe,EVP,EV,simprocAttr]<;>simp [h7]
  ·simp (disch:=omega) only [Dn4,Br,h3,xe,EVP,EV,simprocAttr];simp
 unfold Tt Kh at tail;obtain ⟨y0,y1,y2,y3,y4,y5,y6,y7,yt⟩:=Dn4;by_cases h4:n=[46]
 ·have e:K6 n=[42,46]:=by simp [K6,h4]
  rw [e] at tail ⊢;subst h4;simp (disch:=omega) only [y0,y1,y2,yt,xe,EVP,EV,simprocAttr];rw [tail];simp
 ·have e:K6 n=42::46::n:=by simp [K6,h4]
  rw [e] at tail ⊢;simp (disch:=omega) only [y0,y1,y2,yt,h4,xe,EVP,EV,simprocAttr];rw [tail];simp
end Go.X.G
/- Data of records: what the reference's functions give. -/
namespace Go.X.G
open Go Go.X
theorem t15 (t:Int):t=1∨t=2∨t=5∨t=6∨t=12∨t=15∨t=16∨t=28∨t=33∨t=39∨t=43∨t=46∨t=47∨t=48∨(t≠1∧t≠2∧t≠5∧t≠6∧t≠12∧t≠15∧t≠16∧t≠28∧t≠33∧t≠39∧t≠43∧t≠46∧t≠47∧t≠48):=by omega
def knw (t:Int):Bool:=decide (t=1)||decide (t=2)||decide (t=5)||decide (t=6)||decide (t=12)||decide (t=15)||decide (t=16)||decide (t=28)||decide (t=33)||decide (t=39)||decide (t=43)||decide (t=46)||decide (t=47)||decide (t=48)
def D7 (d:Dat):Bool:=d.v6||(decide (d.hi=0) && decide (d.lo<4294967296))
def inB (n most:Int):Bool:=decide (0≤n) && decide (n≤most)
def I8 (s:List UInt8):Bool:=decide (1≤s.length) && decide (s.length≤255)
def H0 (n:List UInt8):Bool:=vld n && decide (n[0]? ≠some 42)
def bit (set:Int) (t:Nat):Int:=set / 2 ^ t % 2
theorem Js2 (x:Int):IntKind.u64.wrap ((BitVec.ofInt IntKind.u64.bits x &&& BitVec.ofInt IntKind.u64.bits 1).toNat:Int)=x % 2:=by
 have h2:(BitVec.ofInt 64 x &&& BitVec.ofInt 64 1).toNat=(BitVec.ofInt 64 x).toNat % 2:=by rw [BitVec.toNat_and];show (BitVec.ofInt 64 x).toNat &&& 1=_;exact Nat.and_one_is_mod _
 show IntKind.u64.wrap (((BitVec.ofInt 64 x &&& BitVec.ofInt 64 1).toNat:Nat):Int)=_;rw [h2,BitVec.toNat_ofInt];rw [Hd0]<;>omega
end Go.X.G
/- NSEC records: what they show. -/
namespace Go.X.G
open Go Go.X
theorem kq (n t:Nat):n &&& 2 ^ t=(n.testBit t).toNat*2 ^ t:=by
 apply Nat.eq_of_testBit_eq;intro i;rw [Nat.testBit_and,Nat.testBit_two_pow];by_cases h:t=i
 ·subst h;cases h2:n.testBit t<;>simp
 ·cases h2:n.testBit t<;>simp [h,Nat.testBit_two_pow]
theorem Hx7 (x:Int) (t:Nat) (ht:t<64):IntKind.u64.wrap ((BitVec.ofInt IntKind.u64.bits x &&& BitVec.ofInt IntKind.u64.bits (2 ^ t)).toNat:Int)=if bit x t=1 then 2 ^ t else 0:=by
 have hp:(2 ^ t:Nat)<2 ^ 64:=Nat.pow_lt_pow_right (by decide) ht;have h1:(BitVec.ofInt 64 ((2:Int) ^ t)).toNat=2 ^ t:=by
  rw [BitVec.toNat_ofInt];have e:((2:Int) ^ t)=((2 ^ t:Nat):Int):=by simp
  rw [e,←Int.natCast_emod,G4];exact Dk hp
 have h2:(BitVec.ofInt 64 x &&& BitVec.ofInt 64 ((2:Int) ^ t)).toNat=((BitVec.ofInt 64 x).toNat.testBit t).toNat*2 ^ t:=by rw [BitVec.toNat_and,h1,kq]
 show IntKind.u64.wrap (((BitVec.ofInt 64 x &&& BitVec.ofInt 64 ((2:Int) ^ t)).toNat:Nat):Int)=_;have h3:(BitVec.ofInt 64 x).toNat.testBit t=decide (bit x t=1):=by
  rw [BitVec.toNat_ofInt,Nat.testBit_eq_decide_div_mod_eq,decide_eq_decide];unfold bit;have hpos:(0:Int)<2 ^ t:=Int.pow_pos (by decide);have hb:0≤x % ((2 ^ 64:Nat):Int):=Int.emod_nonneg _ (by decide);have e1:(((x % ((2 ^ 64:Nat):Int)).toNat / 2 ^ t % 2:Nat):Int)=x % ((2 ^ 64:Nat):Int) / 2 ^ t % 2:=by rw [Int.natCast_emod,Int.natCast_ediv,Int.toNat_of_nonneg hb];simp
  have e2:x % ((2 ^ 64:Nat):Int) / 2 ^ t % 2=x / 2 ^ t % 2:=by
   have hs:((2 ^ 64:Nat):Int)=2 ^ t*(2*2 ^ (63 - t)):=by
    have:(2:Int) ^ 64=2 ^ t*(2*2 ^ (63 - t)):=by rw [←Int.mul_assoc,←Int.pow_succ,←Int.pow_add];congr 1;omega
    simpa using this
   have hx:x=((2 ^ 64:Nat):Int)*(x / ((2 ^ 64:Nat):Int))+x % ((2 ^ 64:Nat):Int):=(Int.mul_ediv_add_emod x _).symm;have hd:x / 2 ^ t=(2*2 ^ (63 - t))*(x / ((2 ^ 64:Nat):Int))+x % ((2 ^ 64:Nat):Int) / 2 ^ t:=by
    have:x=2 ^ t*((2*2 ^ (63 - t))*(x / ((2 ^ 64:Nat):Int)))+x % ((2 ^ 64:Nat):Int):=by rw [←Int.mul_assoc,←hs];exact hx
    calc x / 2 ^ t=(2 ^ t*((2*2 ^ (63 - t))*(x / ((2 ^ 64:Nat):Int)))+x % ((2 ^ 64:Nat):Int)) / 2 ^ t:=by rw [←this]
     _=_:=by rw [Int.mul_add_ediv_left _ _ (Int.ne_of_gt hpos)]
   rw [hd,Int.mul_assoc];omega
  rw [←e2,←e1];generalize (x % ((2 ^ 64:Nat):Int)).toNat / 2 ^ t % 2=q;omega
 rw [h2,h3];have hq:((2 ^ t:Nat):Int)≤9223372036854775808:=by have:(2 ^ t:Nat)≤2 ^ 63:=Nat.pow_le_pow_right (by decide) (by omega);omega
 by_cases hb:bit x t=1
 ·simp only [hb,decide_true,Bool.toNat_true,Eb,if_true];rw [Hd0 (by omega) (by omega)];simp
 ·simp only [hb,decide_false,Bool.toNat_false,Nat.zero_mul,if_false];rw [Hd0 (by omega) (by omega)];simp
def M2 (r:Rec) (t:Int):Bool:=decide (0≤t) && decide (t≤63) && decide (bit r.data.bits t.toNat=1)
theorem Jr (r:Rec) (t:Int):S Qx 2 [r.pv, .i .i64 t]=some [.b (M2 r t)]:=by
 refine Jv9 (N:=1) rfl ?_;unfold M2;by_cases h1:0≤t
 ·by_cases h2:t≤63
  ·obtain ⟨n,rfl⟩:∃n:Nat,t=(n:Int):=⟨t.toNat,by omega⟩;have hb:IntKind.u64.bits=64:=rfl;have h3:X.bin .shr (.i .u64 r.data.bits) (.i .i64 (n:Int))=some (.i .u64 (r.data.bits / 2 ^ n)):=By3 _ _ _ _ (by rw [hb];omega);have h4:r.data.bits / 2 ^ n % 2=bit r.data.bits n:=rfl;simp (disch:=omega) only [Gy9,Tb,Js2,h3,h4,xe,EVP,EV,simprocAttr]
   try simp
   try omega
  ·simp (disch:=omega) only [Gy9,xe,EVP,EV,simprocAttr]
   try simp [h2]
 ·simp (disch:=omega) only [Gy9,xe,EVP,EV,simprocAttr]
  try simp [h1]
theorem El0 (n:Nat) (h:n<64):S Bp0 1 [.i .i64 (n:Int)]=some [.i .u64 (2 ^ n)]:=by
 refine Jw4 (N:=1) rfl ?_;have hb:IntKind.u64.bits=64:=rfl;have h1:min n 64=n:=by omega
 have hp:(2:Int) ^ n≤18446744073709551615:=by
  have h2:(2 ^ n:Nat)≤2 ^ 63:=Nat.pow_le_pow_right (by decide) (by omega);have h3:((2:Int) ^ n)=((2 ^ n:Nat):Int):=by simp
  rw [h3];omega
 have hp0:(0:Int)≤2 ^ n:=Int.le_of_lt (Int.pow_pos (by decide));have h4:¬((n:Int)<0):=by omega
 simp (disch:=omega) only [Is1,Dd2,hb,h1,h4,Int.one_mul,xe,EVP,EV,simprocAttr]
theorem L8 (r:Rec) (t:Int):S Qy 2 [r.pv, .i .i64 t]=some [.b (M2 r t)]:=by
 refine Jz2 (N:=1) rfl ?_;unfold M2;by_cases h1:0≤t
 ·by_cases h2:t≤63
  ·obtain ⟨n,rfl⟩:∃n:Nat,t=(n:Int):=⟨t.toNat,by omega⟩;have h3:=Hx7 r.data.bits n (by omega);have hp0:(0:Int)<2 ^ n:=Int.pow_pos (by decide);simp (disch:=omega) only [Gz2,El0,Tb,h3,xe,EVP,EV,simprocAttr];by_cases h4:bit r.data.bits n=1
   ·simp [h4];omega
   ·simp [h4]
  ·simp (disch:=omega) only [Gz2,xe,EVP,EV,simprocAttr]
   try simp [h2]
 ·simp (disch:=omega) only [Gz2,xe,EVP,EV,simprocAttr]
  try simp [h1]
def H7 (n top:List UInt8):Bool:=decide (n≠top) && under n top
theorem Gt (n top:List UInt8) (hn:n.length≤9223372036854775807) (ht:top.length≤9223372036854775807):S kx 2 [.s n, .s top]=some [.b (H7 n top)]:=by
 refine Jz6 (N:=1) rfl ?_;unfold H7;by_cases h:n=top
 ·simp (disch:=omega) only [Hb1,h,xe,EVP,EV,simprocAttr]
  try simp
 ·simp (disch:=omega) only [Hb1,E8,h,xe,EVP,EV,simprocAttr]
  try simp
theorem J0 (n top:List UInt8) (hn:n.length≤9223372036854775807) (ht:top.length≤9223372036854775807):S Am6 2 [.s n, .s top]=some [.b (H7 n top)]:=by
 refine Jy6 (N:=1) rfl ?_;unfold H7;by_cases h:n=top
 ·simp (disch:=omega) only [Hb0,h,xe,EVP,EV,simprocAttr]
  try simp
 ·simp (disch:=omega) only [Hb0,I6,h,xe,EVP,EV,simprocAttr]
  try simp
def V5 (r:Rec):Bool:=M2 r 39||(M2 r 2 && !M2 r 6)
theorem yb (r:Rec):S Br5 1 [r.pv]=some [.b (V5 r)]:=by refine Jz5 (N:=1) rfl ?_;unfold V5;rcases Ak (M2 r 39) with h1|h1<;>rcases Ak (M2 r 2) with h2|h2<;>rcases Ak (M2 r 6) with h3|h3<;>simp (disch:=omega) only [It5,Jr,h1,h2,h3,xe,EVP,EV,simprocAttr]<;>rfl
def Gs (r:Rec) (zone name:List UInt8):Bool:=
 decide (r.typ=47) && under name zone && decide (0<Hf name r.name) && !(decide (r.data.host≠zone) && decide (0≤Hf name r.data.host)) && (!H7 name r.name|| !V5 r)
theorem Tm (r:Rec) (zone name:List UInt8) (hr:r.wf) (hz:zone.length≤9223372036854775807) (hn:name.length≤9223372036854775807):S ky 3 [r.pv, .s zone, .s name]=some [.b (Gs r zone name)]:=by
 refine Jb6 (N:=1) rfl ?_;have g1:=hr.name;have g2:=hr.data.host;unfold Qm at g1 g2;unfold Gs;by_cases h1:r.typ=47
 ·rcases Ak (under name zone) with h2|h2
  ·by_cases h3:0<Hf name r.name
   ·by_cases h4:r.data.host=zone
    ·rcases Ak (H7 name r.name) with h6|h6<;>rcases Ak (V5 r) with h7|h7<;>simp (disch:=omega) only [Ab9,E8,Hb,Gt,yb,h1,h2,h4,h6,h7,xe,EVP,EV,simprocAttr]<;>simp [h3]
    ·by_cases h5:0≤Hf name r.data.host
     ·simp (disch:=omega) only [Ab9,E8,Hb,h1,h2,h4,xe,EVP,EV,simprocAttr]
      try simp [h4,h5]
     ·rcases Ak (H7 name r.name) with h6|h6<;>rcases Ak (V5 r) with h7|h7<;>simp (disch:=omega) only [Ab9,E8,Hb,Gt,yb,h1,h2,h4,h6,h7,xe,EVP,EV,simprocAttr]<;>simp [h3,h5]
   ·simp (disch:=omega) only [Ab9,E8,Hb,h1,h2,xe,EVP,EV,simprocAttr]
    try simp [h3]
  ·simp (disch:=omega) only [Ab9,E8,h1,h2,xe,EVP,EV,simprocAttr]
   try simp
 ·simp (disch:=omega) only [Ab9,h1,xe,EVP,EV,simprocAttr]
  try simp
theorem Cz8 (a:List UInt8):Hf a a=0:=by
 rcases Ak (vld a) with h|h
 ·rw [Tv h h];unfold ml;have:∀l:List (List UInt8),Q8 l l=none:=by
   intro l;induction l with
   |nil=>rfl
   |cons x xs ih=>simp [Q8,ih]
  rw [this];simp
 ·unfold Hf;simp [h,H4]
theorem Tn (r:Rec) (zone name:List UInt8) (hr:r.wf) (hz:zone.length≤9223372036854775807) (hn:name.length≤9223372036854775807):S An4 3 [r.pv, .s zone, .s name]=some [.b (Gs r zone name)]:=by
 refine Jb5 (N:=1) rfl ?_;have g1:=hr.name;have g2:=hr.data.host;unfold Qm at g1 g2;unfold Gs;by_cases h1:r.typ=47
 ·rcases Ak (under name zone) with h2|h2
  ·by_cases h3:0<Hf name r.name
   ·have hne:name≠r.name:=fun e=>by rw [←e,Cz8] at h3;omega
    have hbel:H7 name r.name=under name r.name:=by simp [H7,hne]
    rw [hbel];unfold V5;by_cases h4:r.data.host=zone
    ·rcases Ak (under name r.name) with h6|h6<;>rcases Ak (M2 r 39) with h7|h7<;>rcases Ak (M2 r 6) with h8|h8<;>rcases Ak (M2 r 2) with h9|h9<;>simp (disch:=omega) only [Ab8,I6,Kf,L8,h1,h2,h4,h6,h7,h8,h9,xe,EVP,EV,simprocAttr]<;>simp [h3]
    ·by_cases h5:0≤Hf name r.data.host
     ·simp (disch:=omega) only [Ab8,I6,Kf,h1,h2,h4,xe,EVP,EV,simprocAttr]
      try simp [h4,h5]
     ·rcases Ak (under name r.name) with h6|h6<;>rcases Ak (M2 r 39) with h7|h7<;>rcases Ak (M2 r 6) with h8|h8<;>rcases Ak (M2 r 2) with h9|h9<;>simp (disch:=omega) only [Ab8,I6,Kf,L8,h1,h2,h4,h6,h7,h8,h9,xe,EVP,EV,simprocAttr]<;>simp [h3,h5]
   ·simp (disch:=omega) only [Ab8,I6,Kf,h1,h2,xe,EVP,EV,simprocAttr]
    try simp [h3]
  ·simp (disch:=omega) only [Ab8,I6,h1,h2,xe,EVP,EV,simprocAttr]
   try simp
 ·simp (disch:=omega) only [Ab8,h1,xe,EVP,EV,simprocAttr]
  try simp
def Qb (r:Rec) (name:List UInt8):List UInt8:=if Ec2 (Dw name r.name)<Ec2 (Dw name r.data.host) then Dw name r.data.host else Dw name r.name
theorem Hz (a b:List UInt8):(Dw a b).length≤254:=by
 unfold Dw;split
 ·rename_i h;exact Cw4 h.1 _
 ·simp
theorem R9 (r:Rec) (name:List UInt8) (hr:r.wf) (hn:name.length≤9223372036854775807):S Bn7 2 [r.pv, .s name]=some [.s (Qb r name)]:=by refine Jv4 (N:=1) rfl ?_;have g1:=hr.name;have g2:=hr.data.host;unfold Qm at g1 g2;have h1:=Hz name r.name;have h2:=Hz name r.data.host;unfold Qb;by_cases h:Ec2 (Dw name r.name)<Ec2 (Dw name r.data.host)<;>simp (disch:=omega) only [Ir7,At6,Dh4,h,xe,EVP,EV,simprocAttr]
theorem Xr {n:List UInt8} (h:vld n=true) (k:Nat):Ec2 (jn ((lbl n).drop k))=((flat ((lbl n).drop k)).length:Int)+1:=by
 obtain ⟨h1,h2⟩:=Hd h k;unfold Ec2;by_cases h3:(lbl n).drop k=[]
 ·rw [h3];rfl
 ·have h4:jn ((lbl n).drop k)=flat ((lbl n).drop k):=by unfold jn;rw [if_neg h3]
  have h5:jn ((lbl n).drop k)≠[46]:=fun e=>h3 (by rw [←h2];exact (kr h1).2 e);rw [if_neg h5,if_pos h1,h4]
theorem P3 (l:List (List UInt8)) (i j:Nat) (h:i<j) (hj:j≤l.length):(flat (l.drop j)).length<(flat (l.drop i)).length:=by
 have e:l.drop i=(l.drop i).take (j - i)++l.drop j:=by
  have:j=i+(j - i):=by omega
  conv=>rhs;rhs;rw [this,←C0]
  rw [Bs]
 rw [e,X8,Ac];have hne:(l.drop i).take (j - i)≠[]:=by intro e2;have:=congrArg List.length e2;simp at this;omega
 obtain ⟨m,hm⟩:=I3 _ hne;rw [hm];simp only [Ac,A3,Bf];omega
theorem commonN_cases (a b:List UInt8) (ha:vld a=true):(vld b=true∧∃k,k≤(lbl a).length∧Dw a b=jn ((lbl a).drop k))∨(vld b=false∧Dw a b=[]):=by
 rcases Ak (vld b) with h|h
 ·exact .inl ⟨h,(lbl a).length - F0 (lbl a) (lbl b),by omega,by unfold Dw;rw [if_pos ⟨ha,h⟩]⟩
 ·exact .inr ⟨h,by unfold Dw;rw [if_neg (by simp [h])]⟩
theorem Cj4:lbl []=[]:=rfl
theorem Vm:Ec2 []=0:=rfl
theorem Ap9 (r:Rec) (name:List UInt8):(if (lbl (Dw name r.name)).length<(lbl (Dw name r.data.host)).length∨Dw name r.name=[] then Dw name r.data.host else Dw name r.name)=Qb r name:=by
 unfold Qb;rcases Ak (vld name) with hv|hv
 ·rcases commonN_cases name r.name hv with ⟨_,i,hi,ea⟩|⟨_,ea⟩
  ·have hni:jn ((lbl name).drop i)≠[]:=fun e=>by have:=Ny (Hd hv i).1;rw [e] at this;simp at this
   rcases commonN_cases name r.data.host hv with ⟨_,j,hj,eb⟩|⟨_,eb⟩
   ·rw [ea,eb,(Hd hv i).2,(Hd hv j).2,Xr hv,Xr hv];have key:((lbl name).drop i).length<((lbl name).drop j).length↔((flat ((lbl name).drop i)).length:Int)+1<((flat ((lbl name).drop j)).length:Int)+1:=by
     simp only [B3];rcases Nat.lt_trichotomy i j with h|h|h
     ·have:=P3 (lbl name) i j h hj;omega
     ·subst h;omega
     ·have:=P3 (lbl name) j i h hi;omega
    by_cases h:((lbl name).drop i).length<((lbl name).drop j).length
    ·rw [if_pos (.inl h),if_pos (key.1 h)]
    ·rw [if_neg (fun h2=>h2.elim h hni),if_neg (fun h2=>h (key.2 h2))]
   ·rw [ea,eb,(Hd hv i).2,Cj4,Xr hv,Vm,if_neg (fun h2=>h2.elim (fun h3=>by simp at h3) hni),if_neg (by omega)]
  ·rw [ea,if_pos (.inr rfl)];rcases commonN_cases name r.data.host hv with ⟨_,j,hj,eb⟩|⟨_,eb⟩
   ·rw [eb,Xr hv,Vm,if_pos (by omega)]
   ·rw [eb];simp
 ·have ea:Dw name r.name=[]:=by unfold Dw;rw [if_neg (by simp [hv])]
  have eb:Dw name r.data.host=[]:=by unfold Dw;rw [if_neg (by simp [hv])]
  rw [ea,eb];simp
theorem Zq (r:Rec) (name:List UInt8) (hr:r.wf) (hn:name.length≤9223372036854775807):S Br3 2 [r.pv, .s name]=some [.s (Qb r name)]:=by refine Jy4 (N:=1) rfl ?_;have g1:=hr.name;have g2:=hr.data.host;unfold Qm at g1 g2;have h1:=Hz name r.name;have h2:=Hz name r.data.host;rw [←Ap9];by_cases h:(lbl (Dw name r.name)).length<(lbl (Dw name r.data.host)).length<;>by_cases h3:Dw name r.name=[]<;>simp (disch:=omega) only [Is9,At7,At3,xe,EVP,EV,simprocAttr]<;>simp [h,h3]
theorem ff (r:Rec) (name:List UInt8):(Qb r name).length≤254:=by
 unfold Qb;split
 ·exact Hz _ _
 ·exact Hz _ _
def My (zone name:List UInt8) (r:Rec):Option (List UInt8):=
 if Gs r zone name && !H7 r.data.host name && Kh (Qb r name) then some (Tt (Qb r name)) else none
def starsN (l:List Rec) (zone name:List UInt8):List (List UInt8):=l.filterMap (My zone name)
theorem vv (l:List Rec) (zone name:List UInt8) (hw:∀r∈l,r.wf) (hl:l.length≤1000000) (hz:zone.length≤9223372036854775807) (hn:name.length≤9223372036854775807):
  S Am9 3 [Al l, .s zone, .s name]=some [Bd (starsN l zone name)]:=by
 refine Jz0 (N:=l.length+1) rfl ?_;have key:Fj3.ev S (l.length+1) [Al l, .s zone, .s name]=some (.yld 0 [Bd ([]++starsN l zone name)]):=by
  refine Fy l (fun i (g:List (List UInt8))=>[Bd g, .i .i64 (i:Int)]) (fun i g r=> .yld 0 [Bd (g++starsN r zone name)]) (fun i g=>g.length≤i) [] rfl (Af _) (by omega) (fun i g c r hd hi hc hI=> ?_) (fun g hI=> ?_)
  ·left;have hcw:=hw c (A9 hc);have g2:=hcw.data.host;unfold Qm at g2;have h1:=Tm c zone name hcw hz hn;have h2:=R9 c name hcw hn;have h3:=ff c name;cases h:My zone name c with
   |some s=>
    refine ⟨g++[s],?_,by simp;omega,by simp [starsN,h]⟩;unfold My at h;split at h
    ·rename_i hc2;injection h with h;subst h;simp only [Aw,A7] at hc2;obtain ⟨⟨k1,k2⟩,k3⟩:=hc2;simp (disch:=omega) only [Ab7,hc,h1,h2,Gt,Ab1,k1,k2,k3,xe,EVP,EV,simprocAttr]
    ·cases h
   |none=>
    refine ⟨g,?_,by omega,by simp [starsN,h]⟩;unfold My at h;split at h
    ·cases h
    ·rename_i hc2;rcases ch3 (Gs c zone name) (!H7 c.data.host name) (Kh (Qb c name)) with e0|⟨e0,e1⟩|⟨e0,e1,e2⟩|⟨e0,e1,e2⟩
     ·simp (disch:=omega) only [Ab7,hc,h1,e0,xe,EVP,EV,simprocAttr]
     ·simp only [Bool.not_eq_false'] at e1;simp (disch:=omega) only [Ab7,hc,h1,Gt,e0,e1,xe,EVP,EV,simprocAttr]
     ·simp only [A7] at e1;simp (disch:=omega) only [Ab7,hc,h1,h2,Gt,Ab1,e0,e1,e2,xe,EVP,EV,simprocAttr]
     ·exact absurd (by simp [e0,e1,e2]) hc2
  ·simp (disch:=omega) only [Ab7,xe,EVP,EV,simprocAttr]
   try simp [starsN,Out.goes]
 simp (disch:=omega) only [Ab7,key,xe,EVP,EV,simprocAttr]
def Jt (v:List UInt8):List (List UInt8)→Nat→Int
 |[],_=> -1
 |x::r,i=>if v=x then (i:Int) else Jt v r (i+1)
theorem fj (v:List UInt8):∀(l:List (List UInt8)) (i:Nat),decide (0≤Jt v l i)=decide (v∈l)
 |[],i=>by simp [Jt]
 |x::r,i=>by
  simp only [Jt];by_cases h:v=x
  ·simp [h]
  ·simp only [if_neg h,fj v r (i+1)];simp [h]
theorem Bz0 (l:List (List UInt8)) (v:List UInt8) (hl:l.length≤1000000):S dt 2 [Bd l, .s v]=some [.i .i64 (Jt v l 0)]:=by
 refine Hs9 (N:=l.length+1) rfl ?_;have key:Cv8.ev S (l.length+1) [Bd l, .s v]=some (if Jt v l 0= -1 then .yld 0 [] else .ret [.i .i64 (Jt v l 0)]):=by
  refine Ew l (fun i=>[.i .i64 (i:Int)]) (fun i r=>if Jt v r i= -1 then .yld 0 [] else .ret [.i .i64 (Jt v r i)]) rfl (by omega) (fun i c r hd hi hc=> ?_) ?_
  ·by_cases h:v=c
   ·right;simp (disch:=omega) only [Zr,hc,h,xe,EVP,EV,simprocAttr];have:¬((i:Int)= -1):=by omega
    simp [Jt,this,Out.goes]
   ·left;simp (disch:=omega) only [Zr,hc,h,xe,EVP,EV,simprocAttr]
    try simp [Jt,h]
  ·simp (disch:=omega) only [Zr,xe,EVP,EV,simprocAttr]
   try simp [Jt,Out.goes]
 by_cases h:Jt v l 0= -1
 ·rw [if_pos h] at key;simp (disch:=omega) only [Zr,key,h,xe,EVP,EV,simprocAttr]
 ·rw [if_neg h] at key;simp (disch:=omega) only [Zr,key,xe,EVP,EV,simprocAttr]
theorem Pn (l:List (List UInt8)) (v:List UInt8) (hl:l.length≤1000000):S Am2 2 [Bd l, .s v]=some [.b (decide (v∈l))]:=by refine Jx4 (N:=1) rfl ?_;rw [←fj v l 0];simp (disch:=omega) only [Is6,Bz0,xe,EVP,EV,simprocAttr]
def Ex (l:List Rec) (zone name star:List UInt8):Bool:=decide (star∈starsN l zone name)
theorem Uz (l:List Rec) (zone name:List UInt8):(starsN l zone name).length≤l.length:=List.length_filterMap_le _ _
theorem pq (l:List Rec) (zone name star:List UInt8) (hw:∀r∈l,r.wf) (hl:l.length≤1000000) (hz:zone.length≤9223372036854775807) (hn:name.length≤9223372036854775807):
  S Br6 4 [Al l, .s zone, .s name, .s star]=some [.b (Ex l zone name star)]:=by
 refine Jz9 (N:=1) rfl ?_;have h1:=Uz l zone name;simp (disch:=omega) only [It6,vv l zone name hw hl hz hn,Pn,Ex,xe,EVP,EV,simprocAttr]
theorem Zk (l:List Rec) (zone name star:List UInt8) (hw:∀r∈l,r.wf) (hl:l.length≤1000000) (hz:zone.length≤9223372036854775807) (hn:name.length≤9223372036854775807):
  S Br1 4 [Al l, .s zone, .s name, .s star]=some [.b (Ex l zone name star)]:=by
 refine Jy0 (N:=l.length+1) rfl ?_;have key:Fj2.ev S (l.length+1) [Al l, .s zone, .s name, .s star]=some (if Ex l zone name star=true then .ret [.b true] else .yld 0 []):=by
  refine Ew l (fun i=>[.i .i64 (i:Int)]) (fun i r=>if Ex r zone name star=true then .ret [.b true] else .yld 0 []) rfl (by omega) (fun i c r hd hi hc=> ?_) ?_
  ·have hcw:=hw c (A9 hc);have g2:=hcw.data.host;unfold Qm at g2;have h1:=Tn c zone name hcw hz hn;have h2:=Zq c name hcw hn;have h3:=ff c name;have hcons:Ex (c::r) zone name star=(decide (My zone name c=some star)||Ex r zone name star):=by
    unfold Ex starsN;cases h:My zone name c with
    |none=>simp only [Gy4,h];simp
    |some s=>
     simp only [Gy4,h,Am,Aq];by_cases h2:star=s
     ·simp [h2]
     ·have h3:¬s=star:=fun e=>h2 e.symm;simp [h2,h3]
   have key2:Dd8.ev S (l.length+1) ([Al l, .s zone, .s name, .s star]++[.i .i64 (i:Int)])=some (if My zone name c=some star then .ret [.b true] else .yld 1 [.i .i64 ((i:Int)+1)]):=by
    unfold My;rcases Ak (Gs c zone name) with k1|k1
    ·rcases Ak (H7 c.data.host name) with k2|k2
     ·simp (disch:=omega) only [ir,hc,h1,J0,k1,k2,xe,EVP,EV,simprocAttr]
      try simp
     ·rcases Ak (Kh (Qb c name)) with k3|k3
      ·by_cases k4:Tt (Qb c name)=star
       ·simp (disch:=omega) only [ir,hc,h1,h2,J0,Y4,k1,k2,k3,k4,xe,EVP,EV,simprocAttr]
        try simp
       ·simp (disch:=omega) only [ir,hc,h1,h2,J0,Y4,k1,k2,k3,k4,xe,EVP,EV,simprocAttr]
        try simp [k4]
      ·simp (disch:=omega) only [ir,hc,h1,h2,J0,Y4,k1,k2,k3,xe,EVP,EV,simprocAttr]
       try simp
    ·simp (disch:=omega) only [ir,hc,h1,k1,xe,EVP,EV,simprocAttr]
     try simp
   rw [key2,hcons];by_cases h:My zone name c=some star<;>simp [h,Out.goes]
  ·simp (disch:=omega) only [ir,xe,EVP,EV,simprocAttr]
   try simp [Ex,starsN,Out.goes]
 rcases Ak (Ex l zone name star) with h|h<;>simp (disch:=omega) only [ir,key,h,xe,EVP,EV,simprocAttr]
def vb (l:List Rec):Bool:=decide (l.length≤30) && l.all fun r=>decide (r.name.length≤300) && decide (r.data.host.length≤300)
theorem Ad0 (l:List Rec):S Bs9 1 [Al l]=some [.b (vb l)]:=by
 refine Jb7 (N:=l.length+1) rfl ?_;unfold vb;by_cases hl:l.length≤30
 ·have key:Fj7.ev S (l.length+1) [Al l]=some (if (l.all fun r=>decide (r.name.length≤300) && decide (r.data.host.length≤300))=true then .yld 0 [] else .ret [.b false]):=by
   refine Ew l (fun i=>[.i .i64 (i:Int)]) (fun i q=>if (q.all fun r=>decide (r.name.length≤300) && decide (r.data.host.length≤300))=true then .yld 0 [] else .ret [.b false]) rfl (by omega) (fun i c r hd hi hc=> ?_) ?_
   ·by_cases h1:c.name.length≤300
    ·by_cases h2:c.data.host.length≤300
     ·left;simp (disch:=omega) only [Ac0,hc,xe,EVP,EV,simprocAttr]
      try simp [h1,h2]
     ·right;simp (disch:=omega) only [Ac0,hc,xe,EVP,EV,simprocAttr]
      try simp [h2,Out.goes]
    ·right;simp (disch:=omega) only [Ac0,hc,xe,EVP,EV,simprocAttr]
     try simp [h1,Out.goes]
   ·simp (disch:=omega) only [Ac0,xe,EVP,EV,simprocAttr]
    try simp [Out.goes]
  rcases Ak (l.all fun r=>decide (r.name.length≤300) && decide (r.data.host.length≤300)) with h|h<;>rw [h] at key ⊢<;>simp (disch:=omega) only [Ac0,key,xe,EVP,EV,simprocAttr]<;>simp [hl]
 ·simp (disch:=omega) only [Ac0,xe,EVP,EV,simprocAttr]
  try simp [hl]
end Go.X.G
