/- Names: what the reference's functions give. -/
import Derived.Test.YtkpbcoeiijddpaaDoorRrsetUnpacksG5
import Derived.Test.YtkpbcoeiijddpaaDoorRrsetUnpacksG6
open Bool renaming and_eq_true→Ax,false_eq_true→Ab,eq_false_or_eq_true→Ad,or_eq_true→An,not_eq_true'→B9,eq_iff_iff→E3,and_true→K1,not_true→Uk
open Int renaming le_refl→Oz
open List renaming getElem?_eq_getElem→Az,length_append→Ac,append_assoc→Ap,mem_cons→A7,eq_nil_of_length_eq_zero→Bj,length_cons→Bq,mem_append→Bw,getD_eq_getElem?_getD→Bz,length_pos_iff→Bf,pairwise_cons→Bh,mem_of_getElem?→Bl,cons_append→Bt,all_eq_true→Cy,pairwise_append→C0,nil_append→C1,mem_filter→Dk,filter_cons_of_pos→D5,take_length→Ez,drop_eq_getElem_cons→Eb,filter_cons→Gj,filter_append→Gk,flatMap_cons→G2,dropLast_concat_getLast→Hv,filter_eq_nil_iff→Pg,drop_eq_nil_of_le→Ph
open Nat renaming le_refl→Ag,zero_le→Ch
open Option renaming map_eq_some_iff→Av,map_some→As
set_option maxHeartbeats 1000000
set_option linter.unusedVariables false
set_option linter.unusedSimpArgs false
namespace Go.X.G
open Go Go.X
def Qg (c:UInt8):Bool:=decide (97≤(c.toNat:Int)) && decide ((c.toNat:Int)≤122)||decide (48≤(c.toNat:Int)) && decide ((c.toNat:Int)≤57)||decide ((c.toNat:Int)=45)||decide ((c.toNat:Int)=95)
def Lb (s:List UInt8):Bool:=decide (s=[42])||(decide (1≤s.length) && decide (s.length≤63) && s.all Qg)
end Go.X.G
/- Names: what the reference's functions give. -/
namespace Go.X.G
open Go Go.X
def spl (first:Bool) (cur:List UInt8):List UInt8→Option (List (List UInt8))
 |[]=>some []
 |c::r=>if c=46 then (if Lb cur=true∧(cur=[42]→first=true) then (spl false [] r).map (cur::·) else none) else spl first (cur++[c]) r
def nm (n:List UInt8):Option (List (List UInt8)):=
 if n=[46] then some [] else if 2≤n.length∧n.length≤254∧n[n.length - 1]? =some 46 then spl true [] n else none
def lbl (n:List UInt8):List (List UInt8):=(nm n).getD []
def vld (n:List UInt8):Bool:=(nm n).isSome
end Go.X.G
/- Names: what the reference's functions give, ctd. -/
namespace Go.X.G
open Go Go.X
theorem U0:∀(r:List UInt8) (f:Bool) (cur:List UInt8) (l:List (List UInt8)),spl f cur r=some l→l.length≤r.length
 |[],f,cur,l,h=>by simp [spl] at h;simp [←h]
 |c::r,f,cur,l,h=>by
  simp only [spl] at h;split at h
  ·split at h
   ·obtain ⟨m,hm,rfl⟩:=Av.1 h;have:=U0 r _ _ _ hm;simp;omega
   ·cases h
  ·have:=U0 r _ _ _ h;simp;omega
theorem Dw8 {n:List UInt8} {l:List (List UInt8)} (h:nm n=some l):l.length≤254:=by
 unfold nm at h;split at h
 ·injection h with h;subst h;simp
 ·split at h
  ·rename_i h2;have:=U0 _ _ _ _ h;omega
  ·cases h
theorem Qh (n:List UInt8):(lbl n).length≤254:=by
 unfold lbl;cases h:nm n with
 |none=>simp
 |some l=>exact Dw8 h
def yd {α:Type} [DecidableEq α]:List α→List α→Nat
 |x::xs,y::ys=>if x=y then yd xs ys+1 else 0
 |_,_=>0
def f8 (a b:List (List UInt8)):Nat:=yd a.reverse b.reverse
def under (n top:List UInt8):Bool:=vld n && vld top && decide (f8 (lbl n) (lbl top)=(lbl top).length)
def cmpS (a b:List UInt8):Int:=if Op.bytesLess a b then -1 else if a=b then 0 else 1
def Nt (a b:List UInt8):Int:=
 if vld a && vld b then
  let k:=f8 (lbl a) (lbl b)
  if k<(lbl a).length∧k<(lbl b).length then cmpS ((lbl a).getD ((lbl a).length - 1 - k) []) ((lbl b).getD ((lbl b).length - 1 - k) [])
  else if (lbl a).length<(lbl b).length then -1 else if (lbl b).length<(lbl a).length then 1 else 0
 else if vld a then -1 else if vld b then 1 else cmpS a b
end Go.X.G
/- The library's functions on strings. -/
namespace Go.X.G
open Go Go.X
theorem Cg0 (x:List UInt8) (c:UInt8):S Ab8 2 [.s x, .i .u8 (c.toNat:Int)]=some [.i .i64 (x.count c:Int)]:=
 Ec9 (args:=[.s x, .i .u8 (c.toNat:Int)]) (by simp [XK.run,Y8,Lib.countByte])
theorem Cb3 (x:List UInt8) (c:UInt8):S Ab7 2 [.s x, .i .u8 (c.toNat:Int)]=some [.i .i64 (Lib.indexByte x c)]:=
 Ec5 (args:=[.s x, .i .u8 (c.toNat:Int)]) (by simp [XK.run,Y8])
theorem Cg1 (x y:List UInt8):S Ac1 2 [.s x, .s y]=some [.i .i64 (Lib.compareBytes x y)]:=
 Ed2 (args:=[.s x, .s y]) (by simp [XK.run,Aw7])
theorem Q9 (x:List UInt8) (c:UInt8):S l8 2 [.s x, .i .u8 (c.toNat:Int)]=some [.i .i64 (Lib.indexByte x c)]:=by refine Ec6 (N:=1) rfl ?_;simp (disch:=omega) only [Ew9,Cb3,xe,EVP,EV,simprocAttr]
theorem Jl (c:UInt8):∀(x:List UInt8),c∉x→Lib.indexByte x c= -1
 |[],_=>rfl
 |b::l,h=>by have h1:b≠c:=fun e=>h (by simp [e]);have h2:=Jl c l (fun e=>h (by simp [e]));simp [Lib.indexByte,h1,h2]
theorem Jh (c:UInt8) (post:List UInt8):∀(pre:List UInt8),c∉pre→Lib.indexByte (pre++c::post) c=(pre.length:Int)
 |[],_=>by simp [Lib.indexByte]
 |b::l,h=>by
  have h1:b≠c:=fun e=>h (by simp [e]);have h2:=Jh c post l (fun e=>h (by simp [e]));simp only [Bt,Lib.indexByte,h2];simp [h1]
  try omega
theorem dot_split (c:UInt8):∀(s:List UInt8),c∉s∨∃pre post,s=pre++c::post∧c∉pre
 |[]=> .inl (by simp)
 |b::l=>by
  by_cases h:b=c
  ·exact .inr ⟨[],l,by simp [h],by simp⟩
  ·rcases dot_split c l with h1|⟨pre,post,rfl,h2⟩
   ·exact .inl (by simp [h1,Ne.symm h])
   ·exact .inr ⟨b::pre,post,by simp,by simp [h2,Ne.symm h]⟩
def pcs (cur:List UInt8):List UInt8→List (List UInt8)
 |[]=>[cur]
 |c::r=>if c=46 then cur::pcs [] r else pcs (cur++[c]) r
def cut (s:List UInt8):List (List UInt8):=pcs [] s
theorem lm (post:List UInt8):∀(pre cur:List UInt8),(46:UInt8)∉pre→pcs cur (pre++46::post)=(cur++pre)::pcs [] post
 |[],cur,_=>by simp [pcs]
 |b::l,cur,h=>by have h1:b≠46:=fun e=>h (by simp [e]);have h2:=lm post l (cur++[b]) (fun e=>h (by simp [e]));simp [pcs,h1,h2]
theorem P8:∀(s cur:List UInt8),(46:UInt8)∉s→pcs cur s=[cur++s]
 |[],cur,_=>by simp [pcs]
 |b::l,cur,h=>by have h1:b≠46:=fun e=>h (by simp [e]);have h2:=P8 l (cur++[b]) (fun e=>h (by simp [e]));simp [pcs,h1,h2]
theorem pw (s:List UInt8):(cut s).length=s.count 46+1:=by
 have:∀(s cur:List UInt8),(pcs cur s).length=s.count 46+1:=by
  intro s
  induction s with
  |nil=>intro cur;rfl
  |cons c r ih=>
   intro cur;by_cases h:c=46<;>simp [pcs,h,ih]
 exact this s []
theorem dw (s:List UInt8) (hs:s.length≤9223372036854775807):S mj 2 [.s s, .s [46]]=some [.i .i64 (Lib.indexByte s 46)]:=by
 refine Ec8 (N:=1) rfl ?_;have h1:=Q9 s 46;have e:(((46:UInt8).toNat:Nat):Int)=46:=rfl;rw [e] at h1;by_cases h:[46]=s
 ·subst h;simp (disch:=omega) only [Cn9,xe,EVP,EV,simprocAttr];rfl
 ·simp (disch:=omega) only [Cn9,h,h1,e,xe,EVP,EV,simprocAttr]
theorem T7 (s:List UInt8) (hs:s.length≤9223372036854775807):S am 2 [.s s, .s [46]]=some [.i .i64 (Lib.indexByte s 46)]:=by refine Ed5 (N:=1) rfl ?_;simp (disch:=omega) only [Ex0,dw,xe,EVP,EV,simprocAttr]
theorem xp (s:List UInt8):S my 2 [.s s, .s [46]]=some [.i .i64 (s.count 46:Int)]:=by refine Ed6 (N:=1) rfl ?_;have h1:=Cg0 s 46;have e:(((46:UInt8).toNat:Nat):Int)=46:=rfl;rw [e] at h1;simp (disch:=omega) only [Ex1,h1,e,xe,EVP,EV,simprocAttr]
def o2 (done rest:List (List UInt8)):Out:=
 .yld 0 [.s ((done++rest).getLastD []),C8 ((done++rest).dropLast++[[]]), .i .i64 (((done++rest).length:Int) - 1)]
theorem V1 (s:List UInt8) (N:Nat) (hN:s.length<N) (hs:s.length≤1000000) (p q:PV):
  oj.ev S N [.s s, .s [46], .i .i64 0,p, .i .i64 ((s.count 46:Int)+1)]=some (o2 [] (cut s)):=by
 have hc0:s.count 46≤s.length:=List.count_le_length;have key:=Kz (fn:=S) (N:=N) (η:=[.s s, .s [46], .i .i64 0,p, .i .i64 ((s.count 46:Int)+1)]) (id:=1) (init:=[(.v 0),(.rep 1 (.mn (.v 4) (.bin .add (.slen (.v 0)) (.c (.i .i64 (1))))) (.c (.s []))),(.c (.i .i64 (0)))]) (body:=w7) (α:=List (List UInt8)×List UInt8)
  (fun a=>[.s a.2,C8 (a.1++List.replicate (a.2.count 46+1) []), .i .i64 (a.1.length:Int)]) (fun a=>o2 a.1 (cut a.2)) (fun a=>a.1.length+a.2.count 46=s.count 46∧a.2.length≤s.length) (fun a=>a.2.length) ([],s) ?_ ⟨by simp,Ag _⟩ hN ?_
 ·simpa [oj] using key
 ·have e:((s.count 46:Int)+1).toNat=s.count 46+1:=by omega
  simp (disch:=omega) only [e,xe,EVP,EV,simprocAttr]
 ·rintro ⟨done,rest⟩ ⟨h1,h2⟩;simp only at h1 h2 ⊢;rcases dot_split 46 rest with h|⟨pre,post,rfl,h⟩
  ·right;have c0:rest.count 46=0:=List.count_eq_zero.2 h;have i0:=Jl 46 rest h;have cu:cut rest=[rest]:=by simpa [cut] using P8 rest [] h
   refine ⟨?_,rfl⟩;rw [c0];rw [c0] at h1;simp (disch:=omega) only [Bt7,T7,i0,xe,EVP,EV,simprocAttr];simp [o2,cu,List.getLastD_eq_getLast?]
  ·left;have c0:(pre++46::post).count 46=post.count 46+1:=by rw [List.count_append,List.count_eq_zero.2 h];simp
   have i0:=Jh 46 post pre h;have cu:cut (pre++46::post)=pre::cut post:=by simpa [cut] using lm post pre [] h
   have hl:(pre++46::post).length=pre.length+post.length+1:=by simp;omega
   have sl1:List.drop (0:Int).toNat (List.take ((pre.length:Int)+0).toNat (pre++46::post))=pre:=by simp
   have sl2:List.drop ((pre.length:Int)+1).toNat (List.take (pre++46::post).length (pre++46::post))=post:=by
    have:((pre.length:Int)+1).toNat=pre.length+1:=by omega
    rw [this,Ez,List.drop_append];simp
   have sl3:(done++[]::[]::List.replicate (post.count 46) ([]:List UInt8)).length=done.length+post.count 46+2:=by simp;omega
   refine ⟨(done++[pre],post),?_,⟨by simp;omega,by simp only;omega⟩,by simp;omega,by simp [o2,cu]⟩;rw [c0];rw [c0] at h1;simp (disch:=omega) only [Bt7,T7,i0,sl1,sl2,xe,EVP,EV,simprocAttr];simp [List.replicate_succ,List.set_append]
theorem V0 (s:List UInt8) (hs:s.length≤1000000):S ml 4 [.s s, .s [46], .i .i64 0, .i .i64 (-1)]=some [C8 (cut s)]:=by
 refine Ef5 (N:=s.length+1) rfl ?_;have h1:=pw s;have h2:s.count 46≤s.length:=List.count_le_length;obtain ⟨l,x,hx⟩:∃l x,cut s=l++[x]:=⟨(cut s).dropLast,(cut s).getLast (by intro e;simp [e] at h1),(Hv _).symm⟩;have h3:l.length=s.count 46:=by rw [hx] at h1;simpa using h1
 have h4:((l.length:Int)+1 - 1)=(l.length:Int):=by omega
 have h5:((l++[([]:List UInt8)]).length:Int)=l.length+1:=by simp
 have h6:((l++[x]).length:Int)=l.length+1:=by simp
 have g1:(l++[([]:List UInt8)])[l.length]? =some []:=by simp
 have g2:(l++[x]).getLastD []=x:=by simp [List.getLastD_eq_getLast?]
 have g3:(l++[([]:List UInt8)]).set l.length x=l++[x]:=by simp
 have hk:=V1 s (s.length+1) (by omega) hs (.i .i64 (-1)) .u;rw [hx] at hk ⊢;simp only [o2,C1,List.dropLast_concat] at hk;simp (disch:=omega) only [Bt7,xp,hk,h4,h6,g1,g2,g3,xe,EVP,EV,simprocAttr];have g4:((l.length:Int)+1).toNat=(l++[x]).length:=by simp
 rw [g4,Ez];rfl
theorem T4 (s:List UInt8) (hs:s.length≤1000000):S bc 2 [.s s, .s [46]]=some [C8 (cut s)]:=by refine Eg9 (N:=1) rfl ?_;simp (disch:=omega) only [Ex7,V0,xe,EVP,EV,simprocAttr]
theorem Rj (s t:List UInt8) (hs:s.length≤9223372036854775807):S mm 2 [.s s, .s t]=some [.b (t.isSuffixOf s)]:=by
 refine Ef6 (N:=1) rfl ?_;by_cases h:t.length≤s.length
 ·have e:((s.length:Int) - (t.length:Int)).toNat=s.length - t.length:=by omega
  simp (disch:=omega) only [Cp3,e,xe,EVP,EV,simprocAttr];simp only [Ez];congr 4;rw [E3,List.isSuffixOf_iff_suffix,decide_eq_true_eq];refine ⟨fun h=>h▸List.drop_suffix _ _,fun h=> ?_⟩;obtain ⟨p,rfl⟩:=h;simp
 ·have h2:t.isSuffixOf s=false:=by rw [Bool.eq_false_iff,ne_eq,List.isSuffixOf_iff_suffix];exact fun h'=>h h'.length_le
  simp (disch:=omega) only [Cp3,h2,xe,EVP,EV,simprocAttr]
theorem L4 (s t:List UInt8) (hs:s.length≤9223372036854775807):S m7 2 [.s s, .s t]=some [.b (t.isSuffixOf s)]:=by refine Eh0 (N:=1) rfl ?_;simp (disch:=omega) only [Ex8,Rj,xe,EVP,EV,simprocAttr]
theorem Wl (x y:List UInt8):S mc 2 [.s x, .s y]=some [.i .i64 (Lib.compareBytes x y)]:=by refine Ef1 (N:=1) rfl ?_;simp (disch:=omega) only [Ex2,Cg1,xe,EVP,EV,simprocAttr]
theorem Wc (x y:List UInt8):S S3 2 [.s x, .s y]=some [.i .i64 (Lib.compareBytes x y)]:=by refine Ef9 (N:=1) rfl ?_;simp (disch:=omega) only [Ex4,Wl,xe,EVP,EV,simprocAttr]
end Go.X.G
/- Names and their labels. -/
namespace Go.X.G
open Go Go.X
def flat (l:List (List UInt8)):List UInt8:=l.flatMap fun x=>x++[46]
def jn (l:List (List UInt8)):List UInt8:=if l=[] then [46] else flat l
def Kl (first:Bool):List (List UInt8)→Bool
 |[]=>true
 |p::r=>Lb p && (!decide (p=[42])||first) && Kl false r
theorem Cb2:Qg 46=false:=by decide
theorem og {p:List UInt8} (h:Lb p=true):(46:UInt8)∉p:=by
 unfold Lb at h;simp at h;rcases h with rfl|⟨_,h⟩
 ·decide
 ·intro h2;have:=h 46 h2;rw [Cb2] at this;cases this
theorem Tb {p:List UInt8}:∀{f:Bool} {l:List (List UInt8)},Kl f l=true→p∈l→Lb p=true
 |f,q::r,h,hp=>by
  simp only [Kl,Ax] at h;rcases A7.1 hp with rfl|hp
  ·exact h.1.1
  ·exact Tb h.2 hp
theorem P1:∀(m:List UInt8) (f:Bool) (cur:List UInt8),spl f cur (m++[46])=if Kl f (pcs cur m)=true then some (pcs cur m) else none
 |[],f,cur=>by simp only [C1,spl,if_true,pcs,Kl,As,K1];by_cases h:Lb cur=true<;>by_cases h2:cur=[42]<;>cases f<;>simp [h,h2]
 |c::r,f,cur=>by
  simp only [Bt,spl,pcs];by_cases hc:c=46
  ·simp only [if_pos hc];rw [P1 r false []];simp only [Kl];by_cases h:Lb cur=true<;>by_cases h2:cur=[42]<;>cases f<;>by_cases h3:Kl false (pcs [] r)=true<;>simp [h,h2,h3]
  ·simp only [if_neg hc];exact P1 r f (cur++[c])
theorem Qj (b:List UInt8):∀(a cur:List UInt8),pcs cur (a++46::b)=pcs cur a++cut b
 |[],cur=>by simp [pcs,cut]
 |c::r,cur=>by
  simp only [Bt,pcs];split
  ·rw [Qj b r []];rfl
  ·exact Qj b r _
theorem Md:∀(m cur:List UInt8),flat (pcs cur m)=cur++m++[46]
 |[],cur=>by simp [pcs,flat]
 |c::r,cur=>by
  simp only [pcs];split
  ·rename_i h;have:=Md r [];simp only [flat,G2] at this ⊢;rw [this,h];simp
  ·rw [Md r (cur++[c])];simp
theorem Dv4 (cur m:List UInt8):pcs cur m≠[]:=by
 cases m with
 |nil=>simp [pcs]
 |cons c r=>
  simp only [pcs];split
  ·simp
  ·intro h;have:=Md r (cur++[c]);rw [h] at this;simp [flat] at this
theorem X7:∀(l:List (List UInt8)),(∀p∈l,(46:UInt8)∉p)→cut (flat l)=l++[[]]
 |[],_=>rfl
 |p::l,h=>by
  have h1:flat (p::l)=p++46::flat l:=by simp [flat]
  rw [h1];show pcs [] _=_;rw [Qj,P8 p [] (h p (by simp)),X7 l (fun q hq=>h q (by simp [hq]))];simp
theorem Ng:∀(l:List (List UInt8)),l≠[]→∃m,flat l=m++[46]
 |[p],_=>⟨p,by simp [flat]⟩
 |p::q::r,_=>by obtain ⟨m,hm⟩:=Ng (q::r) (by simp);exact ⟨p++[46]++m,by simp only [flat,G2] at hm ⊢;rw [hm];simp⟩
theorem Al1 {l:List (List UInt8)} (hl:l≠[]) (h:∀p∈l,(46:UInt8)∉p) {m:List UInt8} (hm:flat l=m++[46]):cut m=l:=by
 have h1:=X7 l h;rw [hm] at h1;have h2:cut (m++[46])=cut m++[[]]:=by show pcs [] (m++46::[])=_;rw [Qj];rfl
 rw [h2] at h1;exact List.append_cancel_right h1
theorem Cx0 {n:List UInt8} {l:List (List UInt8)} (h:nm n=some l):(n=[46]∧l=[])∨(l≠[]∧Kl true l=true∧n=flat l∧n.length≤254):=by
 unfold nm at h;split at h
 ·rename_i e;injection h with h;exact .inl ⟨e,h.symm⟩
 ·split at h
  ·rename_i h1;right;obtain ⟨h2,h3,h4⟩:=h1;obtain ⟨m,hm⟩:∃m,n=m++[46]:=by
    refine ⟨n.dropLast,?_⟩;have:n≠[]:=by intro e;simp [e] at h2
    have h5:=Hv this;rw [←h5];congr 1
    ·simp
    ·have h6:n[n.length - 1]? =some (n.getLast this):=by rw [List.getLast_eq_getElem];exact Az _
     rw [h6] at h4;injection h4 with h4;simp [h4]
   rw [hm,P1] at h;split at h
   ·rename_i h5;injection h with h;subst h;refine ⟨Dv4 _ _,h5,?_,by omega⟩;rw [Md,hm];simp
   ·cases h
  ·cases h
theorem Cj6 {n:List UInt8}:vld n=true↔nm n=some (lbl n):=by unfold vld lbl;cases nm n<;>simp
theorem vld_cases {n:List UInt8} (h:vld n=true):(n=[46]∧lbl n=[])∨(lbl n≠[]∧Kl true (lbl n)=true∧n=flat (lbl n)∧n.length≤254):=Cx0 (Cj6.1 h)
theorem An7 {n:List UInt8} (h:vld n=true):n=jn (lbl n):=by
 unfold jn;rcases vld_cases h with ⟨h1,h2⟩|⟨h1,_,h2,_⟩
 ·rw [h2,if_pos rfl];exact h1
 ·rw [if_neg h1];exact h2
theorem eq {n:List UInt8} (h:vld n=true):n.length≤254:=by
 rcases vld_cases h with ⟨h1,_⟩|⟨_,_,_,h⟩
 ·simp [h1]
 ·exact h
theorem Ad8:lbl [46]=[]:=rfl
theorem n0 {a b:List UInt8} (ha:vld a=true) (hb:vld b=true) (h:lbl a=lbl b):a=b:=by rw [An7 ha,An7 hb,h]
end Go.X.G
/- Names: what the program's functions give. -/
namespace Go.X.G
open Go Go.X
def ord (s:List UInt8):Bool:=decide (1≤s.length) && decide (s.length≤63) && s.all Qg
theorem od (s:List UInt8):Lb s=(decide (s=[42])||ord s):=rfl
theorem Az3:ord [42]=false:=by decide
theorem U8 (s:List UInt8) (N:Nat) (hN:s.length<N) (hs:s.length≤9223372036854775807):
  As7.ev S N [.s s]=some (if s.all Qg=true then .yld 0 [] else .ret [.b false]):=by
 refine F5 s (fun i=>[.i .i64 (i:Int)]) (fun i r=>if r.all Qg=true then .yld 0 [] else .ret [.b false]) rfl hN (fun i c r hd hi hc=> ?_) ?_
 ·have key:xj.ev S N ([.s s]++[.i .i64 (i:Int)])=some (if Qg c=true then .yld 1 [.i .i64 ((i:Int)+1)] else .ret [.b false]):=by
   simp (disch:=omega) only [d6,hc,xe,EVP,EV,simprocAttr];unfold Qg
   grind
  rw [key];rcases Ad (Qg c) with h|h<;>simp [h,Out.goes]
 ·simp (disch:=omega) [d6,xe,EVP,EV,simprocAttr,Out.goes]
theorem Hs (s:List UInt8) (hs:s.length≤9223372036854775807):S mt 1 [.s s]=some [.b (ord s)]:=by
 refine Eg8 (N:=s.length+1) rfl ?_;unfold ord;by_cases h1:s=[]
 ·subst h1;simp (disch:=omega) [d6,xe,EVP,EV,simprocAttr]
 ·have h2:1≤s.length:=Bf.2 h1;by_cases h3:s.length≤63
  ·simp (disch:=omega) only [d6,U8,h1,xe,EVP,EV,simprocAttr];cases s.all Qg<;>simp [h2,h3]
  ·simp (disch:=omega) only [d6,h1,xe,EVP,EV,simprocAttr];simp [h3]
def okP (i:Nat) (p:List UInt8):Bool:=ord p||(decide (i=0) && decide (p=[42]))
def Ab3:Nat→List (List UInt8)→Bool
 |_,[]=>true
 |i,p::r=>okP i p && Ab3 (i+1) r
theorem Sr:∀(l:List (List UInt8)) (i:Nat),Ab3 i l=Kl (decide (i=0)) l
 |[],_=>rfl
 |p::r,i=>by
  have h1:=Sr r (i+1);simp only [Ab3,Kl,h1,okP,od];by_cases h2:p=[42]
  ·subst h2;by_cases h3:i=0<;>simp [Az3,h3]
  ·simp [h2]
theorem xl (p q:PV) (l:List (List UInt8)) (hl:l.length≤1000000) (hw:∀x∈l,x.length≤9223372036854775807) (N:Nat) (hN:l.length<N):
  As9.ev S N [p,q,C8 l]=some (if Ab3 0 l=true then .yld 0 [] else .ret [.b false]):=by
 refine F5 l (fun i=>[.i .i64 (i:Int)]) (fun i r=>if Ab3 i r=true then .yld 0 [] else .ret [.b false]) rfl hN (fun i c r hd hi hc=> ?_) ?_
 ·have hcw:=hw c (Bl hc);have key:xv.ev S N ([p,q,C8 l]++[.i .i64 (i:Int)])=some (if okP i c=true then .yld 1 [.i .i64 ((i:Int)+1)] else .ret [.b false]):=by
   rcases Ad (ord c) with h1|h1
   ·simp (disch:=omega) only [Pn,Hs,hc,h1,xe,EVP,EV,simprocAttr];simp [okP,h1]
   ·by_cases h2:i=0
    ·subst h2;by_cases h3:c=[42]
     ·subst h3;simp (disch:=omega) only [Pn,Hs,hc,h1,xe,EVP,EV,simprocAttr];simp [okP]
     ·simp (disch:=omega) only [Pn,Hs,hc,h1,h3,xe,EVP,EV,simprocAttr];simp [okP,h1,h3]
    ·simp (disch:=omega) only [Pn,Hs,hc,h1,xe,EVP,EV,simprocAttr];simp [okP,h1,h2]
  rw [key];rcases Ad (okP i c) with h|h<;>simp [h,Ab3,Out.goes]
 ·simp (disch:=omega) only [Pn,xe,EVP,EV,simprocAttr];simp [Out.goes,Ab3]
theorem P9:∀(m cur:List UInt8) (x:List UInt8),x∈pcs cur m→x.length≤cur.length+m.length
 |[],cur,x,h=>by simp [pcs] at h;subst h;simp
 |c::r,cur,x,h=>by
  simp only [pcs] at h;split at h
  ·rcases A7.1 h with rfl|h
   ·omega
   ·have:=P9 r [] x h;simp at this ⊢;omega
  ·have:=P9 r _ x h;simp at this ⊢;omega
theorem Al2 (m x:List UInt8) (h:x∈cut m):x.length≤m.length:=by simpa using P9 m [] x h
theorem Df3 (m:List UInt8):(cut m).length≤m.length+1:=by have:=pw m;have:m.count 46≤m.length:=List.count_le_length;omega
theorem fj (n:List UInt8):([46]:List UInt8).isSuffixOf n=true↔∃m,n=m++[46]:=by rw [List.isSuffixOf_iff_suffix];exact ⟨fun ⟨m,h⟩=>⟨m,h.symm⟩,fun ⟨m,h⟩=>⟨m,h.symm⟩⟩
theorem y3 (m:List UInt8) (hm:m≠[]) (hl:m.length≤253):vld (m++[46])=Ab3 0 (cut m):=by have h1:m++[46]≠[46]:=fun e=>hm (List.append_cancel_right (bs:=[46]) (by simpa using e));have h2:0<m.length:=Bf.2 hm;unfold vld nm;rw [if_neg h1,if_pos ⟨by simp;omega,by simp;omega,by simp⟩,P1,Sr];have e:pcs [] m=cut m:=rfl;have e2:Kl (decide ((0:Nat)=0)) (cut m)=Kl true (cut m):=rfl;rw [e,e2];cases Kl true (cut m)<;>rfl
theorem Ad7 (m:List UInt8) (h:vld (m++[46])=true) (hm:m≠[]):lbl (m++[46])=cut m:=by
 rcases vld_cases h with ⟨h1,_⟩|⟨h1,h2,h3,_⟩
 ·exact absurd (List.append_cancel_right (bs:=[46]) (by simpa using h1)) hm
 ·exact (Al1 h1 (fun p hp=>og (Tb h2 hp)) h3.symm).symm
theorem B3 (n:List UInt8) (hn:n.length≤9223372036854775807):S Ow 1 [.s n]=some [.b (vld n)]:=by
 refine Eh6 (N:=300) rfl ?_;by_cases h0:n=[46]
 ·subst h0;simp (disch:=omega) only [Pn,xe,EVP,EV,simprocAttr];rfl
 ·by_cases h1:255≤n.length
  ·have hv:vld n=false:=by rw [Bool.eq_false_iff];intro h;have:=eq h;omega
   simp (disch:=omega) only [Pn,h0,hv,xe,EVP,EV,simprocAttr]
  ·rcases Ad (([46]:List UInt8).isSuffixOf n) with h2|h2
   ·obtain ⟨m,rfl⟩:=(fj n).1 h2;have hm:m≠[]:=fun e=>h0 (by simp [e]);have hl:(m++[46]).length=m.length+1:=by simp
    have hml:m.length≤1000000:=by omega
    have e:List.drop 0 (List.take (((m++[46]).length:Int) - 1).toNat (m++[46]))=m:=by
     have:(((m++[46]).length:Int) - 1).toNat=m.length:=by omega
     rw [this];simp
    have hc:=Df3 m;have hv:=y3 m hm (by omega);have hk:=xl (.s (m++[46])) (.b true) (cut m) (by omega) (fun x hx=>by have:=Al2 m x hx;omega) 300 (by omega);simp (disch:=omega) only [Pn,L4,T4,e,hk,h0,h2,xe,EVP,EV,simprocAttr];rw [hv];cases Ab3 0 (cut m)<;>simp
   ·have hv:vld n=false:=by
     rw [Bool.eq_false_iff];intro h;rcases vld_cases h with ⟨h3,_⟩|⟨h3,_,h5,_⟩
     ·exact h0 h3
     ·obtain ⟨m,hm⟩:=Ng _ h3;have:=(fj n).2 ⟨m,h5.trans hm⟩;rw [h2] at this;cases this
    simp (disch:=omega) only [Pn,L4,h0,h2,hv,xe,EVP,EV,simprocAttr]
theorem Lf (n:List UInt8) (hn:n.length≤9223372036854775807):S Vy 1 [.s n]=some [C8 (lbl n)]:=by
 refine Ef8 (N:=1) rfl ?_;by_cases h0:n=[46]
 ·subst h0;simp (disch:=omega) only [Bt8,Ad8,xe,EVP,EV,simprocAttr]
 ·rcases Ad (vld n) with h1|h1
  ·obtain ⟨m,hm,rfl⟩:∃m,m≠[]∧n=m++[46]:=by
    rcases vld_cases h1 with ⟨h3,_⟩|⟨h3,_,h5,_⟩
    ·exact absurd h3 h0
    ·obtain ⟨m,hm⟩:=Ng _ h3;exact ⟨m,fun e=>h0 (by rw [h5,hm,e];rfl),h5.trans hm⟩
   have hl:(m++[46]).length=m.length+1:=by simp
   have e:List.drop 0 (List.take (((m++[46]).length:Int) - 1).toNat (m++[46]))=m:=by
    have:(((m++[46]).length:Int) - 1).toNat=m.length:=by omega
    rw [this];simp
   have hl2:=eq h1;have e2:=Ad7 m h1 hm;simp (disch:=omega) only [Bt8,B3,T4,e,e2,h0,h1,xe,EVP,EV,simprocAttr]
  ·have e:lbl n=[]:=by
    unfold lbl;unfold vld at h1;cases h:nm n with
    |none=>rfl
    |some l=>rw [h] at h1;cases h1
   simp (disch:=omega) only [Bt8,B3,h0,h1,e,xe,EVP,EV,simprocAttr]
end Go.X.G
/- Names: order, common ancestors, wildcards. -/
namespace Go.X.G
open Go Go.X
theorem L0:∀(a:List UInt8),Op.bytesLess a a=false
 |[]=>rfl
 |a::x=>by simp [Op.bytesLess,L0 x]
theorem I1:∀(a b:List UInt8),Lib.compareBytes a b=cmpS a b
 |[],[]=>rfl
 |[],_::_=>rfl
 |_::_,[]=>rfl
 |a::x,b::y=>by
  have ih:=I1 x y;unfold cmpS at ih ⊢;simp only [Lib.compareBytes,Op.bytesLess,ih];by_cases h1:a<b
  ·simp [h1]
  ·by_cases h2:b<a
   ·have h3:a≠b:=fun e=>by subst e;exact h1 h2
    simp [h1,h2,h3]
   ·have h3:a=b:=UInt8.le_antisymm (UInt8.not_lt.1 h2) (UInt8.not_lt.1 h1);subst h3;simp [h1]
theorem Hf {a b:List UInt8}:cmpS a b=0↔a=b:=by
 unfold cmpS;by_cases h:a=b
 ·subst h;simp [L0]
 ·cases h2:Op.bytesLess a b<;>simp [h]
theorem H5 (x y:List UInt8):S S3 2 [.s x, .s y]=some [.i .i64 (cmpS x y)]:=by rw [Wc,I1]
def N7:List (List UInt8)→List (List UInt8)→Option Int
 |x::xs,y::ys=>if x=y then N7 xs ys else some (cmpS x y)
 |_,_=>none
theorem pf:∀(a b:List (List UInt8)),N7 a b=if yd a b<a.length∧yd a b<b.length then some (cmpS (a.getD (yd a b) []) (b.getD (yd a b) [])) else none
 |[],b=>by simp [N7,yd]
 |x::xs,[]=>by simp [N7,yd]
 |x::xs,y::ys=>by
  have ih:=pf xs ys;simp only [N7,yd];by_cases h:x=y
  ·simp only [if_pos h,ih];simp
  ·simp [h]
def ct (a b:List (List UInt8)):Int:=match N7 a.reverse b.reverse with
 |some c=>c
 |none=>if a.length<b.length then -1 else if b.length<a.length then 1 else 0
theorem X1 (a:List (List UInt8)) (k:Nat) (h:k<a.length):a.reverse.getD k []=a.getD (a.length - 1 - k) []:=by simp [Bz,List.getElem?_reverse h]
theorem Q1 {a b:List UInt8} (ha:vld a=true) (hb:vld b=true):Nt a b=ct (lbl a) (lbl b):=by
 unfold Nt ct;rw [pf];have e:yd (lbl a).reverse (lbl b).reverse=f8 (lbl a) (lbl b):=rfl;rw [e,ha,hb];simp only [List.length_reverse,Bool.and_self,if_true];by_cases h:f8 (lbl a) (lbl b)<(lbl a).length∧f8 (lbl a) (lbl b)<(lbl b).length
 ·rw [if_pos h,if_pos h,X1 _ _ h.1,X1 _ _ h.2]
 ·rw [if_neg h,if_neg h]
theorem Wh (a b:List (List UInt8)) (p1 p2 p3 p4:PV) (ha:a.length≤1000) (hb:b.length≤1000) (N:Nat) (hN:1001<N):
  ov.ev S N [p1,p2,p3,p4,C8 a,C8 b]=some (match N7 a.reverse b.reverse with|some c=> .ret [.i .i64 c]|none=> .yld 0 []):=by
 have key:=Kz (fn:=S) (N:=N) (η:=[p1,p2,p3,p4,C8 a,C8 b]) (id:=1) (init:=[(.c (.i .i64 (1)))]) (body:=xk) (α:=Nat) (fun k=>[.i .i64 ((k:Int)+1)])
  (fun k=>match N7 (a.reverse.drop k) (b.reverse.drop k) with|some c=> .ret [.i .i64 c]|none=> .yld 0 []) (fun k=>k≤a.length∧k≤b.length) (fun k=>a.length - k) 0 rfl ⟨Ch _,Ch _⟩ (by omega) ?_
 ·simpa [ov] using key
 ·rintro k ⟨h1,h2⟩;by_cases h3:k<a.length
  ·by_cases h4:k<b.length
   ·have e1:((a.length:Int) - ((k:Int)+1)).toNat=a.length - 1 - k:=by omega
    have e2:((b.length:Int) - ((k:Int)+1)).toNat=b.length - 1 - k:=by omega
    have g1:a[a.length - 1 - k]? =some (a[a.length - 1 - k]'(by omega)):=Az (by omega);have g2:b[b.length - 1 - k]? =some (b[b.length - 1 - k]'(by omega)):=Az (by omega);have d1:a.reverse.drop k=(a[a.length - 1 - k]'(by omega))::a.reverse.drop (k+1):=by rw [Eb (by simpa using h3)];simp
    have d2:b.reverse.drop k=(b[b.length - 1 - k]'(by omega))::b.reverse.drop (k+1):=by rw [Eb (by simpa using h4)];simp
    rw [d1,d2];generalize (a[a.length - 1 - k]'(by omega))=x at g1;generalize (b[b.length - 1 - k]'(by omega))=y at g2;simp only [N7];by_cases h:x=y
    ·left;have h5:cmpS x y=0:=Hf.2 h;refine ⟨k+1,?_,⟨by omega,by omega⟩,by omega,by rw [if_pos h]⟩;simp (disch:=omega) only [Uc,H5,e1,e2,g1,g2,h5,xe,EVP,EV,simprocAttr]
    ·right;have h5:¬cmpS x y=0:=fun e=>h (Hf.1 e);rw [if_neg h];simp (disch:=omega) only [Uc,H5,e1,e2,g1,g2,h5,xe,EVP,EV,simprocAttr];simp [Out.goes]
   ·right;have d2:b.reverse.drop k=[]:=Ph (by simp;omega);have z:N7 (a.reverse.drop k) []=none:=by cases a.reverse.drop k<;>rfl
    rw [d2,z];simp (disch:=omega) [Uc,xe,EVP,EV,simprocAttr,Out.goes]
  ·right;have d1:a.reverse.drop k=[]:=Ph (by simp;omega);have z:N7 [] (b.reverse.drop k)=none:=rfl;rw [d1,z];simp (disch:=omega) [Uc,xe,EVP,EV,simprocAttr,Out.goes]
theorem Wg (a b:List UInt8) (hn:a.length≤9223372036854775807) (ht:b.length≤9223372036854775807):S m9 2 [.s a, .s b]=some [.i .i64 (Nt a b)]:=by
 refine Eh3 (N:=1002) rfl ?_;have h1:=Qh a;have h2:=Qh b;rcases Ad (vld a) with h3|h3<;>rcases Ad (vld b) with h4|h4
 ·rw [Q1 h3 h4];unfold ct;have hk:=Wh (lbl a) (lbl b) (.s a) (.s b) (.b true) (.b true) (by omega) (by omega) 1002 (by omega);cases h5:N7 (lbl a).reverse (lbl b).reverse with
  |some c=>
   rw [h5] at hk;simp (disch:=omega) only [Uc,B3,Lf,hk,h3,h4,xe,EVP,EV,simprocAttr]
  |none=>
   rw [h5] at hk;simp (disch:=omega) only [Uc,B3,Lf,hk,h3,h4,xe,EVP,EV,simprocAttr]
   grind
 all_goals unfold Nt
 all_goals simp (disch:=omega) only [Uc,B3,H5,h3,h4,xe,EVP,EV,simprocAttr]
 all_goals simp
end Go.X.G
/- The canonical order of names is a total order. -/
namespace Go.X.G
open Go Go.X
structure TO {α:Type} (lt:α→α→Prop):Prop where
 irr:∀a,¬lt a a
 tr:∀a b c,lt a b→lt b c→lt a c
 tri:∀a b,lt a b∨a=b∨lt b a
theorem TO.asym {α:Type} {lt:α→α→Prop} (h:TO lt) {a b:α} (h1:lt a b):¬lt b a:=fun h2=>h.irr a (h.tr _ _ _ h1 h2)
theorem TO.ntr {α:Type} {lt:α→α→Prop} (h:TO lt) {a b c:α} (h1:¬lt a b) (h2:¬lt b c):¬lt a c:=by
 intro h3;rcases h.tri b a with h4|h4|h4
 ·exact h2 (h.tr _ _ _ h4 h3)
 ·subst h4;exact h2 h3
 ·exact h1 h4
def lex {α:Type} (lt:α→α→Prop):List α→List α→Prop
 |[],[]=>False
 |[],_::_=>True
 |_::_,[]=>False
 |a::x,b::y=>lt a b∨(a=b∧lex lt x y)
theorem nt {α:Type} {lt:α→α→Prop} (h:TO lt):∀x:List α,¬lex lt x x
 |[]=>by simp [lex]
 |a::x=>by simp only [lex,true_and,not_or];exact ⟨h.irr a,nt h x⟩
theorem Ap7 {α:Type} {lt:α→α→Prop} (h:TO lt):∀x y z:List α,lex lt x y→lex lt y z→lex lt x z
 |[],[],_,h1,_=>by simp [lex] at h1
 |[],_::_,[],_,h2=>by simp [lex] at h2
 |[],_::_,_::_,_,_=>by simp [lex]
 |_::_,[],_,h1,_=>by simp [lex] at h1
 |_::_,_::_,[],_,h2=>by simp [lex] at h2
 |a::x,b::y,c::z,h1,h2=>by
  simp only [lex] at h1 h2 ⊢;rcases h1 with h1|⟨rfl,h1⟩
  ·rcases h2 with h2|⟨rfl,h2⟩
   ·exact .inl (h.tr _ _ _ h1 h2)
   ·exact .inl h1
  ·rcases h2 with h2|⟨rfl,h2⟩
   ·exact .inl h2
   ·exact .inr ⟨rfl,Ap7 h x y z h1 h2⟩
theorem lex_tri {α:Type} {lt:α→α→Prop} (h:TO lt):∀x y:List α,lex lt x y∨x=y∨lex lt y x
 |[],[]=> .inr (.inl rfl)
 |[],_::_=> .inl (by simp [lex])
 |_::_,[]=> .inr (.inr (by simp [lex]))
 |a::x,b::y=>by
  simp only [lex];rcases h.tri a b with h1|rfl|h1
  ·exact .inl (.inl h1)
  ·rcases lex_tri h x y with h2|rfl|h2
   ·exact .inl (.inr ⟨rfl,h2⟩)
   ·exact .inr (.inl rfl)
   ·exact .inr (.inr (.inr ⟨rfl,h2⟩))
  ·exact .inr (.inr (.inl h1))
theorem TO.lex {α:Type} {lt:α→α→Prop} (h:TO lt):TO (G.lex lt):=⟨nt h,Ap7 h,lex_tri h⟩
theorem Eb1:TO (fun a b:UInt8=>a<b):=⟨fun a=>UInt8.lt_irrefl a,fun a b c h1 h2=>UInt8.lt_trans h1 h2,fun a b=>by
 rcases UInt8.lt_or_le a b with h|h
 ·exact .inl h
 ·rcases UInt8.lt_or_le b a with h2|h2
  ·exact .inr (.inr h2)
  ·exact .inr (.inl (UInt8.le_antisymm h2 h))⟩
abbrev ltB:List UInt8→List UInt8→Prop:=lex fun a b:UInt8=>a<b
theorem An8:TO ltB:=Eb1.lex
theorem T1:∀a b:List UInt8,Op.bytesLess a b=true↔ltB a b
 |[],[]=>by simp [Op.bytesLess,lex]
 |[],_::_=>by simp [Op.bytesLess,lex]
 |_::_,[]=>by simp [Op.bytesLess,lex]
 |a::x,b::y=>by have ih:=T1 x y;simp only [Op.bytesLess,An,decide_eq_true_eq,Ax,beq_iff_eq,lex];rw [ih]
theorem Q0 (a b:List UInt8):cmpS a b<0↔ltB a b:=by
 rw [←T1];unfold cmpS;cases h:Op.bytesLess a b
 ·simp only [Ab,if_false,iff_false];split<;>omega
 ·simp
abbrev ltL:List (List UInt8)→List (List UInt8)→Prop:=lex ltB
theorem to_L:TO ltL:=An8.lex
def c5 (a b:List (List UInt8)):Int:=match N7 a b with
 |some c=>c
 |none=>if a.length<b.length then -1 else if b.length<a.length then 1 else 0
theorem Yw:∀a b:List (List UInt8),c5 a b<0↔ltL a b
 |[],[]=>by simp [c5,N7,lex]
 |[],_::_=>by simp [c5,N7,lex]
 |_::_,[]=>by simp [c5,N7,lex]
 |x::xs,y::ys=>by
  have ih:=Yw xs ys;simp only [c5,N7,lex] at ih ⊢;by_cases h:x=y
  ·subst h;rw [if_pos rfl];simp only [Bq,Nat.add_lt_add_iff_right,true_and];rw [ih];constructor
   ·exact fun h=> .inr h
   ·rintro (h|h)
    ·exact absurd h (An8.irr x)
    ·exact h
  ·rw [if_neg h];simp only;rw [Q0];simp [h]
theorem V7 (a b:List (List UInt8)):ct a b=c5 a.reverse b.reverse:=by unfold ct c5;cases N7 a.reverse b.reverse<;>simp
theorem pd (a b:List (List UInt8)):ct a b<0↔ltL a.reverse b.reverse:=by rw [←Yw,V7]
def ltN (a b:List UInt8):Prop:=if vld a=true then (if vld b=true then ltL (lbl a).reverse (lbl b).reverse else True) else (if vld b=true then False else ltB a b)
theorem Yq (a b:List UInt8):Nt a b<0↔ltN a b:=by
 unfold ltN;rcases Ad (vld a) with ha|ha
 ·rcases Ad (vld b) with hb|hb
  ·rw [Q1 ha hb,pd,if_pos ha,if_pos hb]
  ·unfold Nt;simp [ha,hb]
 ·rcases Ad (vld b) with hb|hb
  ·unfold Nt;simp [ha,hb]
  ·have e:Nt a b=cmpS a b:=by unfold Nt;simp [ha,hb]
   rw [e,Q0];simp [ha,hb]
theorem y7:TO ltN:=by
 refine ⟨fun a h=> ?_,fun a b c h1 h2=> ?_,fun a b=> ?_⟩
 ·unfold ltN at h;split at h
  ·exact to_L.irr _ h
  ·exact An8.irr _ h
 ·unfold ltN at*;rcases Ad (vld a) with ha|ha<;>rcases Ad (vld b) with hb|hb<;>rcases Ad (vld c) with hc|hc<;>
   simp only [ha,hb,hc,if_true,Ab,if_false] at h1 h2 ⊢
  ·exact to_L.tr _ _ _ h1 h2
  ·exact An8.tr _ _ _ h1 h2
 ·unfold ltN;rcases Ad (vld a) with ha|ha<;>rcases Ad (vld b) with hb|hb<;>simp only [ha,hb,if_true,Ab,if_false]
  ·rcases to_L.tri (lbl a).reverse (lbl b).reverse with h|h|h
   ·exact .inl h
   ·exact .inr (.inl (n0 ha hb (List.reverse_inj.1 h)))
   ·exact .inr (.inr h)
  ·simp
  ·simp
  ·exact An8.tri a b
theorem Kr {a b:List UInt8}:Nt a b=0↔a=b:=by
 constructor
 ·intro h;rcases Ad (vld a) with ha|ha
  ·rcases Ad (vld b) with hb|hb
   ·rw [Q1 ha hb] at h;have key:∀x y:List (List UInt8),c5 x y=0→x=y:=by
     intro x
     induction x with
     |nil=>intro y hy;cases y with
      |nil=>rfl
      |cons=>simp [c5,N7] at hy
     |cons x xs ih=>intro y hy;cases y with
      |nil=>simp [c5,N7] at hy
      |cons y ys=>
       simp only [c5,N7] at hy ih;by_cases e:x=y
       ·subst e;rw [if_pos rfl] at hy;simp only [Bq,Nat.add_lt_add_iff_right] at hy;rw [ih ys hy]
       ·rw [if_neg e] at hy;exact absurd (Hf.1 hy) e
    rw [V7] at h;exact n0 ha hb (List.reverse_inj.1 (key _ _ h))
   ·unfold Nt at h;simp [ha,hb] at h
  ·rcases Ad (vld b) with hb|hb
   ·unfold Nt at h;simp [ha,hb] at h
   ·have e:Nt a b=cmpS a b:=by unfold Nt;simp [ha,hb]
    rw [e] at h;exact Hf.1 h
 ·rintro rfl;have h1:=Yq a a;have h2:¬Nt a a<0:=fun h=>y7.irr a (h1.1 h);have key:∀x:List (List UInt8),c5 x x=0:=by
   intro x
   induction x with
   |nil=>rfl
   |cons x xs ih=>
    simp only [c5,N7] at ih ⊢;simp only [if_true,Bq,Nat.add_lt_add_iff_right];exact ih
  rcases Ad (vld a) with ha|ha
  ·rw [Q1 ha ha];rw [V7];exact key _
  ·have e:Nt a a=cmpS a a:=by unfold Nt;simp [ha]
   rw [e];exact Hf.2 rfl
end Go.X.G
/- Stable sorting, in plain words: what is sorted and keeps the order of what is alike is one list alone. -/
namespace Go.X.G
open Go Go.X
structure TP {α:Type} (le:α→α→Bool):Prop where
 tr:∀a b c,le a b=true→le b c=true→le a c=true
 tot:∀a b,le a b=true∨le b a=true
theorem TP.refl {α:Type} {le:α→α→Bool} (h:TP le) (a:α):le a a=true:=by rcases h.tot a a with q|q<;>exact q
def eqv {α:Type} (le:α→α→Bool) (a b:α):Bool:=le a b && le b a
structure Stab {α:Type} (le:α→α→Bool) (r l:List α):Prop where
 sorted:r.Pairwise fun a b=>le a b=true
 cls:∀x,r.filter (eqv le x)=l.filter (eqv le x)
theorem Stab.mem {α:Type} {le:α→α→Bool} (ht:TP le) {r l:List α} (h:Stab le r l) (x:α):x∈r↔x∈l:=by
 have e:eqv le x x=true:=by unfold eqv;rw [ht.refl];rfl
 have h1:x∈r↔x∈r.filter (eqv le x):=by rw [Dk];simp [e]
 have h2:x∈l↔x∈l.filter (eqv le x):=by rw [Dk];simp [e]
 rw [h1,h.cls,←h2]
theorem W5 {α:Type} {le:α→α→Bool} (ht:TP le):∀(r s:List α),(r.Pairwise fun a b=>le a b=true)→(s.Pairwise fun a b=>le a b=true)→(∀x,r.filter (eqv le x)=s.filter (eqv le x))→r=s
 |[],s,_,_,h=>by
  cases s with
  |nil=>rfl
  |cons y t=>
   have:=h y;rw [List.filter_nil,D5 (by unfold eqv;rw [ht.refl];rfl)] at this;cases this
 |x::r,[],_,_,h=>by have:=h x;rw [List.filter_nil,D5 (by unfold eqv;rw [ht.refl];rfl)] at this;cases this
 |x::r,y::s,hr,hs,h=>by
  obtain ⟨r1,r2⟩:=Bh.1 hr;obtain ⟨s1,s2⟩:=Bh.1 hs;have hmem:∀z,z∈x::r↔z∈y::s:=fun z=>by
   have e:eqv le z z=true:=by unfold eqv;rw [ht.refl];rfl
   have a1:z∈x::r↔z∈(x::r).filter (eqv le z):=by rw [Dk];simp [e]
   have a2:z∈y::s↔z∈(y::s).filter (eqv le z):=by rw [Dk];simp [e]
   rw [a1,h,←a2]
  have hxy:le x y=true:=by
   rcases A7.1 ((hmem y).2 (.head _)) with q|q
   ·rw [q];exact ht.refl x
   ·exact r1 y q
  have hyx:le y x=true:=by
   rcases A7.1 ((hmem x).1 (.head _)) with q|q
   ·rw [q];exact ht.refl y
   ·exact s1 x q
  have e:x=y:=by have:=h x;rw [D5 (by unfold eqv;rw [ht.refl];rfl),D5 (by unfold eqv;rw [hxy,hyx];rfl)] at this;injection this
  subst e;have:r=s:=W5 ht r s r2 s2 fun z=>by
   have:=h z;simp only [Gj] at this;split at this
   ·injection this
   ·exact this
  rw [this]
theorem Stab.one {α:Type} {le:α→α→Bool} (ht:TP le) {r s l:List α} (h1:Stab le r l) (h2:Stab le s l):r=s:=
 W5 ht r s h1.sorted h2.sorted fun x=>by rw [h1.cls,h2.cls]
def mrg {α:Type} (le:α→α→Bool):List α→List α→List α
 |[],b=>b
 |x::a,[]=>x::a
 |x::a,y::b=>if le x y=true then x::mrg le a (y::b) else y::mrg le (x::a) b
termination_by a b=>a.length+b.length
theorem Ig {α:Type} (le:α→α→Bool) (a:List α):mrg le a []=a:=by cases a<;>simp [mrg]
theorem mrg_mem {α:Type} (le:α→α→Bool) (z:α):∀(a b:List α),z∈mrg le a b↔z∈a∨z∈b
 |[],b=>by simp [mrg]
 |x::a,[]=>by simp [mrg]
 |x::a,y::b=>by
  unfold mrg;split
  ·rw [A7,mrg_mem le z a (y::b)];simp only [A7];grind
  ·rw [A7,mrg_mem le z (x::a) b];simp only [A7];grind
termination_by a b=>a.length+b.length
theorem Ly {α:Type} {le:α→α→Bool} (ht:TP le):∀(a b:List α),(a.Pairwise fun x y=>le x y=true)→(b.Pairwise fun x y=>le x y=true)→(mrg le a b).Pairwise fun x y=>le x y=true
 |[],b,_,hb=>by simpa [mrg] using hb
 |x::a,[],ha,_=>by simpa [mrg] using ha
 |x::a,y::b,ha,hb=>by
  obtain ⟨a1,a2⟩:=Bh.1 ha;obtain ⟨b1,b2⟩:=Bh.1 hb;unfold mrg;split
  ·rename_i h;refine Bh.2 ⟨fun z hz=> ?_,Ly ht a (y::b) a2 hb⟩;rcases (mrg_mem le z a (y::b)).1 hz with hz|hz
   ·exact a1 z hz
   ·rcases A7.1 hz with rfl|hz
    ·exact h
    ·exact ht.tr _ _ _ h (b1 z hz)
  ·rename_i h;have h':le y x=true:=(ht.tot x y).resolve_left h;refine Bh.2 ⟨fun z hz=> ?_,Ly ht (x::a) b ha b2⟩;rcases (mrg_mem le z (x::a) b).1 hz with hz|hz
   ·rcases A7.1 hz with rfl|hz
    ·exact h'
    ·exact ht.tr _ _ _ h' (a1 z hz)
   ·exact b1 z hz
termination_by a b=>a.length+b.length
theorem Vf {α:Type} {le:α→α→Bool} (ht:TP le) (z:α):∀(a b:List α),(a.Pairwise fun x y=>le x y=true)→(mrg le a b).filter (eqv le z)=a.filter (eqv le z)++b.filter (eqv le z)
 |[],b,_=>by simp [mrg]
 |x::a,[],_=>by simp [mrg]
 |x::a,y::b,ha=>by
  obtain ⟨a1,a2⟩:=Bh.1 ha;unfold mrg;split
  ·simp only [Gj];rw [Vf ht z a (y::b) a2];simp only [Gj];split<;>simp
  ·rename_i h;rw [Gj,Vf ht z (x::a) b ha];by_cases hy:eqv le z y=true
   ·-- then nothing of the first list is like z
    have hno:(x::a).filter (eqv le z)=[]:=by
     rw [Pg];intro w hw hzw;unfold eqv at hy hzw;simp only [Ax] at hy hzw;have hxw:le x w=true:=by
      rcases A7.1 hw with rfl|hw
      ·exact ht.refl _
      ·exact a1 w hw
     exact h (ht.tr _ _ _ hxw (ht.tr _ _ _ hzw.2 hy.1))
    rw [hno,D5 hy,if_pos hy];rfl
   ·rw [if_neg hy,List.filter_cons_of_neg hy]
termination_by a b=>a.length+b.length
theorem Stab.mrg {α:Type} {le:α→α→Bool} (ht:TP le) {r s l m:List α} (h1:Stab le r l) (h2:Stab le s m):Stab le (mrg le r s) (l++m):=
 ⟨Ly ht r s h1.sorted h2.sorted,fun x=>by rw [Vf ht x r s h1.sorted,h1.cls,h2.cls,Gk]⟩
theorem If {α:Type} (le:α→α→Bool) (a2 b2:List α):∀(a1 b1:List α),(∀x∈a1,∀y∈b2,le x y=true)→(∀x∈a2,∀y∈b1,le x y=false)→mrg le (a1++a2) (b1++b2)=mrg le a1 b1++mrg le a2 b2
 |[],[],_,_=>by simp [mrg]
 |x::a1,[],h1,h2=>by
  rw [Ig,C1];have ih:=If le a2 b2 a1 [] (fun w hw=>h1 w (.tail _ hw)) h2;rw [Ig,C1] at ih;cases b2 with
  |nil=>rw [Ig,Ig]
  |cons y b=>
   rw [Bt];have e:mrg le (x::(a1++a2)) (y::b)=x::mrg le (a1++a2) (y::b):=by
    conv=>lhs;unfold mrg
    rw [if_pos (h1 x (.head _) y (.head _))]
   rw [e,ih,Bt]
 |[],y::b1,h1,h2=>by
  have ih:=If le a2 b2 [] b1 h1 (fun x hx w hw=>h2 x hx w (.tail _ hw));cases a2 with
  |nil=>simp [mrg]
  |cons x a=>
   rw [C1] at ih ⊢;rw [Bt];have e:mrg le (x::a) (y::(b1++b2))=y::mrg le (x::a) (b1++b2):=by
    conv=>lhs;unfold mrg
    rw [if_neg (by rw [h2 x (.head _) y (.head _)];simp)]
   rw [e,ih];simp [mrg]
 |x::a1,y::b1,h1,h2=>by
  rw [Bt,Bt];by_cases h:le x y=true
  ·have ih:=If le a2 b2 a1 (y::b1) (fun w hw=>h1 w (.tail _ hw)) h2;have e1:mrg le (x::(a1++a2)) (y::(b1++b2))=x::mrg le (a1++a2) (y::(b1++b2)):=by
    conv=>lhs;unfold mrg
    rw [if_pos h]
   have e2:mrg le (x::a1) (y::b1)=x::mrg le a1 (y::b1):=by
    conv=>lhs;unfold mrg
    rw [if_pos h]
   rw [e1,e2,Bt,←ih];rfl
  ·have ih:=If le a2 b2 (x::a1) b1 h1 (fun w hw v hv=>h2 w hw v (.tail _ hv));have e1:mrg le (x::(a1++a2)) (y::(b1++b2))=y::mrg le (x::(a1++a2)) (b1++b2):=by
    conv=>lhs;unfold mrg
    rw [if_neg h]
   have e2:mrg le (x::a1) (y::b1)=y::mrg le (x::a1) b1:=by
    conv=>lhs;unfold mrg
    rw [if_neg h]
   rw [e1,e2,Bt,←ih];rfl
termination_by a1 b1=>a1.length+b1.length
end Go.X.G
/- Sorted lists of names, each once. -/
namespace Go.X.G
open Go Go.X
def Uv {α:Type} (e:α→α→Bool):α→List α→List α
 |_,[]=>[]
 |p,c::r=>if e c p=true then Uv e c r else c::Uv e c r
def cpt {α:Type} (e:α→α→Bool):List α→List α
 |[]=>[]
 |x::r=>x::Uv e x r
theorem Ts {α:Type} (e:α→α→Bool) (c:α):∀(r:List α) (p:α),Uv e p (r++[c])=Uv e p r++(if e c ((p::r).getLast (by simp))=true then [] else [c])
 |[],p=>by simp only [C1,Uv,List.getLast_singleton];rfl
 |x::r,p=>by
  have ih:=Ts e c r x;simp only [Bt,Uv,List.getLast_cons_cons];split
  ·exact ih
  ·rw [ih];rfl
theorem Qt {α:Type} (e:α→α→Bool) (c:α) (l:List α) (h:l≠[]):cpt e (l++[c])=cpt e l++(if e c (l.getLast h)=true then [] else [c]):=by
 cases l with
 |nil=>exact absurd rfl h
 |cons x r=>
  show x::Uv e x (r++[c])=_;rw [Ts];rfl
theorem X8 {α:Type} (e:α→α→Bool):∀(r:List α) (p:α),(Uv e p r).length≤r.length
 |[],_=>by simp [Uv]
 |c::r,p=>by have:=X8 e r c;simp only [Uv];split<;>simp<;>omega
theorem Cf9 {α:Type} (e:α→α→Bool) (l:List α):(cpt e l).length≤l.length:=by
 cases l with
 |nil=>simp [cpt]
 |cons x r=>have:=X8 e r x;simp [cpt];exact this
abbrev eqs {α:Type} [DecidableEq α]:α→α→Bool:=fun a b=>decide (a=b)
def setN (l:List (List UInt8)):List (List UInt8):=cpt eqs (l.mergeSort fun x y=> !decide (Nt y x<0))
end Go.X.G
/- Data of records: what the reference's functions give. -/
namespace Go.X.G
open Go Go.X
theorem t15 (t:Int):t=1∨t=2∨t=5∨t=6∨t=12∨t=15∨t=16∨t=28∨t=33∨t=39∨t=43∨t=46∨t=47∨t=48∨(t≠1∧t≠2∧t≠5∧t≠6∧t≠12∧t≠15∧t≠16∧t≠28∧t≠33∧t≠39∧t≠43∧t≠46∧t≠47∧t≠48):=by omega
def knw (t:Int):Bool:=decide (t=1)||decide (t=2)||decide (t=5)||decide (t=6)||decide (t=12)||decide (t=15)||decide (t=16)||decide (t=28)||decide (t=33)||decide (t=39)||decide (t=43)||decide (t=46)||decide (t=47)||decide (t=48)
def Df (d:Dat):Bool:=d.v6||(decide (d.hi=0) && decide (d.lo<4294967296))
def inB (n most:Int):Bool:=decide (0≤n) && decide (n≤most)
def Gp (s:List UInt8):Bool:=decide (1≤s.length) && decide (s.length≤255)
def F6 (n:List UInt8):Bool:=vld n && decide (n[0]? ≠some 42)
def bit (set:Int) (t:Nat):Int:=set / 2 ^ t % 2
theorem Fy5 (x:Int):IntKind.u64.wrap ((BitVec.ofInt IntKind.u64.bits x &&& BitVec.ofInt IntKind.u64.bits 1).toNat:Int)=x % 2:=by
 have h2:(BitVec.ofInt 64 x &&& BitVec.ofInt 64 1).toNat=(BitVec.ofInt 64 x).toNat % 2:=by rw [BitVec.toNat_and];show (BitVec.ofInt 64 x).toNat &&& 1=_;exact Nat.and_one_is_mod _
 show IntKind.u64.wrap (((BitVec.ofInt 64 x &&& BitVec.ofInt 64 1).toNat:Nat):Int)=_;rw [h2,BitVec.toNat_ofInt];rw [Ey6]<;>omega
end Go.X.G
/- Data of records: bytes. -/
namespace Go.X.G
open Go Go.X
def Cm1 (set:Int) (i:Nat):Nat→Bool
 |0=>true
 |k+1=>(!decide (bit set i=1)||knw (i:Int)) && Cm1 set (i+1) k
def be (v:Int):Nat→List UInt8
 |0=>[]
 |n+1=>UInt8.ofNat (v / 256 ^ n % 256).toNat::be v n
theorem Ds (v:Int):∀n,(be v n).length=n
 |0=>rfl
 |n+1=>by simp [be,Ds v n]
theorem l7 (z:Int) (h1:0≤z) (h2:z<256):((UInt8.ofNat z.toNat).toNat:Int)=z:=by simp;omega
theorem Cf8 (v:Int) (j:Nat):v / 256 ^ j / 256=v / 256 ^ (j+1):=by rw [Int.pow_succ,Int.ediv_ediv_of_nonneg (Int.le_of_lt (Int.pow_pos (by decide)))]
theorem Df0 (v:Int) (j:Nat) (h:0≤v):0≤v / 256 ^ j:=Int.ediv_nonneg h (Int.le_of_lt (Int.pow_pos (by decide)))
theorem Df1 (v:Int) (j:Nat) (h:0≤v):v / 256 ^ j≤v:=Int.ediv_le_self _ h
end Go.X.G
/- Data of records: the wire form. -/
namespace Go.X.G
open Go Go.X
theorem Ty {s:List UInt8} (h:Lb s=true):s.length≤63:=by
 unfold Lb at h;simp at h;rcases h with h|h
 ·simp [h]
 ·omega
theorem P2:∀(r:List UInt8) (f:Bool) (cur:List UInt8) (l:List (List UInt8)),spl f cur r=some l→∀x∈l,Lb x=true
 |[],f,cur,l,h=>by simp [spl] at h;subst h;simp
 |c::r,f,cur,l,h=>by
  simp only [spl] at h;split at h
  ·split at h
   ·rename_i h2;obtain ⟨m,hm,rfl⟩:=Av.1 h;intro x hx;simp at hx;rcases hx with rfl|hx
    ·exact h2.1
    ·exact P2 r _ _ _ hm x hx
   ·cases h
  ·exact P2 r _ _ _ h
theorem Ql (n:List UInt8):∀x∈lbl n,Lb x=true:=by
 unfold lbl nm;split
 ·simp
 ·split
  ·cases h:spl true [] n with
   |none=>simp
   |some l=>simpa using P2 _ _ _ _ h
  ·simp
def wireL (l:List (List UInt8)):List UInt8:=l.flatMap fun x=>be (x.length:Int) 1++x
def Gh (n:List UInt8):List UInt8:=wireL (lbl n)++be 0 1
theorem Mh:∀(l:List (List UInt8)),(∀x∈l,Lb x=true)→(wireL l).length≤64*l.length
 |[],_=>by simp [wireL]
 |x::l,h=>by have h1:=Ty (h x (by simp));have h2:=Mh l (fun y hy=>h y (by simp [hy]));simp only [wireL,G2,Ac,Ds,Bq] at h2 ⊢;omega
theorem Rm (n:List UInt8):(Gh n).length≤20000:=by have h1:=Mh (lbl n) (Ql n);have h2:=Qh n;simp only [Gh,Ac,Ds];omega
def bmV (set:Int) (i:Nat):Nat→Int
 |0=>0
 |j+1=>bmV set i j*2+bit set (i*8+j)
theorem Br3 (set:Int) (t:Nat):0≤bit set t∧bit set t≤1:=by unfold bit;omega
theorem Yz (set:Int) (i:Nat):∀j,0≤bmV set i j∧bmV set i j<2 ^ j
 |0=>by simp [bmV]
 |j+1=>by have h1:=Yz set i j;have h2:=Br3 set (i*8+j);simp only [bmV,Int.pow_succ];omega
def bmB (set:Int) (i:Nat):UInt8:=UInt8.ofNat (bmV set i 8).toNat
def bmL (set:Int):Nat→Nat
 |0=>0
 |i+1=>if bmV set i 8≠0 then i+1 else bmL set i
theorem Br1 (set:Int):∀i,bmL set i≤i
 |0=>Ag _
 |i+1=>by have:=Br1 set i;simp only [bmL];split<;>omega
def bmap (set:Int):List UInt8:=((List.range 8).map (bmB set)).take (bmL set 8)
theorem Yy (set:Int):(bmap set).length≤8:=by simp [bmap];omega
def L5 (d:Dat):List UInt8:=if d.v6 then be d.hi 8++be d.lo 8 else be d.lo 4
def usd (t:Int) (d:Dat):Dat:=
 if t=1∨t=28 then ⟨d.v6,d.hi,d.lo,[],[],[],0,0,0,0,0,0,0⟩
 else if t=2∨t=5∨t=12∨t=39 then ⟨false,0,0,d.host,[],[],0,0,0,0,0,0,0⟩
 else if t=6 then ⟨false,0,0,d.host,d.mail,[],d.a,d.b,d.c,d.d,d.e,0,0⟩
 else if t=15 then ⟨false,0,0,d.host,[],[],d.a,0,0,0,0,0,0⟩
 else if t=16 then ⟨false,0,0,[],[],d.text,0,0,0,0,0,0,0⟩
 else if t=33 then ⟨false,0,0,d.host,[],[],d.a,d.b,d.c,0,0,0,0⟩
 else if t=43∨t=48 then ⟨false,0,0,[],[],d.text,d.a,d.b,d.c,0,0,0,0⟩
 else if t=46 then ⟨false,0,0,d.host,[],d.text,d.a,d.b,d.c,d.d,d.e,d.f,0⟩
 else ⟨false,0,0,d.host,[],[],0,0,0,0,0,0,d.bits⟩
end Go.X.G
/- Data of records: which are valid. -/
namespace Go.X.G
open Go Go.X
def C3 (t:Int) (d:Dat):Bool:=
 if t=1 then Df d && !d.v6
 else if t=28 then d.v6
 else if t=6 then F6 d.host && F6 d.mail && inB d.a 4294967295 && inB d.b 2147483647 && inB d.c 2147483647 && inB d.d 2147483647 && inB d.e 2147483647
 else if t=15 then F6 d.host && inB d.a 65535
 else if t=16 then decide (d.text.length≤255)
 else if t=33 then F6 d.host && inB d.a 65535 && inB d.b 65535 && inB d.c 65535
 else if t=43 then inB d.a 65535 && inB d.b 255 && inB d.c 255 && Gp d.text
 else if t=46 then knw d.a && decide (d.a≠46) && inB d.b 127 && inB d.c 2147483647 && inB d.d 4294967295 && inB d.e 4294967295 && inB d.f 65535 && F6 d.host && Gp d.text
 else if t=47 then vld d.host && decide (d.bits≠0) && Cm1 d.bits 0 64
 else if t=48 then (decide (d.a=256)||decide (d.a=257)) && decide (d.b=3) && inB d.c 255 && Gp d.text
 else F6 d.host
def Dn (t:Int) (d:Dat):Bool:=knw t && decide (usd t d=d) && C3 t d
def Iq (t:Int) (d:Dat):List UInt8:=
 if t=1∨t=28 then L5 d
 else if t=6 then Gh d.host++Gh d.mail++be d.a 4++be d.b 4++be d.c 4++be d.d 4++be d.e 4
 else if t=15 then be d.a 2++Gh d.host
 else if t=16 then be (d.text.length:Int) 1++d.text
 else if t=33 then be d.a 2++be d.b 2++be d.c 2++Gh d.host
 else if t=43∨t=48 then be d.a 2++be d.b 1++be d.c 1++d.text
 else if t=46 then be d.a 2++be 253 1++be d.b 1++be d.c 4++be d.d 4++be d.e 4++be d.f 2++Gh d.host++d.text
 else if t=47 then Gh d.host++be 0 1++be ((bmap d.bits).length:Int) 1++bmap d.bits
 else Gh d.host
theorem knw_cases {t:Int} (h:knw t=true):t=1∨t=2∨t=5∨t=6∨t=12∨t=15∨t=16∨t=28∨t=33∨t=39∨t=43∨t=46∨t=47∨t=48:=by simp [knw] at h;omega
def Cg3 (t:Int) (a b:Dat):Int:=
 if Dn t a && Dn t b then cmpS (Iq t a) (Iq t b) else if Dn t a then -1 else if Dn t b then 1 else 0
end Go.X.G
/- Lists of records: what the reference's functions give. -/
namespace Go.X.G
open Go Go.X
def yw (r:Rec):Bool:=vld r.name && knw r.typ && decide (0≤r.ttl) && decide (r.ttl≤2147483647) && Dn r.typ r.data
def dm (a b:Int):Int:=if a<b then -1 else if b<a then 1 else 0
def Uw (a b:Rec):Int:=
 if Nt a.name b.name≠0 then Nt a.name b.name else if dm a.typ b.typ≠0 then dm a.typ b.typ else Cg3 a.typ a.data b.data
def isK (n:List UInt8) (t:Int) (r:Rec):Bool:=decide (r.name=n) && decide (r.typ=t)
def findR (l:List Rec) (n:List UInt8) (t:Int):List Rec:=l.filter (isK n t)
theorem An1 (l:List Rec) (n:List UInt8) (t:Int) (hl:l.length≤1000000):S nw 3 [Al l, .s n, .i .i64 t]=some [Al (findR l n t)]:=by
 refine El3 (N:=l.length+1) rfl ?_;have key:At1.ev S (l.length+1) [Al l, .s n, .i .i64 t]=some (.yld 0 [Al ([]++findR l n t)]):=by
  refine Jw l (fun i (g:List Rec)=>[Al g, .i .i64 (i:Int)]) (fun i g r=> .yld 0 [Al (g++findR r n t)]) (fun i g=>g.length≤i) [] rfl (Ch _) (by omega) (fun i g c r hd hi hc hI=> ?_) (fun g hI=> ?_)
  ·left;by_cases h:isK n t c=true
   ·refine ⟨g++[c],?_,by simp;omega,by simp [findR,h]⟩;simp [isK] at h;simp (disch:=omega) only [d7,hc,h.1,h.2,xe,EVP,EV,simprocAttr]
   ·refine ⟨g,?_,by omega,by simp [findR,h]⟩;simp [isK] at h;by_cases h1:c.name=n
    ·simp (disch:=omega) only [d7,hc,h1,h h1,xe,EVP,EV,simprocAttr]
    ·by_cases h2:c.typ=t<;>simp (disch:=omega) only [d7,hc,h1,h2,xe,EVP,EV,simprocAttr]
  ·simp (disch:=omega) only [d7,xe,EVP,EV,simprocAttr];simp [findR,Out.goes]
 simp (disch:=omega) only [d7,key,xe,EVP,EV,simprocAttr]
def dz (x:Rec):List Rec→List Rec
 |[]=>[x]
 |y::r=>if Uw y x<0 then y::dz x r else if Uw y x=0 then (if x.ttl<y.ttl then x::r else y::r) else x::y::r
def sortR (l:List Rec):List Rec:=l.foldl (fun acc x=>dz x acc) []
theorem Xs (x:Rec):∀l,(dz x l).length≤l.length+1
 |[]=>by simp [dz]
 |y::r=>by
  have:=Xs x r;simp only [dz];split
  ·simp;omega
  ·split
   ·split<;>simp
   ·simp
end Go.X.G
/- Zones: what the reference's check gives. -/
namespace Go.X.G
open Go Go.X
def Yc (n top:List UInt8):Bool:=decide (n≠top) && under n top
def Fy2 (l:List Rec) (n:List UInt8) (t:Int):Bool:=decide (0<(findR l n t).length)
def Q4 (r x:Rec):Bool:=
 !decide (x.name=r.name)||(!(decide (x.typ=r.typ) && decide (r.typ≠46) && decide (x.ttl≠r.ttl)) && !(decide (x.typ=r.typ) && (decide (r.typ=6)||decide (r.typ=5)||decide (r.typ=39)) && decide (x≠r)) &&
  !(decide (r.typ=5) && decide (x.typ≠5) && decide (x.typ≠46) && decide (x.typ≠47)))
def wg (z:Zone) (r:Rec):Bool:=z.recs.all (Q4 r)
def Ay3 (z:Zone) (r x:Rec):Bool:=
 !(decide (x.typ=39) && Yc r.name x.name) && !(decide (x.typ=2) && Yc x.name z.origin && Yc r.name x.name && decide (r.typ≠1) && decide (r.typ≠28))
def Cv8 (t:Int):Bool:=decide (t=2)||decide (t=43)||decide (t=47)||decide (t=46)||decide (t=1)||decide (t=28)
def Cv9 (z:Zone) (r:Rec):Bool:=
 if (lbl r.name)[0]? =some [42]∧(r.typ=2∨r.typ=39) then false
 else z.recs.all (Ay3 z r) && (if Yc r.name z.origin && Fy2 z.recs r.name 2 then Cv8 r.typ else decide (r.typ≠43))
def Cv5 (z:Zone) (r:Rec):Bool:=under r.name z.origin && !(decide (r.typ=6) && decide (r.name≠z.origin)) && wg z r && Cv9 z r
end Go.X.G
/- The order of records; what a checked zone is like. -/
namespace Go.X.G
open Go Go.X
theorem TO.prod {α β:Type} {l1:α→α→Prop} {l2:β→β→Prop} (h1:TO l1) (h2:TO l2):TO (fun p q:α×β=>l1 p.1 q.1∨(p.1=q.1∧l2 p.2 q.2)) where
 irr:=fun p h=>by
  rcases h with h|⟨_,h⟩
  ·exact h1.irr _ h
  ·exact h2.irr _ h
 tr:=fun p q r a b=>by
  rcases a with a|⟨a,a'⟩<;>rcases b with b|⟨b,b'⟩
  ·exact .inl (h1.tr _ _ _ a b)
  ·exact .inl (b▸a)
  ·exact .inl (a▸b)
  ·exact .inr ⟨a.trans b,h2.tr _ _ _ a' b'⟩
 tri:=fun p q=>by
  rcases h1.tri p.1 q.1 with a|a|a
  ·exact .inl (.inl a)
  ·rcases h2.tri p.2 q.2 with b|b|b
   ·exact .inl (.inr ⟨a,b⟩)
   ·exact .inr (.inl (Prod.ext a b))
   ·exact .inr (.inr (.inr ⟨a.symm,b⟩))
  ·exact .inr (.inr (.inl a))
theorem Eq8:TO (fun a b:Int=>a<b):=⟨fun a h=>by omega,fun a b c h1 h2=>by omega,fun a b=>by omega⟩
theorem Yv (a b:Int):dm a b<0↔a<b:=by unfold dm;split<;>(try split)<;>omega
theorem Ks (a b:Int):dm a b=0↔a=b:=by unfold dm;split<;>(try split)<;>omega
abbrev Key:=List UInt8×Int×List UInt8
abbrev ltK:Key→Key→Prop:=fun p q=>ltN p.1 q.1∨(p.1=q.1∧(p.2.1<q.2.1∨(p.2.1=q.2.1∧ltB p.2.2 q.2.2)))
theorem Fy7:TO ltK:=y7.prod (Eq8.prod An8)
def Fy1 (r:Rec):Key:=(r.name,r.typ,Iq r.typ r.data)
abbrev ltR (a b:Rec):Prop:=ltK (Fy1 a) (Fy1 b)
structure ZOk (z:Zone):Prop where
 origin:vld z.origin=true
 small:z.recs.length≤2048
 valid:∀r∈z.recs,yw r=true
 rising:z.recs.Pairwise ltR
 soa:(findR z.recs z.origin 6).length=1
 ns:Fy2 z.recs z.origin 2=true
 recs:∀r∈z.recs,Cv5 z r=true
theorem ZOk.beside {z:Zone} (h:ZOk z) {r x:Rec} (hr:r∈z.recs) (hx:x∈z.recs):Q4 r x=true:=by have:=h.recs r hr;unfold Cv5 at this;simp only [Ax] at this;have h2:=this.1.2;unfold wg at h2;exact Cy.1 h2 x hx
theorem ZOk.under {z:Zone} (h:ZOk z) {r:Rec} (hr:r∈z.recs):under r.name z.origin=true:=by have:=h.recs r hr;unfold Cv5 at this;simp only [Ax] at this;exact this.1.1.1
theorem ZOk.single {z:Zone} (h:ZOk z) (n:List UInt8) (t:Int) (ht:t=6∨t=5∨t=39):(findR z.recs n t).length≤1:=by
 have hp:(findR z.recs n t).Pairwise ltR:=h.rising.filter _;have hm:∀x∈findR z.recs n t,x∈z.recs∧x.name=n∧x.typ=t:=fun x hx=>by obtain ⟨h1,h2⟩:=Dk.1 hx;simp only [isK,Ax,decide_eq_true_eq] at h2;exact ⟨h1,h2.1,h2.2⟩
 generalize findR z.recs n t=l at*
 match l,hp,hm with
 |[],_,_=>simp
 |[_],_,_=>simp
 |a::b::r,hp,hm=>
  exfalso;have hab:ltR a b:=(Bh.1 hp).1 b (.head _);obtain ⟨a1,a2,a3⟩:=hm a (.head _);obtain ⟨b1,b2,b3⟩:=hm b (.tail _ (.head _));have hb:=h.beside a1 b1;have e:b=a:=by
   unfold Q4 at hb;rw [a2,a3,b2,b3] at hb;have ht':(decide (t=6)||decide (t=5)||decide (t=39))=true:=by rcases ht with h|h|h<;>simp [h]
   rw [ht'] at hb;simp only [decide_true,Uk,Bool.false_or,K1,Bool.true_and,Ax,B9,decide_eq_false_iff_not,ne_eq,Classical.not_not] at hb;exact hb.1.2
  rw [e] at hab;exact Fy7.irr _ hab
end Go.X.G
/- The order of any records; what is sorted stably and made compact is what the reference sorts. -/
namespace Go.X.G
open Go Go.X
def Cf7 (t:Int) (d:Dat):Int×List UInt8:=if Dn t d=true then (0,Iq t d) else (1,[])
abbrev ltD:Int×List UInt8→Int×List UInt8→Prop:=fun p q=>p.1<q.1∨(p.1=q.1∧ltB p.2 q.2)
theorem Fy8:TO ltD:=Eq8.prod An8
theorem Al4 (t:Int) (a b:Dat):Cg3 t a b<0↔ltD (Cf7 t a) (Cf7 t b):=by unfold Cg3 Cf7 ltD;rcases Ad (Dn t a) with h1|h1<;>rcases Ad (Dn t b) with h2|h2<;>simp [h1,h2,Q0,An8.irr]
theorem pg (t:Int) (a b:Dat):Cg3 t a b=0↔Cf7 t a=Cf7 t b:=by unfold Cg3 Cf7;rcases Ad (Dn t a) with h1|h1<;>rcases Ad (Dn t b) with h2|h2<;>simp [h1,h2,Hf]
abbrev Eq3:=List UInt8×Int×Int×List UInt8
abbrev ltF:Eq3→Eq3→Prop:=fun p q=>ltN p.1 q.1∨(p.1=q.1∧(p.2.1<q.2.1∨(p.2.1=q.2.1∧ltD p.2.2 q.2.2)))
theorem to_F:TO ltF:=y7.prod (Eq8.prod Fy8)
def Ey (r:Rec):Eq3:=(r.name,r.typ,Cf7 r.typ r.data)
theorem Q2 (a b:Rec):Uw a b<0↔ltF (Ey a) (Ey b):=by
 unfold Uw ltF Ey;simp only;by_cases h1:Nt a.name b.name=0
 ·rw [if_neg (by simp [h1])];have e1:=Kr.1 h1;have n1:¬ltN a.name b.name:=by rw [e1];exact y7.irr _
  by_cases h2:dm a.typ b.typ=0
  ·rw [if_neg (by simp [h2])];have e2:=(Ks _ _).1 h2;rw [e2,Al4];constructor
   ·intro h;exact .inr ⟨e1, .inr ⟨rfl,h⟩⟩
   ·rintro (h|⟨_,h|⟨_,h⟩⟩)
    ·exact absurd h n1
    ·omega
    ·exact h
  ·rw [if_pos h2,Yv];have e2:a.typ≠b.typ:=fun e=>h2 ((Ks _ _).2 e);constructor
   ·intro h;exact .inr ⟨e1, .inl h⟩
   ·rintro (h|⟨_,h|⟨h,_⟩⟩)
    ·exact absurd h n1
    ·exact h
    ·exact absurd h e2
 ·rw [if_pos h1,Yq];have e1:a.name≠b.name:=fun e=>h1 (Kr.2 e);constructor
  ·intro h;exact .inl h
  ·rintro (h|⟨h,_⟩)
   ·exact h
   ·exact absurd h e1
theorem Jy (a b:Rec):Uw a b=0↔Ey a=Ey b:=by
 unfold Uw Ey;by_cases h1:Nt a.name b.name=0
 ·rw [if_neg (by simp [h1])];have e1:=Kr.1 h1;by_cases h2:dm a.typ b.typ=0
  ·rw [if_neg (by simp [h2])];have e2:=(Ks _ _).1 h2;rw [e2,pg];simp [e1]
  ·rw [if_pos h2];have e2:a.typ≠b.typ:=fun e=>h2 ((Ks _ _).2 e);constructor
   ·intro h;exact absurd h h2
   ·intro h;injection h with _ h;injection h with h _;exact absurd h e2
 ·rw [if_pos h1];have e1:a.name≠b.name:=fun e=>h1 (Kr.2 e);constructor
  ·intro h;exact absurd h h1
  ·intro h;injection h with h _;exact absurd h e1
def Cg2 (a b:Rec):Int:=if Uw a b≠0 then Uw a b else dm a.ttl b.ttl
abbrev ltT:Eq3×Int→Eq3×Int→Prop:=fun p q=>ltF p.1 q.1∨(p.1=q.1∧p.2<q.2)
theorem to_T:TO ltT:=to_F.prod Eq8
theorem Al3 (a b:Rec):Cg2 a b<0↔ltT (Ey a,a.ttl) (Ey b,b.ttl):=by
 unfold Cg2;by_cases h:Uw a b=0
 ·have e:=(Jy a b).1 h;rw [if_neg (by simp [h]),Yv];simp only [ltT,e,true_and];exact ⟨.inr,fun q=>q.resolve_left (to_F.irr _)⟩
 ·rw [if_pos h,Q2];have e:Ey a≠Ey b:=fun e=>h ((Jy a b).2 e);simp only [ltT,e,false_and,or_false]
def leR (a b:Rec):Bool:= !decide (Cg2 b a<0)
theorem Jt (a b:Rec):leR a b=true↔¬ltT (Ey b,b.ttl) (Ey a,a.ttl):=by unfold leR;simp [←Al3]
theorem Eb0:TP leR where
 tr:=fun a b c h1 h2=>by rw [Jt] at*;exact to_T.ntr h2 h1
 tot:=fun a b=>by
  simp only [Jt];rcases to_T.tri (Ey a,a.ttl) (Ey b,b.ttl) with h|h|h
  ·exact .inl (to_T.asym h)
  ·rw [h];exact .inl (to_T.irr _)
  ·exact .inr (to_T.asym h)
theorem o7 (a b:Rec):eqv leR a b=true↔Ey a=Ey b∧a.ttl=b.ttl:=by
 unfold eqv;rw [Ax,Jt,Jt];constructor
 ·rintro ⟨h1,h2⟩;rcases to_T.tri (Ey a,a.ttl) (Ey b,b.ttl) with h|h|h
  ·exact absurd h h2
  ·injection h with h3 h4;exact ⟨h3,h4⟩
  ·exact absurd h h1
 ·rintro ⟨h1,h2⟩;rw [h1,h2];exact ⟨to_T.irr _,to_T.irr _⟩
theorem P3 {α:Type} {P:List α→Prop} (h0:P []) (h1:∀l x,P l→P (l++[x])):∀(n:Nat) (l:List α),l.length=n→P l
 |0,l,h=>by rw [Bj h];exact h0
 |n+1,l,h=>by
  have hne:l≠[]:=fun e=>by rw [e] at h;simp at h
  rw [←Hv hne];exact h1 _ _ (P3 h0 h1 n _ (by rw [List.length_dropLast];omega))
def Bs9 (l:List Rec) (z:Rec):Prop:=∃l1 l2,l=l1++z::l2∧(∀y∈l1,Ey y=Ey z→z.ttl<y.ttl)∧∀y∈l2,Ey y=Ey z→z.ttl≤y.ttl
theorem Bs9.mem {l:List Rec} {z:Rec} (h:Bs9 l z):z∈l:=by obtain ⟨l1,l2,rfl,_⟩:=h;simp
theorem Gn (l:List Rec) (x z:Rec):Bs9 (l++[x]) z↔(z=x∧∀y∈l,Ey y=Ey x→x.ttl<y.ttl)∨(Bs9 l z∧(Ey z=Ey x→z.ttl≤x.ttl)):=by
 constructor
 ·rintro ⟨l1,l2,h,h1,h2⟩;rcases List.eq_nil_or_concat l2 with rfl|⟨l3,w,rfl⟩
  ·obtain ⟨q1,q2⟩:=List.append_inj' h rfl;injection q2 with q2 _;subst q1;subst q2;exact .inl ⟨rfl,h1⟩
  ·rw [List.concat_eq_append,←Bt,←Ap] at h;obtain ⟨q1,q2⟩:=List.append_inj' h rfl;injection q2 with q2 _;subst q1;subst q2;refine .inr ⟨⟨l1,l3,rfl,h1,fun y hy=>h2 y (by simp [hy])⟩,fun e=>h2 x (by simp) e.symm⟩
 ·rintro (⟨rfl,h⟩|⟨⟨l1,l2,rfl,h1,h2⟩,h⟩)
  ·exact ⟨l,[],rfl,h,fun y hy=>by simp at hy⟩
  ·refine ⟨l1,l2++[x],by simp,h1,fun y hy e=> ?_⟩;rcases Bw.1 hy with hy|hy
   ·exact h2 y hy e
   ·have:y=x:=by simpa using hy
    subst this;exact h e.symm
theorem Cl9 (l:List Rec):∀y∈l,∃z,Bs9 l z∧Ey z=Ey y∧z.ttl≤y.ttl:=by
 refine P3 (P:=fun l=>∀y∈l,∃z,Bs9 l z∧Ey z=Ey y∧z.ttl≤y.ttl) ?_ ?_ _ l rfl
 ·intro y h;simp at h
 ·intro l x ih y hy;by_cases hx:∀w∈l,Ey w=Ey x→x.ttl<w.ttl
  ·rcases Bw.1 hy with hy|hy
   ·obtain ⟨z,h1,h2,h3⟩:=ih y hy;by_cases e:Ey z=Ey x∧x.ttl<z.ttl
    ·exact ⟨x,(Gn l x x).2 (.inl ⟨rfl,hx⟩),by rw [←e.1,h2],by have:=e.2;omega⟩
    ·exact ⟨z,(Gn l x z).2 (.inr ⟨h1,fun q=>Int.le_of_not_gt fun r=>e ⟨q,r⟩⟩),h2,h3⟩
   ·have:y=x:=by simpa using hy
    subst this;exact ⟨y,(Gn l y y).2 (.inl ⟨rfl,hx⟩),rfl,Oz _⟩
  ·have:∃w∈l,Ey w=Ey x∧w.ttl≤x.ttl:=by apply Classical.byContradiction;intro h;exact hx fun w hw e=>Int.lt_of_not_ge fun q=>h ⟨w,hw,e,q⟩
   obtain ⟨w,hw,hw1,hw2⟩:=this;obtain ⟨z,h1,h2,h3⟩:=ih w hw;rcases Bw.1 hy with hy|hy
   ·obtain ⟨z',g1,g2,g3⟩:=ih y hy;by_cases e:Ey z'=Ey x∧x.ttl<z'.ttl
    ·exact ⟨z,(Gn l x z).2 (.inr ⟨h1,fun _=>by omega⟩),by rw [h2,hw1,←e.1,g2],by have:=e.2;omega⟩
    ·exact ⟨z',(Gn l x z').2 (.inr ⟨g1,fun q=>Int.le_of_not_gt fun r=>e ⟨q,r⟩⟩),g2,g3⟩
   ·have:y=x:=by simpa using hy
    subst this;exact ⟨z,(Gn l y z).2 (.inr ⟨h1,fun _=>by omega⟩),by rw [h2,hw1],by omega⟩
abbrev gv (l:List Rec):Prop:=l.Pairwise fun a b=>ltF (Ey a) (Ey b)
theorem ot (x:Rec):∀(l:List Rec),gv l→(gv (dz x l)∧∀z,z∈dz x l↔(z=x∧∀y∈l,Ey y=Ey x→x.ttl<y.ttl)∨(z∈l∧(Ey z=Ey x→z.ttl≤x.ttl)))
 |[],_=>by simp [dz]
 |y::r,h=>by
  obtain ⟨h1,h2⟩:=Bh.1 h;obtain ⟨i1,i2⟩:=ot x r h2;simp only [dz];by_cases c:Uw y x<0
  ·rw [if_pos c];have c':=(Q2 y x).1 c;have ne:Ey y≠Ey x:=fun e=>to_F.irr _ (by rw [e] at c';exact c');refine ⟨Bh.2 ⟨fun w hw=> ?_,i1⟩,fun z=> ?_⟩
   ·rcases (i2 w).1 hw with ⟨rfl,_⟩|⟨hw,_⟩
    ·exact c'
    ·exact h1 w hw
   ·rw [A7,i2];simp only [A7,forall_eq_or_imp,ne,false_implies,true_and];constructor
    ·rintro (rfl|h|⟨h,h'⟩)
     ·exact .inr ⟨.inl rfl,fun e=>absurd e ne⟩
     ·exact .inl h
     ·exact .inr ⟨.inr h,h'⟩
    ·rintro (h|⟨rfl|h,h'⟩)
     ·exact .inr (.inl h)
     ·exact .inl rfl
     ·exact .inr (.inr ⟨h,h'⟩)
  ·rw [if_neg c];by_cases e:Uw y x=0
   ·have ke:=(Jy y x).1 e;have hr:∀w∈r,Ey w≠Ey x:=fun w hw q=>to_F.irr (Ey y) (by have:=h1 w hw;rw [q,←ke] at this;exact this);rw [if_pos e];by_cases t:x.ttl<y.ttl
    ·rw [if_pos t];refine ⟨Bh.2 ⟨fun w hw=>by rw [←ke];exact h1 w hw,h2⟩,fun z=> ?_⟩;simp only [A7,forall_eq_or_imp,ke,t,true_implies,true_and];constructor
     ·rintro (rfl|h)
      ·exact .inl ⟨rfl,fun w hw q=>absurd q (hr w hw)⟩
      ·exact .inr ⟨.inr h,fun q=>absurd q (hr z h)⟩
     ·rintro (⟨h,_⟩|⟨rfl|h,h'⟩)
      ·exact .inl h
      ·have:=h' ke;omega
      ·exact .inr h
    ·rw [if_neg t];refine ⟨h,fun z=> ?_⟩;simp only [A7,forall_eq_or_imp,ke,t,false_and,and_false,false_or,forall_const,true_implies];constructor
     ·rintro (rfl|h)
      ·exact ⟨.inl rfl,fun _=>by omega⟩
      ·exact ⟨.inr h,fun q=>absurd q (hr z h)⟩
     ·exact fun h=>h.1
   ·rw [if_neg e];have hxy:ltF (Ey x) (Ey y):=by
     rcases to_F.tri (Ey x) (Ey y) with q|q|q
     ·exact q
     ·exact absurd ((Jy y x).2 q.symm) e
     ·exact absurd ((Q2 y x).2 q) c
    have hall:∀w∈y::r,ltF (Ey x) (Ey w):=fun w hw=>by
     rcases A7.1 hw with rfl|hw
     ·exact hxy
     ·exact to_F.tr _ _ _ hxy (h1 w hw)
    have hne:∀w∈y::r,Ey w≠Ey x:=fun w hw q=>to_F.irr _ (by have:=hall w hw;rw [q] at this;exact this);refine ⟨Bh.2 ⟨hall,h⟩,fun z=> ?_⟩;rw [A7];constructor
    ·rintro (rfl|h)
     ·exact .inl ⟨rfl,fun w hw q=>absurd q (hne w hw)⟩
     ·exact .inr ⟨h,fun q=>absurd q (hne z h)⟩
    ·rintro (⟨h,_⟩|⟨h,_⟩)
     ·exact .inl h
     ·exact .inr h
theorem Of (l:List Rec):gv (sortR l)∧∀z,z∈sortR l↔Bs9 l z:=by
 refine P3 (P:=fun l=>gv (sortR l)∧∀z,z∈sortR l↔Bs9 l z) ?_ ?_ _ l rfl
 ·refine ⟨List.Pairwise.nil,fun z=>⟨fun h=>by simp [sortR] at h,fun h=>by have:=h.mem;simp at this⟩⟩
 ·intro l x ih;have e:sortR (l++[x])=dz x (sortR l):=by simp [sortR]
  obtain ⟨i1,i2⟩:=ot x (sortR l) ih.1;rw [e];refine ⟨i1,fun z=> ?_⟩;rw [i2,Gn,ih.2];have:(∀y∈sortR l,Ey y=Ey x→x.ttl<y.ttl)↔∀y∈l,Ey y=Ey x→x.ttl<y.ttl:=by
   constructor
   ·intro h y hy q;obtain ⟨w,w1,w2,w3⟩:=Cl9 l y hy;have:=h w ((ih.2 w).2 w1) (by rw [w2,q]);omega
   ·intro h y hy q;exact h y ((ih.2 y).1 hy).mem q
  rw [this]
theorem gq:∀(a b:List Rec),gv a→gv b→(∀x,x∈a↔x∈b)→a=b
 |[],[],_,_,_=>rfl
 |[],y::b,_,_,h=>absurd ((h y).2 (.head _)) (by simp)
 |x::a,[],_,_,h=>absurd ((h x).1 (.head _)) (by simp)
 |x::a,y::b,ha,hb,h=>by
  have ha':=Bh.1 ha;have hb':=Bh.1 hb;have hxy:x=y:=by
   rcases A7.1 ((h x).1 (.head _)) with h1|h1
   ·exact h1
   ·rcases A7.1 ((h y).2 (.head _)) with h2|h2
    ·exact h2.symm
    ·exact absurd (hb'.1 x h1) (to_F.asym (ha'.1 y h2))
  subst hxy;rw [gq a b ha'.2 hb'.2 fun z=> ?_];constructor
  ·intro hz;rcases A7.1 ((h z).1 (.tail _ hz)) with rfl|h1
   ·exact absurd (ha'.1 z hz) (to_F.irr _)
   ·exact h1
  ·intro hz;rcases A7.1 ((h z).2 (.tail _ hz)) with rfl|h1
   ·exact absurd (hb'.1 z hz) (to_F.irr _)
   ·exact h1
abbrev eqF:Rec→Rec→Bool:=fun a b=>decide (Uw a b=0)
theorem At9:∀(r:List Rec) (p:Rec),(p::r).Pairwise (fun a b=>leR a b=true)→(gv (p::Uv eqF p r)∧∀z,z∈Uv eqF p r↔∃s1 s2,r=s1++z::s2∧∀y∈p::s1,Ey y≠Ey z)
 |[],p,_=>by simp [Uv]
 |c::r,p,h=>by
  obtain ⟨h1,h2⟩:=Bh.1 h;obtain ⟨i1,i2⟩:=At9 r c h2;have hpc:=(Jt p c).1 (h1 c (.head _));simp only [Uv];by_cases e:Uw c p=0
  ·rw [if_pos (by simp [e])];have ke:=(Jy c p).1 e;refine ⟨?_,fun z=> ?_⟩
   ·obtain ⟨j1,j2⟩:=Bh.1 i1;exact Bh.2 ⟨fun w hw=>by rw [←ke];exact j1 w hw,j2⟩
   ·rw [i2];constructor
    ·rintro ⟨s1,s2,rfl,q⟩;refine ⟨c::s1,s2,rfl,fun y hy=> ?_⟩;rcases A7.1 hy with rfl|hy
     ·rw [←ke];exact q c (.head _)
     ·exact q y hy
    ·rintro ⟨s1,s2,h,q⟩;cases s1 with
     |nil=>
      injection h with h _;subst h;exact absurd ke.symm (q p (.head _))
     |cons w s1=>
      injection h with h h';subst h;exact ⟨s1,s2,h',fun y hy=>q y (.tail _ hy)⟩
  ·rw [if_neg (by simp [e])];have ne:Ey c≠Ey p:=fun q=>e ((Jy c p).2 q);have hlt:ltF (Ey p) (Ey c):=by
    rcases to_F.tri (Ey p) (Ey c) with q|q|q
    ·exact q
    ·exact absurd q.symm ne
    ·exact absurd (.inl q) hpc
   obtain ⟨j1,j2⟩:=Bh.1 i1;refine ⟨Bh.2 ⟨fun w hw=> ?_,i1⟩,fun z=> ?_⟩
   ·rcases A7.1 hw with rfl|hw
    ·exact hlt
    ·exact to_F.tr _ _ _ hlt (j1 w hw)
   ·rw [A7];constructor
    ·rintro (rfl|hz)
     ·exact ⟨[],r,rfl,fun y hy=>by have:y=p:=by simpa using hy
                                   subst this;exact ne.symm⟩
     ·obtain ⟨s1,s2,rfl,q⟩:=(i2 z).1 hz;refine ⟨c::s1,s2,rfl,fun y hy=> ?_⟩;rcases A7.1 hy with rfl|hy
      ·intro q2;exact to_F.irr _ (by have:=to_F.tr _ _ _ hlt (j1 z hz);rw [q2] at this;exact this)
      ·exact q y hy
    ·rintro ⟨s1,s2,h,q⟩;cases s1 with
     |nil=>injection h with h _;exact .inl h.symm
     |cons w s1=>
      injection h with h h';subst h;exact .inr ((i2 z).2 ⟨s1,s2,h',fun y hy=>q y (.tail _ hy)⟩)
theorem Fx2 (s:List Rec) (h:s.Pairwise fun a b=>leR a b=true):gv (cpt eqF s)∧∀z,z∈cpt eqF s↔∃s1 s2,s=s1++z::s2∧∀y∈s1,Ey y≠Ey z:=by
 cases s with
 |nil=>simp [cpt]
 |cons p r=>
  obtain ⟨i1,i2⟩:=At9 r p h;refine ⟨i1,fun z=> ?_⟩;show z∈p::Uv eqF p r↔_;rw [A7,i2];constructor
  ·rintro (rfl|⟨s1,s2,rfl,q⟩)
   ·exact ⟨[],r,rfl,by simp⟩
   ·exact ⟨p::s1,s2,rfl,q⟩
  ·rintro ⟨s1,s2,h,q⟩;cases s1 with
   |nil=>injection h with h _;exact .inl h.symm
   |cons w s1=>
    injection h with h h';subst h;exact .inr ⟨s1,s2,h',q⟩
theorem Av9 {s l:List Rec} (h:Stab leR s l):cpt eqF s=sortR l:=by
 obtain ⟨i1,i2⟩:=Fx2 s h.sorted;obtain ⟨j1,j2⟩:=Of l;refine gq _ _ i1 j1 fun z=> ?_;rw [i2,j2];have hz:eqv leR z z=true:=(o7 z z).2 ⟨rfl,rfl⟩;have hm:=h.mem Eb0;constructor
 ·rintro ⟨s1,s2,rfl,q⟩;have hs1:s1.filter (eqv leR z)=[]:=by rw [Pg];intro y hy hyz;exact q y hy ((o7 z y).1 hyz).1.symm
  have hc:=h.cls z;rw [Gk,hs1,C1,D5 hz] at hc;obtain ⟨l1,l2,rfl,g1,_,_⟩:=List.filter_eq_cons_iff.1 hc.symm;have key:∀y,y∈l1++z::l2→Ey y=Ey z→z.ttl≤y.ttl:=fun y hy e=>by
   rcases Bw.1 ((hm y).2 hy) with w|w
   ·exact absurd e (q y w)
   ·rcases A7.1 w with rfl|w
    ·exact Oz _
    ·have:=(Jt z y).1 ((Bh.1 (C0.1 h.sorted).2.1).1 y w);exact Int.le_of_not_gt fun t=>this (.inr ⟨e,t⟩)
  refine ⟨l1,l2,rfl,fun y hy e=> ?_,fun y hy e=>key y (by simp [hy]) e⟩;have k1:=key y (by simp [hy]) e;have k2:=g1 y hy;rw [o7] at k2;have:z.ttl≠y.ttl:=fun t=>k2 ⟨e.symm,t⟩;omega
 ·rintro ⟨l1,l2,rfl,q1,q2⟩;have hl1:l1.filter (eqv leR z)=[]:=by rw [Pg];intro y hy hyz;obtain ⟨a,b⟩:=(o7 z y).1 hyz;have:=q1 y hy a.symm;omega
  have hc:=h.cls z;rw [Gk,hl1,C1,D5 hz] at hc;obtain ⟨s1,s2,rfl,g1,_,_⟩:=List.filter_eq_cons_iff.1 hc;refine ⟨s1,s2,rfl,fun y hy e=> ?_⟩;have k1:=(Jt y z).1 ((C0.1 h.sorted).2.2 y hy z (by simp));have k2:¬z.ttl<y.ttl:=fun t=>k1 (.inr ⟨e.symm,t⟩);have k3:z.ttl≤y.ttl:=by
   rcases Bw.1 ((hm y).1 (by simp [hy])) with w|w
   ·have:=q1 y w e;omega
   ·rcases A7.1 w with rfl|w
    ·exact Oz _
    ·exact q2 y w e
  exact g1 y hy ((o7 z y).2 ⟨e.symm,by omega⟩)
end Go.X.G
/- Valid data are known by their bytes; records that are alike. -/
namespace Go.X.G
open Go Go.X
end Go.X.G
