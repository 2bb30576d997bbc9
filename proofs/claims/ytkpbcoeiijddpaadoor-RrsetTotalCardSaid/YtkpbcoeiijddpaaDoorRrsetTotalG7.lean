/- Names: what the reference's functions give. -/
import Derived.Test.YtkpbcoeiijddpaaDoorRrsetTotalG5
import Derived.Test.YtkpbcoeiijddpaaDoorRrsetTotalG6
open Bool renaming and_eq_true→Aw,false_eq_true→Az,eq_false_or_eq_true→Ac,or_eq_true→Al,not_eq_true'→Bm,eq_iff_iff→F9,and_true→Jg,not_true→Sq
open Int renaming toNat_natCast→Eg,eq_ofNat_of_zero_le→Lw
open List renaming getElem?_eq_getElem→Ab,length_append→An,getElem?_take→As,append_assoc→A2,getD_eq_getElem?_getD→A5,getElem?_map→A7,getElem?_range→Bj,length_take→Bz,length_cons→B1,all_eq_true→B2,mem_cons→Cp,length_pos_iff→C0,mem_of_getElem?→C6,mem_filter→D9,flatMap_cons→Ef,take_length→Fq,cons_append→G5,drop_eq_getElem_cons→Iy,length_range→Ih,filter_cons_of_pos→Lv,drop_eq_nil_of_le→N4,nil_append→P5
open Nat renaming le_refl→Ag,mod_eq_of_lt→B7,zero_le→Ch
open Option renaming map_eq_some_iff→Aq,map_some→Ap
set_option maxHeartbeats 1000000
set_option linter.unusedVariables false
set_option linter.unusedSimpArgs false
namespace Go.X.G
open Go Go.X
def O8 (c:UInt8):Bool:=decide (97≤(c.toNat:Int)) && decide ((c.toNat:Int)≤122)||decide (48≤(c.toNat:Int)) && decide ((c.toNat:Int)≤57)||decide ((c.toNat:Int)=45)||decide ((c.toNat:Int)=95)
def Hd (s:List UInt8):Bool:=decide (s=[42])||(decide (1≤s.length) && decide (s.length≤63) && s.all O8)
end Go.X.G
/- Names: what the reference's functions give. -/
namespace Go.X.G
open Go Go.X
def spl (first:Bool) (cur:List UInt8):List UInt8→Option (List (List UInt8))
 |[]=>some []
 |c::r=>if c=46 then (if Hd cur=true∧(cur=[42]→first=true) then (spl false [] r).map (cur::·) else none) else spl first (cur++[c]) r
def nm (n:List UInt8):Option (List (List UInt8)):=
 if n=[46] then some [] else if 2≤n.length∧n.length≤254∧n[n.length - 1]? =some 46 then spl true [] n else none
def lbl (n:List UInt8):List (List UInt8):=(nm n).getD []
def vld (n:List UInt8):Bool:=(nm n).isSome
end Go.X.G
/- Names: what the reference's functions give, ctd. -/
namespace Go.X.G
open Go Go.X
theorem Sr:∀(r:List UInt8) (f:Bool) (cur:List UInt8) (l:List (List UInt8)),spl f cur r=some l→l.length≤r.length
 |[],f,cur,l,h=>by simp [spl] at h;simp [←h]
 |c::r,f,cur,l,h=>by
  simp only [spl] at h;split at h
  ·split at h
   ·obtain ⟨m,hm,rfl⟩:=Aq.1 h;have:=Sr r _ _ _ hm;simp;omega
   ·cases h
  ·have:=Sr r _ _ _ h;simp;omega
theorem Br3 {n:List UInt8} {l:List (List UInt8)} (h:nm n=some l):l.length≤254:=by
 unfold nm at h;split at h
 ·injection h with h;subst h;simp
 ·split at h
  ·rename_i h2;have:=Sr _ _ _ _ h;omega
  ·cases h
theorem O9 (n:List UInt8):(lbl n).length≤254:=by
 unfold lbl;cases h:nm n with
 |none=>simp
 |some l=>exact Br3 h
def oh {α:Type} [DecidableEq α]:List α→List α→Nat
 |x::xs,y::ys=>if x=y then oh xs ys+1 else 0
 |_,_=>0
def bl (a b:List (List UInt8)):Nat:=oh a.reverse b.reverse
def under (n top:List UInt8):Bool:=vld n && vld top && decide (bl (lbl n) (lbl top)=(lbl top).length)
def cmpS (a b:List UInt8):Int:=if Op.bytesLess a b then -1 else if a=b then 0 else 1
def Kg (a b:List UInt8):Int:=
 if vld a && vld b then
  let k:=bl (lbl a) (lbl b)
  if k<(lbl a).length∧k<(lbl b).length then cmpS ((lbl a).getD ((lbl a).length - 1 - k) []) ((lbl b).getD ((lbl b).length - 1 - k) [])
  else if (lbl a).length<(lbl b).length then -1 else if (lbl b).length<(lbl a).length then 1 else 0
 else if vld a then -1 else if vld b then 1 else cmpS a b
end Go.X.G
/- The library's functions on strings. -/
namespace Go.X.G
open Go Go.X
theorem Bq2 (x:List UInt8) (c:UInt8):S ug 2 [.s x, .i .u8 (c.toNat:Int)]=some [.i .i64 (x.count c:Int)]:=
 Dx3 (args:=[.s x, .i .u8 (c.toNat:Int)]) (by simp [XK.run,Wb,Lib.countByte])
theorem At5 (x:List UInt8) (c:UInt8):S uz 2 [.s x, .i .u8 (c.toNat:Int)]=some [.i .i64 (Lib.indexByte x c)]:=
 Dw9 (args:=[.s x, .i .u8 (c.toNat:Int)]) (by simp [XK.run,Wb])
theorem Bq3 (x y:List UInt8):S um 2 [.s x, .s y]=some [.i .i64 (Lib.compareBytes x y)]:=
 Dx6 (args:=[.s x, .s y]) (by simp [XK.run,sn])
theorem Pm (x:List UInt8) (c:UInt8):S eg 2 [.s x, .i .u8 (c.toNat:Int)]=some [.i .i64 (Lib.indexByte x c)]:=by refine Dx0 (N:=1) rfl ?_;simp (disch:=omega) only [Dk9,At5,xe,EVP,EV,simprocAttr]
theorem Ix (c:UInt8):∀(x:List UInt8),c∉x→Lib.indexByte x c= -1
 |[],_=>rfl
 |b::l,h=>by have h1:b≠c:=fun e=>h (by simp [e]);have h2:=Ix c l (fun e=>h (by simp [e]));simp [Lib.indexByte,h1,h2]
theorem Iw (c:UInt8) (post:List UInt8):∀(pre:List UInt8),c∉pre→Lib.indexByte (pre++c::post) c=(pre.length:Int)
 |[],_=>by simp [Lib.indexByte]
 |b::l,h=>by
  have h1:b≠c:=fun e=>h (by simp [e]);have h2:=Iw c post l (fun e=>h (by simp [e]));simp only [G5,Lib.indexByte,h2];simp [h1]
  try omega
theorem dot_split (c:UInt8):∀(s:List UInt8),c∉s∨∃pre post,s=pre++c::post∧c∉pre
 |[]=> .inl (by simp)
 |b::l=>by
  by_cases h:b=c
  ·exact .inr ⟨[],l,by simp [h],by simp⟩
  ·rcases dot_split c l with h1|⟨pre,post,rfl,h2⟩
   ·exact .inl (by simp [h1,Ne.symm h])
   ·exact .inr ⟨b::pre,post,by simp,by simp [h2,Ne.symm h]⟩
def pcs (cur:List UInt8):List UInt8→List (List UInt8)
 |[]=>[cur]
 |c::r=>if c=46 then cur::pcs [] r else pcs (cur++[c]) r
def cut (s:List UInt8):List (List UInt8):=pcs [] s
theorem d7 (post:List UInt8):∀(pre cur:List UInt8),(46:UInt8)∉pre→pcs cur (pre++46::post)=(cur++pre)::pcs [] post
 |[],cur,_=>by simp [pcs]
 |b::l,cur,h=>by have h1:b≠46:=fun e=>h (by simp [e]);have h2:=d7 post l (cur++[b]) (fun e=>h (by simp [e]));simp [pcs,h1,h2]
theorem Og:∀(s cur:List UInt8),(46:UInt8)∉s→pcs cur s=[cur++s]
 |[],cur,_=>by simp [pcs]
 |b::l,cur,h=>by have h1:b≠46:=fun e=>h (by simp [e]);have h2:=Og l (cur++[b]) (fun e=>h (by simp [e]));simp [pcs,h1,h2]
theorem iw (s:List UInt8):(cut s).length=s.count 46+1:=by
 have:∀(s cur:List UInt8),(pcs cur s).length=s.count 46+1:=by
  intro s
  induction s with
  |nil=>intro cur;rfl
  |cons c r ih=>
   intro cur;by_cases h:c=46<;>simp [pcs,h,ih]
 exact this s []
theorem Zs (s:List UInt8) (hs:s.length≤9223372036854775807):S et 2 [.s s, .s [46]]=some [.i .i64 (Lib.indexByte s 46)]:=by
 refine Dx2 (N:=1) rfl ?_;have h1:=Pm s 46;have e:(((46:UInt8).toNat:Nat):Int)=46:=rfl;rw [e] at h1;by_cases h:[46]=s
 ·subst h;simp (disch:=omega) only [Bb8,xe,EVP,EV,simprocAttr];rfl
 ·simp (disch:=omega) only [Bb8,h,h1,e,xe,EVP,EV,simprocAttr]
theorem R9 (s:List UInt8) (hs:s.length≤9223372036854775807):S Ym 2 [.s s, .s [46]]=some [.i .i64 (Lib.indexByte s 46)]:=by refine Dx8 (N:=1) rfl ?_;simp (disch:=omega) only [Dq0,Zs,xe,EVP,EV,simprocAttr]
theorem ow (s:List UInt8):S fw 2 [.s s, .s [46]]=some [.i .i64 (s.count 46:Int)]:=by refine Dx9 (N:=1) rfl ?_;have h1:=Bq2 s 46;have e:(((46:UInt8).toNat:Nat):Int)=46:=rfl;rw [e] at h1;simp (disch:=omega) only [Dq1,h1,e,xe,EVP,EV,simprocAttr]
def gp (done rest:List (List UInt8)):Out:=
 .yld 0 [.s ((done++rest).getLastD []),Cn ((done++rest).dropLast++[[]]), .i .i64 (((done++rest).length:Int) - 1)]
theorem Tn (s:List UInt8) (N:Nat) (hN:s.length<N) (hs:s.length≤1000000) (p q:PV):
  gk.ev S N [.s s, .s [46], .i .i64 0,p, .i .i64 ((s.count 46:Int)+1)]=some (gp [] (cut s)):=by
 have hc0:s.count 46≤s.length:=List.count_le_length;have key:=I7 (fn:=S) (N:=N) (η:=[.s s, .s [46], .i .i64 0,p, .i .i64 ((s.count 46:Int)+1)]) (id:=1) (init:=[(.v 0),(.rep 1 (.mn (.v 4) (.bin .add (.slen (.v 0)) (.c (.i .i64 (1))))) (.c (.s []))),(.c (.i .i64 (0)))]) (body:=ng) (α:=List (List UInt8)×List UInt8)
  (fun a=>[.s a.2,Cn (a.1++List.replicate (a.2.count 46+1) []), .i .i64 (a.1.length:Int)]) (fun a=>gp a.1 (cut a.2)) (fun a=>a.1.length+a.2.count 46=s.count 46∧a.2.length≤s.length) (fun a=>a.2.length) ([],s) ?_ ⟨by simp,Ag _⟩ hN ?_
 ·simpa [gk] using key
 ·have e:((s.count 46:Int)+1).toNat=s.count 46+1:=by omega
  simp (disch:=omega) only [e,xe,EVP,EV,simprocAttr]
 ·rintro ⟨done,rest⟩ ⟨h1,h2⟩;simp only at h1 h2 ⊢;rcases dot_split 46 rest with h|⟨pre,post,rfl,h⟩
  ·right;have c0:rest.count 46=0:=List.count_eq_zero.2 h;have i0:=Ix 46 rest h;have cu:cut rest=[rest]:=by simpa [cut] using Og rest [] h
   refine ⟨?_,rfl⟩;rw [c0];rw [c0] at h1;simp (disch:=omega) only [Ag3,R9,i0,xe,EVP,EV,simprocAttr];simp [gp,cu,List.getLastD_eq_getLast?]
  ·left;have c0:(pre++46::post).count 46=post.count 46+1:=by rw [List.count_append,List.count_eq_zero.2 h];simp
   have i0:=Iw 46 post pre h;have cu:cut (pre++46::post)=pre::cut post:=by simpa [cut] using d7 post pre [] h
   have hl:(pre++46::post).length=pre.length+post.length+1:=by simp;omega
   have sl1:List.drop (0:Int).toNat (List.take ((pre.length:Int)+0).toNat (pre++46::post))=pre:=by simp
   have sl2:List.drop ((pre.length:Int)+1).toNat (List.take (pre++46::post).length (pre++46::post))=post:=by
    have:((pre.length:Int)+1).toNat=pre.length+1:=by omega
    rw [this,Fq,List.drop_append];simp
   have sl3:(done++[]::[]::List.replicate (post.count 46) ([]:List UInt8)).length=done.length+post.count 46+2:=by simp;omega
   refine ⟨(done++[pre],post),?_,⟨by simp;omega,by simp only;omega⟩,by simp;omega,by simp [gp,cu]⟩;rw [c0];rw [c0] at h1;simp (disch:=omega) only [Ag3,R9,i0,sl1,sl2,xe,EVP,EV,simprocAttr];simp [List.replicate_succ,List.set_append]
theorem Tm (s:List UInt8) (hs:s.length≤1000000):S fc 4 [.s s, .s [46], .i .i64 0, .i .i64 (-1)]=some [Cn (cut s)]:=by
 refine Dy7 (N:=s.length+1) rfl ?_;have h1:=iw s;have h2:s.count 46≤s.length:=List.count_le_length;obtain ⟨l,x,hx⟩:∃l x,cut s=l++[x]:=⟨(cut s).dropLast,(cut s).getLast (by intro e;simp [e] at h1),(List.dropLast_concat_getLast _).symm⟩;have h3:l.length=s.count 46:=by rw [hx] at h1;simpa using h1
 have h4:((l.length:Int)+1 - 1)=(l.length:Int):=by omega
 have h5:((l++[([]:List UInt8)]).length:Int)=l.length+1:=by simp
 have h6:((l++[x]).length:Int)=l.length+1:=by simp
 have g1:(l++[([]:List UInt8)])[l.length]? =some []:=by simp
 have g2:(l++[x]).getLastD []=x:=by simp [List.getLastD_eq_getLast?]
 have g3:(l++[([]:List UInt8)]).set l.length x=l++[x]:=by simp
 have hk:=Tn s (s.length+1) (by omega) hs (.i .i64 (-1)) .u;rw [hx] at hk ⊢;simp only [gp,P5,List.dropLast_concat] at hk;simp (disch:=omega) only [Ag3,ow,hk,h4,h6,g1,g2,g3,xe,EVP,EV,simprocAttr];have g4:((l.length:Int)+1).toNat=(l++[x]).length:=by simp
 rw [g4,Fq];rfl
theorem R6 (s:List UInt8) (hs:s.length≤1000000):S Y1 2 [.s s, .s [46]]=some [Cn (cut s)]:=by refine Db0 (N:=1) rfl ?_;simp (disch:=omega) only [Dq7,Tm,xe,EVP,EV,simprocAttr]
theorem Pn (s t:List UInt8) (hs:s.length≤9223372036854775807):S ff 2 [.s s, .s t]=some [.b (t.isSuffixOf s)]:=by
 refine Dy8 (N:=1) rfl ?_;by_cases h:t.length≤s.length
 ·have e:((s.length:Int) - (t.length:Int)).toNat=s.length - t.length:=by omega
  simp (disch:=omega) only [Bc1,e,xe,EVP,EV,simprocAttr];simp only [Fq];congr 4;rw [F9,List.isSuffixOf_iff_suffix,decide_eq_true_eq];refine ⟨fun h=>h▸List.drop_suffix _ _,fun h=> ?_⟩;obtain ⟨p,rfl⟩:=h;simp
 ·have h2:t.isSuffixOf s=false:=by rw [Bool.eq_false_iff,ne_eq,List.isSuffixOf_iff_suffix];exact fun h'=>h h'.length_le
  simp (disch:=omega) only [Bc1,h2,xe,EVP,EV,simprocAttr]
theorem Kn (s t:List UInt8) (hs:s.length≤9223372036854775807):S fp 2 [.s s, .s t]=some [.b (t.isSuffixOf s)]:=by refine Db1 (N:=1) rfl ?_;simp (disch:=omega) only [Dq8,Pn,xe,EVP,EV,simprocAttr]
theorem Uw (x y:List UInt8):S fz 2 [.s x, .s y]=some [.i .i64 (Lib.compareBytes x y)]:=by refine Dy4 (N:=1) rfl ?_;simp (disch:=omega) only [Dq2,Bq3,xe,EVP,EV,simprocAttr]
theorem Uk (x y:List UInt8):S Q8 2 [.s x, .s y]=some [.i .i64 (Lib.compareBytes x y)]:=by refine Dz1 (N:=1) rfl ?_;simp (disch:=omega) only [Dq4,Uw,xe,EVP,EV,simprocAttr]
end Go.X.G
/- Names and their labels. -/
namespace Go.X.G
open Go Go.X
def flat (l:List (List UInt8)):List UInt8:=l.flatMap fun x=>x++[46]
def jn (l:List (List UInt8)):List UInt8:=if l=[] then [46] else flat l
def Jq (first:Bool):List (List UInt8)→Bool
 |[]=>true
 |p::r=>Hd p && (!decide (p=[42])||first) && Jq false r
theorem At4:O8 46=false:=by decide
theorem gh {p:List UInt8} (h:Hd p=true):(46:UInt8)∉p:=by
 unfold Hd at h;simp at h;rcases h with rfl|⟨_,h⟩
 ·decide
 ·intro h2;have:=h 46 h2;rw [At4] at this;cases this
theorem Rh {p:List UInt8}:∀{f:Bool} {l:List (List UInt8)},Jq f l=true→p∈l→Hd p=true
 |f,q::r,h,hp=>by
  simp only [Jq,Aw] at h;rcases Cp.1 hp with rfl|hp
  ·exact h.1.1
  ·exact Rh h.2 hp
theorem Ow:∀(m:List UInt8) (f:Bool) (cur:List UInt8),spl f cur (m++[46])=if Jq f (pcs cur m)=true then some (pcs cur m) else none
 |[],f,cur=>by simp only [P5,spl,if_true,pcs,Jq,Ap,Jg];by_cases h:Hd cur=true<;>by_cases h2:cur=[42]<;>cases f<;>simp [h,h2]
 |c::r,f,cur=>by
  simp only [G5,spl,pcs];by_cases hc:c=46
  ·simp only [if_pos hc];rw [Ow r false []];simp only [Jq];by_cases h:Hd cur=true<;>by_cases h2:cur=[42]<;>cases f<;>by_cases h3:Jq false (pcs [] r)=true<;>simp [h,h2,h3]
  ·simp only [if_neg hc];exact Ow r f (cur++[c])
theorem Ol (b:List UInt8):∀(a cur:List UInt8),pcs cur (a++46::b)=pcs cur a++cut b
 |[],cur=>by simp [pcs,cut]
 |c::r,cur=>by
  simp only [G5,pcs];split
  ·rw [Ol b r []];rfl
  ·exact Ol b r _
theorem K8:∀(m cur:List UInt8),flat (pcs cur m)=cur++m++[46]
 |[],cur=>by simp [pcs,flat]
 |c::r,cur=>by
  simp only [pcs];split
  ·rename_i h;have:=K8 r [];simp only [flat,Ef] at this ⊢;rw [this,h];simp
  ·rw [K8 r (cur++[c])];simp
theorem Bn9 (cur m:List UInt8):pcs cur m≠[]:=by
 cases m with
 |nil=>simp [pcs]
 |cons c r=>
  simp only [pcs];split
  ·simp
  ·intro h;have:=K8 r (cur++[c]);rw [h] at this;simp [flat] at this
theorem Vf:∀(l:List (List UInt8)),(∀p∈l,(46:UInt8)∉p)→cut (flat l)=l++[[]]
 |[],_=>rfl
 |p::l,h=>by
  have h1:flat (p::l)=p++46::flat l:=by simp [flat]
  rw [h1];show pcs [] _=_;rw [Ol,Og p [] (h p (by simp)),Vf l (fun q hq=>h q (by simp [hq]))];simp
theorem Mz:∀(l:List (List UInt8)),l≠[]→∃m,flat l=m++[46]
 |[p],_=>⟨p,by simp [flat]⟩
 |p::q::r,_=>by obtain ⟨m,hm⟩:=Mz (q::r) (by simp);exact ⟨p++[46]++m,by simp only [flat,Ef] at hm ⊢;rw [hm];simp⟩
theorem xj {l:List (List UInt8)} (hl:l≠[]) (h:∀p∈l,(46:UInt8)∉p) {m:List UInt8} (hm:flat l=m++[46]):cut m=l:=by
 have h1:=Vf l h;rw [hm] at h1;have h2:cut (m++[46])=cut m++[[]]:=by show pcs [] (m++46::[])=_;rw [Ol];rfl
 rw [h2] at h1;exact List.append_cancel_right h1
theorem An9 {n:List UInt8} {l:List (List UInt8)} (h:nm n=some l):(n=[46]∧l=[])∨(l≠[]∧Jq true l=true∧n=flat l∧n.length≤254):=by
 unfold nm at h;split at h
 ·rename_i e;injection h with h;exact .inl ⟨e,h.symm⟩
 ·split at h
  ·rename_i h1;right;obtain ⟨h2,h3,h4⟩:=h1;obtain ⟨m,hm⟩:∃m,n=m++[46]:=by
    refine ⟨n.dropLast,?_⟩;have:n≠[]:=by intro e;simp [e] at h2
    have h5:=List.dropLast_concat_getLast this;rw [←h5];congr 1
    ·simp
    ·have h6:n[n.length - 1]? =some (n.getLast this):=by rw [List.getLast_eq_getElem];exact Ab _
     rw [h6] at h4;injection h4 with h4;simp [h4]
   rw [hm,Ow] at h;split at h
   ·rename_i h5;injection h with h;subst h;refine ⟨Bn9 _ _,h5,?_,by omega⟩;rw [K8,hm];simp
   ·cases h
  ·cases h
theorem Ah0 {n:List UInt8}:vld n=true↔nm n=some (lbl n):=by unfold vld lbl;cases nm n<;>simp
theorem vld_cases {n:List UInt8} (h:vld n=true):(n=[46]∧lbl n=[])∨(lbl n≠[]∧Jq true (lbl n)=true∧n=flat (lbl n)∧n.length≤254):=An9 (Ah0.1 h)
theorem yg {n:List UInt8} (h:vld n=true):n=jn (lbl n):=by
 unfold jn;rcases vld_cases h with ⟨h1,h2⟩|⟨h1,_,h2,_⟩
 ·rw [h2,if_pos rfl];exact h1
 ·rw [if_neg h1];exact h2
theorem ab {n:List UInt8} (h:vld n=true):n.length≤254:=by
 rcases vld_cases h with ⟨h1,_⟩|⟨_,_,_,h⟩
 ·simp [h1]
 ·exact h
theorem vm:lbl [46]=[]:=rfl
theorem Tc {a b:List UInt8} (ha:vld a=true) (hb:vld b=true) (h:lbl a=lbl b):a=b:=by rw [yg ha,yg hb,h]
end Go.X.G
/- Names: what the program's functions give. -/
namespace Go.X.G
open Go Go.X
def ord (s:List UInt8):Bool:=decide (1≤s.length) && decide (s.length≤63) && s.all O8
theorem gf (s:List UInt8):Hd s=(decide (s=[42])||ord s):=rfl
theorem tp:ord [42]=false:=by decide
theorem S6 (s:List UInt8) (N:Nat) (hN:s.length<N) (hs:s.length≤9223372036854775807):
  zq.ev S N [.s s]=some (if s.all O8=true then .yld 0 [] else .ret [.b false]):=by
 refine Hb s (fun i=>[.i .i64 (i:Int)]) (fun i r=>if r.all O8=true then .yld 0 [] else .ret [.b false]) rfl hN (fun i c r hd hi hc=> ?_) ?_
 ·have key:nn.ev S N ([.s s]++[.i .i64 (i:Int)])=some (if O8 c=true then .yld 1 [.i .i64 ((i:Int)+1)] else .ret [.b false]):=by
   simp (disch:=omega) only [ak,hc,xe,EVP,EV,simprocAttr];unfold O8
   grind
  rw [key];rcases Ac (O8 c) with h|h<;>simp [h,Out.goes]
 ·simp (disch:=omega) [ak,xe,EVP,EV,simprocAttr,Out.goes]
theorem Gd (s:List UInt8) (hs:s.length≤9223372036854775807):S fm 1 [.s s]=some [.b (ord s)]:=by
 refine Dz9 (N:=s.length+1) rfl ?_;unfold ord;by_cases h1:s=[]
 ·subst h1;simp (disch:=omega) [ak,xe,EVP,EV,simprocAttr]
 ·have h2:1≤s.length:=C0.2 h1;by_cases h3:s.length≤63
  ·simp (disch:=omega) only [ak,S6,h1,xe,EVP,EV,simprocAttr];cases s.all O8<;>simp [h2,h3]
  ·simp (disch:=omega) only [ak,h1,xe,EVP,EV,simprocAttr];simp [h3]
def okP (i:Nat) (p:List UInt8):Bool:=ord p||(decide (i=0) && decide (p=[42]))
def uw:Nat→List (List UInt8)→Bool
 |_,[]=>true
 |i,p::r=>okP i p && uw (i+1) r
theorem Q5:∀(l:List (List UInt8)) (i:Nat),uw i l=Jq (decide (i=0)) l
 |[],_=>rfl
 |p::r,i=>by
  have h1:=Q5 r (i+1);simp only [uw,Jq,h1,okP,gf];by_cases h2:p=[42]
  ·subst h2;by_cases h3:i=0<;>simp [tp,h3]
  ·simp [h2]
theorem oj (p q:PV) (l:List (List UInt8)) (hl:l.length≤1000000) (hw:∀x∈l,x.length≤9223372036854775807) (N:Nat) (hN:l.length<N):
  zw.ev S N [p,q,Cn l]=some (if uw 0 l=true then .yld 0 [] else .ret [.b false]):=by
 refine Hb l (fun i=>[.i .i64 (i:Int)]) (fun i r=>if uw i r=true then .yld 0 [] else .ret [.b false]) rfl hN (fun i c r hd hi hc=> ?_) ?_
 ·have hcw:=hw c (C6 hc);have key:nt.ev S N ([p,q,Cn l]++[.i .i64 (i:Int)])=some (if okP i c=true then .yld 1 [.i .i64 ((i:Int)+1)] else .ret [.b false]):=by
   rcases Ac (ord c) with h1|h1
   ·simp (disch:=omega) only [N7,Gd,hc,h1,xe,EVP,EV,simprocAttr];simp [okP,h1]
   ·by_cases h2:i=0
    ·subst h2;by_cases h3:c=[42]
     ·subst h3;simp (disch:=omega) only [N7,Gd,hc,h1,xe,EVP,EV,simprocAttr];simp [okP]
     ·simp (disch:=omega) only [N7,Gd,hc,h1,h3,xe,EVP,EV,simprocAttr];simp [okP,h1,h3]
    ·simp (disch:=omega) only [N7,Gd,hc,h1,xe,EVP,EV,simprocAttr];simp [okP,h1,h2]
  rw [key];rcases Ac (okP i c) with h|h<;>simp [h,uw,Out.goes]
 ·simp (disch:=omega) only [N7,xe,EVP,EV,simprocAttr];simp [Out.goes,uw]
theorem Oh:∀(m cur:List UInt8) (x:List UInt8),x∈pcs cur m→x.length≤cur.length+m.length
 |[],cur,x,h=>by simp [pcs] at h;subst h;simp
 |c::r,cur,x,h=>by
  simp only [pcs] at h;split at h
  ·rcases Cp.1 h with rfl|h
   ·omega
   ·have:=Oh r [] x h;simp at this ⊢;omega
  ·have:=Oh r _ x h;simp at this ⊢;omega
theorem xk (m x:List UInt8) (h:x∈cut m):x.length≤m.length:=by simpa using Oh m [] x h
theorem Cw1 (m:List UInt8):(cut m).length≤m.length+1:=by have:=iw m;have:m.count 46≤m.length:=List.count_le_length;omega
theorem bk (n:List UInt8):([46]:List UInt8).isSuffixOf n=true↔∃m,n=m++[46]:=by rw [List.isSuffixOf_iff_suffix];exact ⟨fun ⟨m,h⟩=>⟨m,h.symm⟩,fun ⟨m,h⟩=>⟨m,h.symm⟩⟩
theorem o8 (m:List UInt8) (hm:m≠[]) (hl:m.length≤253):vld (m++[46])=uw 0 (cut m):=by have h1:m++[46]≠[46]:=fun e=>hm (List.append_cancel_right (bs:=[46]) (by simpa using e));have h2:0<m.length:=C0.2 hm;unfold vld nm;rw [if_neg h1,if_pos ⟨by simp;omega,by simp;omega,by simp⟩,Ow,Q5];have e:pcs [] m=cut m:=rfl;have e2:Jq (decide ((0:Nat)=0)) (cut m)=Jq true (cut m):=rfl;rw [e,e2];cases Jq true (cut m)<;>rfl
theorem vl (m:List UInt8) (h:vld (m++[46])=true) (hm:m≠[]):lbl (m++[46])=cut m:=by
 rcases vld_cases h with ⟨h1,_⟩|⟨h1,h2,h3,_⟩
 ·exact absurd (List.append_cancel_right (bs:=[46]) (by simpa using h1)) hm
 ·exact (xj h1 (fun p hp=>gh (Rh h2 hp)) h3.symm).symm
theorem Bc (n:List UInt8) (hn:n.length≤9223372036854775807):S M4 1 [.s n]=some [.b (vld n)]:=by
 refine Db6 (N:=300) rfl ?_;by_cases h0:n=[46]
 ·subst h0;simp (disch:=omega) only [N7,xe,EVP,EV,simprocAttr];rfl
 ·by_cases h1:255≤n.length
  ·have hv:vld n=false:=by rw [Bool.eq_false_iff];intro h;have:=ab h;omega
   simp (disch:=omega) only [N7,h0,hv,xe,EVP,EV,simprocAttr]
  ·rcases Ac (([46]:List UInt8).isSuffixOf n) with h2|h2
   ·obtain ⟨m,rfl⟩:=(bk n).1 h2;have hm:m≠[]:=fun e=>h0 (by simp [e]);have hl:(m++[46]).length=m.length+1:=by simp
    have hml:m.length≤1000000:=by omega
    have e:List.drop 0 (List.take (((m++[46]).length:Int) - 1).toNat (m++[46]))=m:=by
     have:(((m++[46]).length:Int) - 1).toNat=m.length:=by omega
     rw [this];simp
    have hc:=Cw1 m;have hv:=o8 m hm (by omega);have hk:=oj (.s (m++[46])) (.b true) (cut m) (by omega) (fun x hx=>by have:=xk m x hx;omega) 300 (by omega);simp (disch:=omega) only [N7,Kn,R6,e,hk,h0,h2,xe,EVP,EV,simprocAttr];rw [hv];cases uw 0 (cut m)<;>simp
   ·have hv:vld n=false:=by
     rw [Bool.eq_false_iff];intro h;rcases vld_cases h with ⟨h3,_⟩|⟨h3,_,h5,_⟩
     ·exact h0 h3
     ·obtain ⟨m,hm⟩:=Mz _ h3;have:=(bk n).2 ⟨m,h5.trans hm⟩;rw [h2] at this;cases this
    simp (disch:=omega) only [N7,Kn,h0,h2,hv,xe,EVP,EV,simprocAttr]
theorem Kk (n:List UInt8) (hn:n.length≤9223372036854775807):S Tv 1 [.s n]=some [Cn (lbl n)]:=by
 refine Dz0 (N:=1) rfl ?_;by_cases h0:n=[46]
 ·subst h0;simp (disch:=omega) only [Ag4,vm,xe,EVP,EV,simprocAttr]
 ·rcases Ac (vld n) with h1|h1
  ·obtain ⟨m,hm,rfl⟩:∃m,m≠[]∧n=m++[46]:=by
    rcases vld_cases h1 with ⟨h3,_⟩|⟨h3,_,h5,_⟩
    ·exact absurd h3 h0
    ·obtain ⟨m,hm⟩:=Mz _ h3;exact ⟨m,fun e=>h0 (by rw [h5,hm,e];rfl),h5.trans hm⟩
   have hl:(m++[46]).length=m.length+1:=by simp
   have e:List.drop 0 (List.take (((m++[46]).length:Int) - 1).toNat (m++[46]))=m:=by
    have:(((m++[46]).length:Int) - 1).toNat=m.length:=by omega
    rw [this];simp
   have hl2:=ab h1;have e2:=vl m h1 hm;simp (disch:=omega) only [Ag4,Bc,R6,e,e2,h0,h1,xe,EVP,EV,simprocAttr]
  ·have e:lbl n=[]:=by
    unfold lbl;unfold vld at h1;cases h:nm n with
    |none=>rfl
    |some l=>rw [h] at h1;cases h1
   simp (disch:=omega) only [Ag4,Bc,h0,h1,e,xe,EVP,EV,simprocAttr]
end Go.X.G
/- Names: order, common ancestors, wildcards. -/
namespace Go.X.G
open Go Go.X
theorem Kh:∀(a:List UInt8),Op.bytesLess a a=false
 |[]=>rfl
 |a::x=>by simp [Op.bytesLess,Kh x]
theorem Hm:∀(a b:List UInt8),Lib.compareBytes a b=cmpS a b
 |[],[]=>rfl
 |[],_::_=>rfl
 |_::_,[]=>rfl
 |a::x,b::y=>by
  have ih:=Hm x y;unfold cmpS at ih ⊢;simp only [Lib.compareBytes,Op.bytesLess,ih];by_cases h1:a<b
  ·simp [h1]
  ·by_cases h2:b<a
   ·have h3:a≠b:=fun e=>by subst e;exact h1 h2
    simp [h1,h2,h3]
   ·have h3:a=b:=UInt8.le_antisymm (UInt8.not_lt.1 h2) (UInt8.not_lt.1 h1);subst h3;simp [h1]
theorem Gz {a b:List UInt8}:cmpS a b=0↔a=b:=by
 unfold cmpS;by_cases h:a=b
 ·subst h;simp [Kh]
 ·cases h2:Op.bytesLess a b<;>simp [h]
theorem Gn (x y:List UInt8):S Q8 2 [.s x, .s y]=some [.i .i64 (cmpS x y)]:=by rw [Uk,Hm]
def Ms:List (List UInt8)→List (List UInt8)→Option Int
 |x::xs,y::ys=>if x=y then Ms xs ys else some (cmpS x y)
 |_,_=>none
theorem iz:∀(a b:List (List UInt8)),Ms a b=if oh a b<a.length∧oh a b<b.length then some (cmpS (a.getD (oh a b) []) (b.getD (oh a b) [])) else none
 |[],b=>by simp [Ms,oh]
 |x::xs,[]=>by simp [Ms,oh]
 |x::xs,y::ys=>by
  have ih:=iz xs ys;simp only [Ms,oh];by_cases h:x=y
  ·simp only [if_pos h,ih];simp
  ·simp [h]
def Zb (a b:List (List UInt8)):Int:=match Ms a.reverse b.reverse with
 |some c=>c
 |none=>if a.length<b.length then -1 else if b.length<a.length then 1 else 0
theorem Vy (a:List (List UInt8)) (k:Nat) (h:k<a.length):a.reverse.getD k []=a.getD (a.length - 1 - k) []:=by simp [A5,List.getElem?_reverse h]
theorem Pb {a b:List UInt8} (ha:vld a=true) (hb:vld b=true):Kg a b=Zb (lbl a) (lbl b):=by
 unfold Kg Zb;rw [iz];have e:oh (lbl a).reverse (lbl b).reverse=bl (lbl a) (lbl b):=rfl;rw [e,ha,hb];simp only [List.length_reverse,Bool.and_self,if_true];by_cases h:bl (lbl a) (lbl b)<(lbl a).length∧bl (lbl a) (lbl b)<(lbl b).length
 ·rw [if_pos h,if_pos h,Vy _ _ h.1,Vy _ _ h.2]
 ·rw [if_neg h,if_neg h]
theorem Uv (a b:List (List UInt8)) (p1 p2 p3 p4:PV) (ha:a.length≤1000) (hb:b.length≤1000) (N:Nat) (hN:1001<N):
  gq.ev S N [p1,p2,p3,p4,Cn a,Cn b]=some (match Ms a.reverse b.reverse with|some c=> .ret [.i .i64 c]|none=> .yld 0 []):=by
 have key:=I7 (fn:=S) (N:=N) (η:=[p1,p2,p3,p4,Cn a,Cn b]) (id:=1) (init:=[(.c (.i .i64 (1)))]) (body:=nr) (α:=Nat) (fun k=>[.i .i64 ((k:Int)+1)])
  (fun k=>match Ms (a.reverse.drop k) (b.reverse.drop k) with|some c=> .ret [.i .i64 c]|none=> .yld 0 []) (fun k=>k≤a.length∧k≤b.length) (fun k=>a.length - k) 0 rfl ⟨Ch _,Ch _⟩ (by omega) ?_
 ·simpa [gq] using key
 ·rintro k ⟨h1,h2⟩;by_cases h3:k<a.length
  ·by_cases h4:k<b.length
   ·have e1:((a.length:Int) - ((k:Int)+1)).toNat=a.length - 1 - k:=by omega
    have e2:((b.length:Int) - ((k:Int)+1)).toNat=b.length - 1 - k:=by omega
    have g1:a[a.length - 1 - k]? =some (a[a.length - 1 - k]'(by omega)):=Ab (by omega);have g2:b[b.length - 1 - k]? =some (b[b.length - 1 - k]'(by omega)):=Ab (by omega);have d1:a.reverse.drop k=(a[a.length - 1 - k]'(by omega))::a.reverse.drop (k+1):=by rw [Iy (by simpa using h3)];simp
    have d2:b.reverse.drop k=(b[b.length - 1 - k]'(by omega))::b.reverse.drop (k+1):=by rw [Iy (by simpa using h4)];simp
    rw [d1,d2];generalize (a[a.length - 1 - k]'(by omega))=x at g1;generalize (b[b.length - 1 - k]'(by omega))=y at g2;simp only [Ms];by_cases h:x=y
    ·left;have h5:cmpS x y=0:=Gz.2 h;refine ⟨k+1,?_,⟨by omega,by omega⟩,by omega,by rw [if_pos h]⟩;simp (disch:=omega) only [Sz,Gn,e1,e2,g1,g2,h5,xe,EVP,EV,simprocAttr]
    ·right;have h5:¬cmpS x y=0:=fun e=>h (Gz.1 e);rw [if_neg h];simp (disch:=omega) only [Sz,Gn,e1,e2,g1,g2,h5,xe,EVP,EV,simprocAttr];simp [Out.goes]
   ·right;have d2:b.reverse.drop k=[]:=N4 (by simp;omega);have z:Ms (a.reverse.drop k) []=none:=by cases a.reverse.drop k<;>rfl
    rw [d2,z];simp (disch:=omega) [Sz,xe,EVP,EV,simprocAttr,Out.goes]
  ·right;have d1:a.reverse.drop k=[]:=N4 (by simp;omega);have z:Ms [] (b.reverse.drop k)=none:=rfl;rw [d1,z];simp (disch:=omega) [Sz,xe,EVP,EV,simprocAttr,Out.goes]
theorem Uq (a b:List UInt8) (hn:a.length≤9223372036854775807) (ht:b.length≤9223372036854775807):S f3 2 [.s a, .s b]=some [.i .i64 (Kg a b)]:=by
 refine Db4 (N:=1002) rfl ?_;have h1:=O9 a;have h2:=O9 b;rcases Ac (vld a) with h3|h3<;>rcases Ac (vld b) with h4|h4
 ·rw [Pb h3 h4];unfold Zb;have hk:=Uv (lbl a) (lbl b) (.s a) (.s b) (.b true) (.b true) (by omega) (by omega) 1002 (by omega);cases h5:Ms (lbl a).reverse (lbl b).reverse with
  |some c=>
   rw [h5] at hk;simp (disch:=omega) only [Sz,Bc,Kk,hk,h3,h4,xe,EVP,EV,simprocAttr]
  |none=>
   rw [h5] at hk;simp (disch:=omega) only [Sz,Bc,Kk,hk,h3,h4,xe,EVP,EV,simprocAttr]
   grind
 all_goals unfold Kg
 all_goals simp (disch:=omega) only [Sz,Bc,Gn,h3,h4,xe,EVP,EV,simprocAttr]
 all_goals simp
end Go.X.G
/- The canonical order of names is a total order. -/
namespace Go.X.G
open Go Go.X
structure TO {α:Type} (lt:α→α→Prop):Prop where
 irr:∀a,¬lt a a
 tr:∀a b c,lt a b→lt b c→lt a c
 tri:∀a b,lt a b∨a=b∨lt b a
theorem TO.asym {α:Type} {lt:α→α→Prop} (h:TO lt) {a b:α} (h1:lt a b):¬lt b a:=fun h2=>h.irr a (h.tr _ _ _ h1 h2)
theorem TO.ntr {α:Type} {lt:α→α→Prop} (h:TO lt) {a b c:α} (h1:¬lt a b) (h2:¬lt b c):¬lt a c:=by
 intro h3;rcases h.tri b a with h4|h4|h4
 ·exact h2 (h.tr _ _ _ h4 h3)
 ·subst h4;exact h2 h3
 ·exact h1 h4
def lex {α:Type} (lt:α→α→Prop):List α→List α→Prop
 |[],[]=>False
 |[],_::_=>True
 |_::_,[]=>False
 |a::x,b::y=>lt a b∨(a=b∧lex lt x y)
theorem f9 {α:Type} {lt:α→α→Prop} (h:TO lt):∀x:List α,¬lex lt x x
 |[]=>by simp [lex]
 |a::x=>by simp only [lex,true_and,not_or];exact ⟨h.irr a,f9 h x⟩
theorem y3 {α:Type} {lt:α→α→Prop} (h:TO lt):∀x y z:List α,lex lt x y→lex lt y z→lex lt x z
 |[],[],_,h1,_=>by simp [lex] at h1
 |[],_::_,[],_,h2=>by simp [lex] at h2
 |[],_::_,_::_,_,_=>by simp [lex]
 |_::_,[],_,h1,_=>by simp [lex] at h1
 |_::_,_::_,[],_,h2=>by simp [lex] at h2
 |a::x,b::y,c::z,h1,h2=>by
  simp only [lex] at h1 h2 ⊢;rcases h1 with h1|⟨rfl,h1⟩
  ·rcases h2 with h2|⟨rfl,h2⟩
   ·exact .inl (h.tr _ _ _ h1 h2)
   ·exact .inl h1
  ·rcases h2 with h2|⟨rfl,h2⟩
   ·exact .inl h2
   ·exact .inr ⟨rfl,y3 h x y z h1 h2⟩
theorem lex_tri {α:Type} {lt:α→α→Prop} (h:TO lt):∀x y:List α,lex lt x y∨x=y∨lex lt y x
 |[],[]=> .inr (.inl rfl)
 |[],_::_=> .inl (by simp [lex])
 |_::_,[]=> .inr (.inr (by simp [lex]))
 |a::x,b::y=>by
  simp only [lex];rcases h.tri a b with h1|rfl|h1
  ·exact .inl (.inl h1)
  ·rcases lex_tri h x y with h2|rfl|h2
   ·exact .inl (.inr ⟨rfl,h2⟩)
   ·exact .inr (.inl rfl)
   ·exact .inr (.inr (.inr ⟨rfl,h2⟩))
  ·exact .inr (.inr (.inl h1))
theorem TO.lex {α:Type} {lt:α→α→Prop} (h:TO lt):TO (G.lex lt):=⟨f9 h,y3 h,lex_tri h⟩
theorem Dw6:TO (fun a b:UInt8=>a<b):=⟨fun a=>UInt8.lt_irrefl a,fun a b c h1 h2=>UInt8.lt_trans h1 h2,fun a b=>by
 rcases UInt8.lt_or_le a b with h|h
 ·exact .inl h
 ·rcases UInt8.lt_or_le b a with h2|h2
  ·exact .inr (.inr h2)
  ·exact .inr (.inl (UInt8.le_antisymm h2 h))⟩
abbrev ltB:List UInt8→List UInt8→Prop:=lex fun a b:UInt8=>a<b
theorem yh:TO ltB:=Dw6.lex
theorem R2:∀a b:List UInt8,Op.bytesLess a b=true↔ltB a b
 |[],[]=>by simp [Op.bytesLess,lex]
 |[],_::_=>by simp [Op.bytesLess,lex]
 |_::_,[]=>by simp [Op.bytesLess,lex]
 |a::x,b::y=>by have ih:=R2 x y;simp only [Op.bytesLess,Al,decide_eq_true_eq,Aw,beq_iff_eq,lex];rw [ih]
theorem Pz (a b:List UInt8):cmpS a b<0↔ltB a b:=by
 rw [←R2];unfold cmpS;cases h:Op.bytesLess a b
 ·simp only [Az,if_false,iff_false];split<;>omega
 ·simp
abbrev ltL:List (List UInt8)→List (List UInt8)→Prop:=lex ltB
theorem to_L:TO ltL:=yh.lex
def Zc (a b:List (List UInt8)):Int:=match Ms a b with
 |some c=>c
 |none=>if a.length<b.length then -1 else if b.length<a.length then 1 else 0
theorem Vs:∀a b:List (List UInt8),Zc a b<0↔ltL a b
 |[],[]=>by simp [Zc,Ms,lex]
 |[],_::_=>by simp [Zc,Ms,lex]
 |_::_,[]=>by simp [Zc,Ms,lex]
 |x::xs,y::ys=>by
  have ih:=Vs xs ys;simp only [Zc,Ms,lex] at ih ⊢;by_cases h:x=y
  ·subst h;rw [if_pos rfl];simp only [B1,Nat.add_lt_add_iff_right,true_and];rw [ih];constructor
   ·exact fun h=> .inr h
   ·rintro (h|h)
    ·exact absurd h (yh.irr x)
    ·exact h
  ·rw [if_neg h];simp only;rw [Pz];simp [h]
theorem T1 (a b:List (List UInt8)):Zb a b=Zc a.reverse b.reverse:=by unfold Zb Zc;cases Ms a.reverse b.reverse<;>simp
theorem iy (a b:List (List UInt8)):Zb a b<0↔ltL a.reverse b.reverse:=by rw [←Vs,T1]
def ltN (a b:List UInt8):Prop:=if vld a=true then (if vld b=true then ltL (lbl a).reverse (lbl b).reverse else True) else (if vld b=true then False else ltB a b)
theorem Vm (a b:List UInt8):Kg a b<0↔ltN a b:=by
 unfold ltN;rcases Ac (vld a) with ha|ha
 ·rcases Ac (vld b) with hb|hb
  ·rw [Pb ha hb,iy,if_pos ha,if_pos hb]
  ·unfold Kg;simp [ha,hb]
 ·rcases Ac (vld b) with hb|hb
  ·unfold Kg;simp [ha,hb]
  ·have e:Kg a b=cmpS a b:=by unfold Kg;simp [ha,hb]
   rw [e,Pz];simp [ha,hb]
theorem Dj2:TO ltN:=by
 refine ⟨fun a h=> ?_,fun a b c h1 h2=> ?_,fun a b=> ?_⟩
 ·unfold ltN at h;split at h
  ·exact to_L.irr _ h
  ·exact yh.irr _ h
 ·unfold ltN at*;rcases Ac (vld a) with ha|ha<;>rcases Ac (vld b) with hb|hb<;>rcases Ac (vld c) with hc|hc<;>
   simp only [ha,hb,hc,if_true,Az,if_false] at h1 h2 ⊢
  ·exact to_L.tr _ _ _ h1 h2
  ·exact yh.tr _ _ _ h1 h2
 ·unfold ltN;rcases Ac (vld a) with ha|ha<;>rcases Ac (vld b) with hb|hb<;>simp only [ha,hb,if_true,Az,if_false]
  ·rcases to_L.tri (lbl a).reverse (lbl b).reverse with h|h|h
   ·exact .inl h
   ·exact .inr (.inl (Tc ha hb (List.reverse_inj.1 h)))
   ·exact .inr (.inr h)
  ·simp
  ·simp
  ·exact yh.tri a b
theorem Jc {a b:List UInt8}:Kg a b=0↔a=b:=by
 constructor
 ·intro h;rcases Ac (vld a) with ha|ha
  ·rcases Ac (vld b) with hb|hb
   ·rw [Pb ha hb] at h;have key:∀x y:List (List UInt8),Zc x y=0→x=y:=by
     intro x
     induction x with
     |nil=>intro y hy;cases y with
      |nil=>rfl
      |cons=>simp [Zc,Ms] at hy
     |cons x xs ih=>intro y hy;cases y with
      |nil=>simp [Zc,Ms] at hy
      |cons y ys=>
       simp only [Zc,Ms] at hy ih;by_cases e:x=y
       ·subst e;rw [if_pos rfl] at hy;simp only [B1,Nat.add_lt_add_iff_right] at hy;rw [ih ys hy]
       ·rw [if_neg e] at hy;exact absurd (Gz.1 hy) e
    rw [T1] at h;exact Tc ha hb (List.reverse_inj.1 (key _ _ h))
   ·unfold Kg at h;simp [ha,hb] at h
  ·rcases Ac (vld b) with hb|hb
   ·unfold Kg at h;simp [ha,hb] at h
   ·have e:Kg a b=cmpS a b:=by unfold Kg;simp [ha,hb]
    rw [e] at h;exact Gz.1 h
 ·rintro rfl;have h1:=Vm a a;have h2:¬Kg a a<0:=fun h=>Dj2.irr a (h1.1 h);have key:∀x:List (List UInt8),Zc x x=0:=by
   intro x
   induction x with
   |nil=>rfl
   |cons x xs ih=>
    simp only [Zc,Ms] at ih ⊢;simp only [if_true,B1,Nat.add_lt_add_iff_right];exact ih
  rcases Ac (vld a) with ha|ha
  ·rw [Pb ha ha];rw [T1];exact key _
  ·have e:Kg a a=cmpS a a:=by unfold Kg;simp [ha]
   rw [e];exact Gz.2 rfl
end Go.X.G
/- Stable sorting, in plain words: what is sorted and keeps the order of what is alike is one list alone. -/
namespace Go.X.G
open Go Go.X
structure TP {α:Type} (le:α→α→Bool):Prop where
 tr:∀a b c,le a b=true→le b c=true→le a c=true
 tot:∀a b,le a b=true∨le b a=true
theorem TP.refl {α:Type} {le:α→α→Bool} (h:TP le) (a:α):le a a=true:=by rcases h.tot a a with q|q<;>exact q
def eqv {α:Type} (le:α→α→Bool) (a b:α):Bool:=le a b && le b a
structure Stab {α:Type} (le:α→α→Bool) (r l:List α):Prop where
 sorted:r.Pairwise fun a b=>le a b=true
 cls:∀x,r.filter (eqv le x)=l.filter (eqv le x)
theorem Stab.mem {α:Type} {le:α→α→Bool} (ht:TP le) {r l:List α} (h:Stab le r l) (x:α):x∈r↔x∈l:=by
 have e:eqv le x x=true:=by unfold eqv;rw [ht.refl];rfl
 have h1:x∈r↔x∈r.filter (eqv le x):=by rw [D9];simp [e]
 have h2:x∈l↔x∈l.filter (eqv le x):=by rw [D9];simp [e]
 rw [h1,h.cls,←h2]
theorem Uh {α:Type} {le:α→α→Bool} (ht:TP le):∀(r s:List α),(r.Pairwise fun a b=>le a b=true)→(s.Pairwise fun a b=>le a b=true)→(∀x,r.filter (eqv le x)=s.filter (eqv le x))→r=s
 |[],s,_,_,h=>by
  cases s with
  |nil=>rfl
  |cons y t=>
   have:=h y;rw [List.filter_nil,Lv (by unfold eqv;rw [ht.refl];rfl)] at this;cases this
 |x::r,[],_,_,h=>by have:=h x;rw [List.filter_nil,Lv (by unfold eqv;rw [ht.refl];rfl)] at this;cases this
 |x::r,y::s,hr,hs,h=>by
  obtain ⟨r1,r2⟩:=List.pairwise_cons.1 hr;obtain ⟨s1,s2⟩:=List.pairwise_cons.1 hs;have hmem:∀z,z∈x::r↔z∈y::s:=fun z=>by
   have e:eqv le z z=true:=by unfold eqv;rw [ht.refl];rfl
   have a1:z∈x::r↔z∈(x::r).filter (eqv le z):=by rw [D9];simp [e]
   have a2:z∈y::s↔z∈(y::s).filter (eqv le z):=by rw [D9];simp [e]
   rw [a1,h,←a2]
  have hxy:le x y=true:=by
   rcases Cp.1 ((hmem y).2 (.head _)) with q|q
   ·rw [q];exact ht.refl x
   ·exact r1 y q
  have hyx:le y x=true:=by
   rcases Cp.1 ((hmem x).1 (.head _)) with q|q
   ·rw [q];exact ht.refl y
   ·exact s1 x q
  have e:x=y:=by have:=h x;rw [Lv (by unfold eqv;rw [ht.refl];rfl),Lv (by unfold eqv;rw [hxy,hyx];rfl)] at this;injection this
  subst e;have:r=s:=Uh ht r s r2 s2 fun z=>by
   have:=h z;simp only [List.filter_cons] at this;split at this
   ·injection this
   ·exact this
  rw [this]
theorem Stab.one {α:Type} {le:α→α→Bool} (ht:TP le) {r s l:List α} (h1:Stab le r l) (h2:Stab le s l):r=s:=
 Uh ht r s h1.sorted h2.sorted fun x=>by rw [h1.cls,h2.cls]
end Go.X.G
/- Sorted lists of names, each once. -/
namespace Go.X.G
open Go Go.X
def Ds6 {α:Type} (e:α→α→Bool):α→List α→List α
 |_,[]=>[]
 |p,c::r=>if e c p=true then Ds6 e c r else c::Ds6 e c r
def cpt {α:Type} (e:α→α→Bool):List α→List α
 |[]=>[]
 |x::r=>x::Ds6 e x r
abbrev eqs {α:Type} [DecidableEq α]:α→α→Bool:=fun a b=>decide (a=b)
def setN (l:List (List UInt8)):List (List UInt8):=cpt eqs (l.mergeSort fun x y=> !decide (Kg y x<0))
end Go.X.G
/- Data of records: what the reference's functions give. -/
namespace Go.X.G
open Go Go.X
theorem t15 (t:Int):t=1∨t=2∨t=5∨t=6∨t=12∨t=15∨t=16∨t=28∨t=33∨t=39∨t=43∨t=46∨t=47∨t=48∨(t≠1∧t≠2∧t≠5∧t≠6∧t≠12∧t≠15∧t≠16∧t≠28∧t≠33∧t≠39∧t≠43∧t≠46∧t≠47∧t≠48):=by omega
def knw (t:Int):Bool:=decide (t=1)||decide (t=2)||decide (t=5)||decide (t=6)||decide (t=12)||decide (t=15)||decide (t=16)||decide (t=28)||decide (t=33)||decide (t=39)||decide (t=43)||decide (t=46)||decide (t=47)||decide (t=48)
def C3 (d:Dat):Bool:=d.v6||(decide (d.hi=0) && decide (d.lo<4294967296))
def inB (n most:Int):Bool:=decide (0≤n) && decide (n≤most)
def Fs (s:List UInt8):Bool:=decide (1≤s.length) && decide (s.length≤255)
def Em (n:List UInt8):Bool:=vld n && decide (n[0]? ≠some 42)
def bit (set:Int) (t:Nat):Int:=set / 2 ^ t % 2
theorem Ej5 (x:Int):IntKind.u64.wrap ((BitVec.ofInt IntKind.u64.bits x &&& BitVec.ofInt IntKind.u64.bits 1).toNat:Int)=x % 2:=by
 have h2:(BitVec.ofInt 64 x &&& BitVec.ofInt 64 1).toNat=(BitVec.ofInt 64 x).toNat % 2:=by rw [BitVec.toNat_and];show (BitVec.ofInt 64 x).toNat &&& 1=_;exact Nat.and_one_is_mod _
 show IntKind.u64.wrap (((BitVec.ofInt 64 x &&& BitVec.ofInt 64 1).toNat:Nat):Int)=_;rw [h2,BitVec.toNat_ofInt];rw [Dv2]<;>omega
end Go.X.G
/- Data of records: bytes. -/
namespace Go.X.G
open Go Go.X
def Bz3 (set:Int) (i:Nat):Nat→Bool
 |0=>true
 |k+1=>(!decide (bit set i=1)||knw (i:Int)) && Bz3 set (i+1) k
def be (v:Int):Nat→List UInt8
 |0=>[]
 |n+1=>UInt8.ofNat (v / 256 ^ n % 256).toNat::be v n
theorem Dv (v:Int):∀n,(be v n).length=n
 |0=>rfl
 |n+1=>by simp [be,Dv v n]
theorem O3 (z:Int) (h1:0≤z) (h2:z<256):((UInt8.ofNat z.toNat).toNat:Int)=z:=by simp;omega
theorem Bq1 (v:Int) (j:Nat):v / 256 ^ j / 256=v / 256 ^ (j+1):=by rw [Int.pow_succ,Int.ediv_ediv_of_nonneg (Int.le_of_lt (Int.pow_pos (by decide)))]
theorem Cv7 (v:Int) (j:Nat) (h:0≤v):0≤v / 256 ^ j:=Int.ediv_nonneg h (Int.le_of_lt (Int.pow_pos (by decide)))
theorem Cv8 (v:Int) (j:Nat) (h:0≤v):v / 256 ^ j≤v:=Int.ediv_le_self _ h
end Go.X.G
/- Data of records: the wire form. -/
namespace Go.X.G
open Go Go.X
theorem Mq {s:List UInt8} (h:Hd s=true):s.length≤63:=by
 unfold Hd at h;simp at h;rcases h with h|h
 ·simp [h]
 ·omega
theorem Ox:∀(r:List UInt8) (f:Bool) (cur:List UInt8) (l:List (List UInt8)),spl f cur r=some l→∀x∈l,Hd x=true
 |[],f,cur,l,h=>by simp [spl] at h;subst h;simp
 |c::r,f,cur,l,h=>by
  simp only [spl] at h;split at h
  ·split at h
   ·rename_i h2;obtain ⟨m,hm,rfl⟩:=Aq.1 h;intro x hx;simp at hx;rcases hx with rfl|hx
    ·exact h2.1
    ·exact Ox r _ _ _ hm x hx
   ·cases h
  ·exact Ox r _ _ _ h
theorem I9 (n:List UInt8):∀x∈lbl n,Hd x=true:=by
 unfold lbl nm;split
 ·simp
 ·split
  ·cases h:spl true [] n with
   |none=>simp
   |some l=>simpa using Ox _ _ _ _ h
  ·simp
def wireL (l:List (List UInt8)):List UInt8:=l.flatMap fun x=>be (x.length:Int) 1++x
def Et (n:List UInt8):List UInt8:=wireL (lbl n)++be 0 1
theorem Lz:∀(l:List (List UInt8)),(∀x∈l,Hd x=true)→(wireL l).length≤64*l.length
 |[],_=>by simp [wireL]
 |x::l,h=>by have h1:=Mq (h x (by simp));have h2:=Lz l (fun y hy=>h y (by simp [hy]));simp only [wireL,Ef,An,Dv,B1] at h2 ⊢;omega
theorem Qj (n:List UInt8):(Et n).length≤20000:=by have h1:=Lz (lbl n) (I9 n);have h2:=O9 n;simp only [Et,An,Dv];omega
def bmV (set:Int) (i:Nat):Nat→Int
 |0=>0
 |j+1=>bmV set i j*2+bit set (i*8+j)
theorem V5 (set:Int) (t:Nat):0≤bit set t∧bit set t≤1:=by unfold bit;omega
theorem Ns (set:Int) (i:Nat):∀j,0≤bmV set i j∧bmV set i j<2 ^ j
 |0=>by simp [bmV]
 |j+1=>by have h1:=Ns set i j;have h2:=V5 set (i*8+j);simp only [bmV,Int.pow_succ];omega
def bmB (set:Int) (i:Nat):UInt8:=UInt8.ofNat (bmV set i 8).toNat
def bmL (set:Int):Nat→Nat
 |0=>0
 |i+1=>if bmV set i 8≠0 then i+1 else bmL set i
theorem V2 (set:Int):∀i,bmL set i≤i
 |0=>Ag _
 |i+1=>by have:=V2 set i;simp only [bmL];split<;>omega
def bmap (set:Int):List UInt8:=((List.range 8).map (bmB set)).take (bmL set 8)
theorem V0 (set:Int):(bmap set).length≤8:=by simp [bmap];omega
def Jl (d:Dat):List UInt8:=if d.v6 then be d.hi 8++be d.lo 8 else be d.lo 4
def usd (t:Int) (d:Dat):Dat:=
 if t=1∨t=28 then ⟨d.v6,d.hi,d.lo,[],[],[],0,0,0,0,0,0,0⟩
 else if t=2∨t=5∨t=12∨t=39 then ⟨false,0,0,d.host,[],[],0,0,0,0,0,0,0⟩
 else if t=6 then ⟨false,0,0,d.host,d.mail,[],d.a,d.b,d.c,d.d,d.e,0,0⟩
 else if t=15 then ⟨false,0,0,d.host,[],[],d.a,0,0,0,0,0,0⟩
 else if t=16 then ⟨false,0,0,[],[],d.text,0,0,0,0,0,0,0⟩
 else if t=33 then ⟨false,0,0,d.host,[],[],d.a,d.b,d.c,0,0,0,0⟩
 else if t=43∨t=48 then ⟨false,0,0,[],[],d.text,d.a,d.b,d.c,0,0,0,0⟩
 else if t=46 then ⟨false,0,0,d.host,[],d.text,d.a,d.b,d.c,d.d,d.e,d.f,0⟩
 else ⟨false,0,0,d.host,[],[],0,0,0,0,0,0,d.bits⟩
end Go.X.G
/- Data of records: which are valid. -/
namespace Go.X.G
open Go Go.X
def Cw (t:Int) (d:Dat):Bool:=
 if t=1 then C3 d && !d.v6
 else if t=28 then d.v6
 else if t=6 then Em d.host && Em d.mail && inB d.a 4294967295 && inB d.b 2147483647 && inB d.c 2147483647 && inB d.d 2147483647 && inB d.e 2147483647
 else if t=15 then Em d.host && inB d.a 65535
 else if t=16 then decide (d.text.length≤255)
 else if t=33 then Em d.host && inB d.a 65535 && inB d.b 65535 && inB d.c 65535
 else if t=43 then inB d.a 65535 && inB d.b 255 && inB d.c 255 && Fs d.text
 else if t=46 then knw d.a && decide (d.a≠46) && inB d.b 127 && inB d.c 2147483647 && inB d.d 4294967295 && inB d.e 4294967295 && inB d.f 65535 && Em d.host && Fs d.text
 else if t=47 then vld d.host && decide (d.bits≠0) && Bz3 d.bits 0 64
 else if t=48 then (decide (d.a=256)||decide (d.a=257)) && decide (d.b=3) && inB d.c 255 && Fs d.text
 else Em d.host
def C8 (t:Int) (d:Dat):Bool:=knw t && decide (usd t d=d) && Cw t d
def Gx (t:Int) (d:Dat):List UInt8:=
 if t=1∨t=28 then Jl d
 else if t=6 then Et d.host++Et d.mail++be d.a 4++be d.b 4++be d.c 4++be d.d 4++be d.e 4
 else if t=15 then be d.a 2++Et d.host
 else if t=16 then be (d.text.length:Int) 1++d.text
 else if t=33 then be d.a 2++be d.b 2++be d.c 2++Et d.host
 else if t=43∨t=48 then be d.a 2++be d.b 1++be d.c 1++d.text
 else if t=46 then be d.a 2++be 253 1++be d.b 1++be d.c 4++be d.d 4++be d.e 4++be d.f 2++Et d.host++d.text
 else if t=47 then Et d.host++be 0 1++be ((bmap d.bits).length:Int) 1++bmap d.bits
 else Et d.host
theorem knw_cases {t:Int} (h:knw t=true):t=1∨t=2∨t=5∨t=6∨t=12∨t=15∨t=16∨t=28∨t=33∨t=39∨t=43∨t=46∨t=47∨t=48:=by simp [knw] at h;omega
def ol (t:Int) (a b:Dat):Int:=
 if C8 t a && C8 t b then cmpS (Gx t a) (Gx t b) else if C8 t a then -1 else if C8 t b then 1 else 0
end Go.X.G
/- Lists of records: what the reference's functions give. -/
namespace Go.X.G
open Go Go.X
def ob (r:Rec):Bool:=vld r.name && knw r.typ && decide (0≤r.ttl) && decide (r.ttl≤2147483647) && C8 r.typ r.data
def T2 (a b:Int):Int:=if a<b then -1 else if b<a then 1 else 0
def Vr (a b:Rec):Int:=
 if Kg a.name b.name≠0 then Kg a.name b.name else if T2 a.typ b.typ≠0 then T2 a.typ b.typ else ol a.typ a.data b.data
def isK (n:List UInt8) (t:Int) (r:Rec):Bool:=decide (r.name=n) && decide (r.typ=t)
def findR (l:List Rec) (n:List UInt8) (t:Int):List Rec:=l.filter (isK n t)
end Go.X.G
/- Zones: what the reference's check gives. -/
namespace Go.X.G
open Go Go.X
def V6 (n top:List UInt8):Bool:=decide (n≠top) && under n top
def Ej1 (l:List Rec) (n:List UInt8) (t:Int):Bool:=decide (0<(findR l n t).length)
def Pg (r x:Rec):Bool:=
 !decide (x.name=r.name)||(!(decide (x.typ=r.typ) && decide (r.typ≠46) && decide (x.ttl≠r.ttl)) && !(decide (x.typ=r.typ) && (decide (r.typ=6)||decide (r.typ=5)||decide (r.typ=39)) && decide (x≠r)) &&
  !(decide (r.typ=5) && decide (x.typ≠5) && decide (x.typ≠46) && decide (x.typ≠47)))
def nc (z:Zone) (r:Rec):Bool:=z.recs.all (Pg r)
def s9 (z:Zone) (r x:Rec):Bool:=
 !(decide (x.typ=39) && V6 r.name x.name) && !(decide (x.typ=2) && V6 x.name z.origin && V6 r.name x.name && decide (r.typ≠1) && decide (r.typ≠28))
def Am7 (t:Int):Bool:=decide (t=2)||decide (t=43)||decide (t=47)||decide (t=46)||decide (t=1)||decide (t=28)
def Am8 (z:Zone) (r:Rec):Bool:=
 if (lbl r.name)[0]? =some [42]∧(r.typ=2∨r.typ=39) then false
 else z.recs.all (s9 z r) && (if V6 r.name z.origin && Ej1 z.recs r.name 2 then Am7 r.typ else decide (r.typ≠43))
def Am6 (z:Zone) (r:Rec):Bool:=under r.name z.origin && !(decide (r.typ=6) && decide (r.name≠z.origin)) && nc z r && Am8 z r
end Go.X.G
/- The order of records; what a checked zone is like. -/
namespace Go.X.G
open Go Go.X
theorem TO.prod {α β:Type} {l1:α→α→Prop} {l2:β→β→Prop} (h1:TO l1) (h2:TO l2):TO (fun p q:α×β=>l1 p.1 q.1∨(p.1=q.1∧l2 p.2 q.2)) where
 irr:=fun p h=>by
  rcases h with h|⟨_,h⟩
  ·exact h1.irr _ h
  ·exact h2.irr _ h
 tr:=fun p q r a b=>by
  rcases a with a|⟨a,a'⟩<;>rcases b with b|⟨b,b'⟩
  ·exact .inl (h1.tr _ _ _ a b)
  ·exact .inl (b▸a)
  ·exact .inl (a▸b)
  ·exact .inr ⟨a.trans b,h2.tr _ _ _ a' b'⟩
 tri:=fun p q=>by
  rcases h1.tri p.1 q.1 with a|a|a
  ·exact .inl (.inl a)
  ·rcases h2.tri p.2 q.2 with b|b|b
   ·exact .inl (.inr ⟨a,b⟩)
   ·exact .inr (.inl (Prod.ext a b))
   ·exact .inr (.inr (.inr ⟨a.symm,b⟩))
  ·exact .inr (.inr (.inl a))
theorem Dj3:TO (fun a b:Int=>a<b):=⟨fun a h=>by omega,fun a b c h1 h2=>by omega,fun a b=>by omega⟩
theorem Vp (a b:Int):T2 a b<0↔a<b:=by unfold T2;split<;>(try split)<;>omega
theorem Hp (a b:Int):T2 a b=0↔a=b:=by unfold T2;split<;>(try split)<;>omega
abbrev Key:=List UInt8×Int×List UInt8
abbrev ltK:Key→Key→Prop:=fun p q=>ltN p.1 q.1∨(p.1=q.1∧(p.2.1<q.2.1∨(p.2.1=q.2.1∧ltB p.2.2 q.2.2)))
theorem Ej7:TO ltK:=Dj2.prod (Dj3.prod yh)
def Ej0 (r:Rec):Key:=(r.name,r.typ,Gx r.typ r.data)
abbrev ltR (a b:Rec):Prop:=ltK (Ej0 a) (Ej0 b)
theorem af {r:Rec} (h:ob r=true):C8 r.typ r.data=true:=by unfold ob at h;simp only [Aw] at h;exact h.2
structure ZOk (z:Zone):Prop where
 origin:vld z.origin=true
 small:z.recs.length≤2048
 valid:∀r∈z.recs,ob r=true
 rising:z.recs.Pairwise ltR
 soa:(findR z.recs z.origin 6).length=1
 ns:Ej1 z.recs z.origin 2=true
 recs:∀r∈z.recs,Am6 z r=true
theorem ZOk.beside {z:Zone} (h:ZOk z) {r x:Rec} (hr:r∈z.recs) (hx:x∈z.recs):Pg r x=true:=by have:=h.recs r hr;unfold Am6 at this;simp only [Aw] at this;have h2:=this.1.2;unfold nc at h2;exact B2.1 h2 x hx
theorem ZOk.under {z:Zone} (h:ZOk z) {r:Rec} (hr:r∈z.recs):under r.name z.origin=true:=by have:=h.recs r hr;unfold Am6 at this;simp only [Aw] at this;exact this.1.1.1
theorem ZOk.single {z:Zone} (h:ZOk z) (n:List UInt8) (t:Int) (ht:t=6∨t=5∨t=39):(findR z.recs n t).length≤1:=by
 have hp:(findR z.recs n t).Pairwise ltR:=h.rising.filter _;have hm:∀x∈findR z.recs n t,x∈z.recs∧x.name=n∧x.typ=t:=fun x hx=>by obtain ⟨h1,h2⟩:=D9.1 hx;simp only [isK,Aw,decide_eq_true_eq] at h2;exact ⟨h1,h2.1,h2.2⟩
 generalize findR z.recs n t=l at*
 match l,hp,hm with
 |[],_,_=>simp
 |[_],_,_=>simp
 |a::b::r,hp,hm=>
  exfalso;have hab:ltR a b:=(List.pairwise_cons.1 hp).1 b (.head _);obtain ⟨a1,a2,a3⟩:=hm a (.head _);obtain ⟨b1,b2,b3⟩:=hm b (.tail _ (.head _));have hb:=h.beside a1 b1;have e:b=a:=by
   unfold Pg at hb;rw [a2,a3,b2,b3] at hb;have ht':(decide (t=6)||decide (t=5)||decide (t=39))=true:=by rcases ht with h|h|h<;>simp [h]
   rw [ht'] at hb;simp only [decide_true,Sq,Bool.false_or,Jg,Bool.true_and,Aw,Bm,decide_eq_false_iff_not,ne_eq,Classical.not_not] at hb;exact hb.1.2
  rw [e] at hab;exact Ej7.irr _ hab
end Go.X.G
/- The order of any records; what is sorted stably and made compact is what the reference sorts. -/
namespace Go.X.G
open Go Go.X
def Zw (t:Int) (d:Dat):Int×List UInt8:=if C8 t d=true then (0,Gx t d) else (1,[])
abbrev ltD:Int×List UInt8→Int×List UInt8→Prop:=fun p q=>p.1<q.1∨(p.1=q.1∧ltB p.2 q.2)
theorem Ej8:TO ltD:=Dj3.prod yh
theorem xz (t:Int) (a b:Dat):ol t a b<0↔ltD (Zw t a) (Zw t b):=by unfold ol Zw ltD;rcases Ac (C8 t a) with h1|h1<;>rcases Ac (C8 t b) with h2|h2<;>simp [h1,h2,Pz,yh.irr]
theorem ib (t:Int) (a b:Dat):ol t a b=0↔Zw t a=Zw t b:=by unfold ol Zw;rcases Ac (C8 t a) with h1|h1<;>rcases Ac (C8 t b) with h2|h2<;>simp [h1,h2,Gz]
abbrev yy:=List UInt8×Int×Int×List UInt8
abbrev ltF:yy→yy→Prop:=fun p q=>ltN p.1 q.1∨(p.1=q.1∧(p.2.1<q.2.1∨(p.2.1=q.2.1∧ltD p.2.2 q.2.2)))
theorem Dt6:TO ltF:=Dj2.prod (Dj3.prod Ej8)
def K9 (r:Rec):yy:=(r.name,r.typ,Zw r.typ r.data)
theorem xw (a b:Rec):Vr a b<0↔ltF (K9 a) (K9 b):=by
 unfold Vr ltF K9;simp only;by_cases h1:Kg a.name b.name=0
 ·rw [if_neg (by simp [h1])];have e1:=Jc.1 h1;have n1:¬ltN a.name b.name:=by rw [e1];exact Dj2.irr _
  by_cases h2:T2 a.typ b.typ=0
  ·rw [if_neg (by simp [h2])];have e2:=(Hp _ _).1 h2;rw [e2,xz];constructor
   ·intro h;exact .inr ⟨e1, .inr ⟨rfl,h⟩⟩
   ·rintro (h|⟨_,h|⟨_,h⟩⟩)
    ·exact absurd h n1
    ·omega
    ·exact h
  ·rw [if_pos h2,Vp];have e2:a.typ≠b.typ:=fun e=>h2 ((Hp _ _).2 e);constructor
   ·intro h;exact .inr ⟨e1, .inl h⟩
   ·rintro (h|⟨_,h|⟨h,_⟩⟩)
    ·exact absurd h n1
    ·exact h
    ·exact absurd h e2
 ·rw [if_pos h1,Vm];have e1:a.name≠b.name:=fun e=>h1 (Jc.2 e);constructor
  ·intro h;exact .inl h
  ·rintro (h|⟨h,_⟩)
   ·exact h
   ·exact absurd h e1
theorem Lk (a b:Rec):Vr a b=0↔K9 a=K9 b:=by
 unfold Vr K9;by_cases h1:Kg a.name b.name=0
 ·rw [if_neg (by simp [h1])];have e1:=Jc.1 h1;by_cases h2:T2 a.typ b.typ=0
  ·rw [if_neg (by simp [h2])];have e2:=(Hp _ _).1 h2;rw [e2,ib];simp [e1]
  ·rw [if_pos h2];have e2:a.typ≠b.typ:=fun e=>h2 ((Hp _ _).2 e);constructor
   ·intro h;exact absurd h h2
   ·intro h;injection h with _ h;injection h with h _;exact absurd h e2
 ·rw [if_pos h1];have e1:a.name≠b.name:=fun e=>h1 (Jc.2 e);constructor
  ·intro h;exact absurd h h1
  ·intro h;injection h with h _;exact absurd h e1
def cmpR (a b:Rec):Int:=if Vr a b≠0 then Vr a b else T2 a.ttl b.ttl
abbrev ltT:yy×Int→yy×Int→Prop:=fun p q=>ltF p.1 q.1∨(p.1=q.1∧p.2<q.2)
theorem Dt5:TO ltT:=Dt6.prod Dj3
theorem Jb (a b:Rec):cmpR a b<0↔ltT (K9 a,a.ttl) (K9 b,b.ttl):=by
 unfold cmpR;by_cases h:Vr a b=0
 ·have e:=(Lk a b).1 h;rw [if_neg (by simp [h]),Vp];simp only [ltT,e,true_and];exact ⟨.inr,fun q=>q.resolve_left (Dt6.irr _)⟩
 ·rw [if_pos h,xw];have e:K9 a≠K9 b:=fun e=>h ((Lk a b).2 e);simp only [ltT,e,false_and,or_false]
theorem Jy (a b:Rec):cmpR a b=0↔K9 a=K9 b∧a.ttl=b.ttl:=by
 unfold cmpR;by_cases h:Vr a b=0
 ·have e:=(Lk a b).1 h;rw [if_neg (by simp [h]),Hp];simp [e]
 ·rw [if_pos h];have e:K9 a≠K9 b:=fun e=>h ((Lk a b).2 e);simp [e,h]
def Ej6 (l:List Rec) (z:Rec):Prop:=∃l1 l2,l=l1++z::l2∧(∀y∈l1,K9 y=K9 z→z.ttl<y.ttl)∧∀y∈l2,K9 y=K9 z→z.ttl≤y.ttl
theorem Ej6.mem {l:List Rec} {z:Rec} (h:Ej6 l z):z∈l:=by obtain ⟨l1,l2,rfl,_⟩:=h;simp
end Go.X.G
/- Valid data are known by their bytes; records that are alike. -/
namespace Go.X.G
open Go Go.X
theorem Ad5:∀(n x y:Nat),be (x:Int) n=be (y:Int) n→x % 256 ^ n=y % 256 ^ n
 |0,x,y,_=>by simp [Nat.mod_one]
 |n+1,x,y,h=>by
  simp only [be,List.cons.injEq] at h;obtain ⟨h1,h2⟩:=h;have ih:=Ad5 n x y h2;have e:∀v:Nat,((v:Int) / 256 ^ n % 256).toNat=v / 256 ^ n % 256:=fun v=>by
   have:((v:Int) / 256 ^ n % 256)=((v / 256 ^ n % 256:Nat):Int):=by simp
   rw [this,Eg]
  rw [e,e] at h1;have h3:x / 256 ^ n % 256=y / 256 ^ n % 256:=by have:=congrArg UInt8.toNat h1;simpa using this
  rw [Nat.pow_succ,Nat.mod_mul,Nat.mod_mul,ih,h3]
theorem N0 {n:Nat} {a b:Int} (ha:0≤a) (ha2:a<256 ^ n) (hb:0≤b) (hb2:b<256 ^ n) (h:be a n=be b n):a=b:=by
 obtain ⟨x,rfl⟩:=Lw ha;obtain ⟨y,rfl⟩:=Lw hb;have:=Ad5 n x y h;have hx:x<256 ^ n:=by
  have:((x:Nat):Int)<((256 ^ n:Nat):Int):=by simpa using ha2
  omega
 have hy:y<256 ^ n:=by
  have:((y:Nat):Int)<((256 ^ n:Nat):Int):=by simpa using hb2
  omega
 rw [B7 hx,B7 hy] at this;rw [this]
theorem Jd {n:Nat} {a b:Int} {u v:List UInt8} (h:be a n++u=be b n++v):be a n=be b n∧u=v:=
 List.append_inj h (by rw [Dv,Dv])
theorem ax:∀(l m:List (List UInt8)) (u v:List UInt8),(∀x∈l,Hd x=true)→(∀x∈m,Hd x=true)→wireL l++(be 0 1++u)=wireL m++(be 0 1++v)→l=m∧u=v:=by
 have pos:∀x:List UInt8,Hd x=true→1≤x.length∧x.length≤63:=fun x h=>by
  refine ⟨?_,Mq h⟩;unfold Hd at h;simp at h;rcases h with h|h
  ·simp [h]
  ·omega
 have z1:∀(n:Nat) (u v:List UInt8),1≤n→n≤63→be (n:Int) 1++u≠be 0 1++v:=fun n u v h1 h2 h=>by have:=(Jd h).1;have:=N0 (n:=1) (by omega) (by omega) (by omega) (by omega) this;omega
 intro l
 induction l with
 |nil=>
  intro m u v _ hm h;cases m with
  |nil=>exact ⟨rfl,(Jd h).2⟩
  |cons y m=>
   have:=pos y (hm y (.head _));simp only [wireL,List.flatMap_nil,P5,Ef,A2] at h;exact absurd h.symm (z1 _ _ _ this.1 this.2)
 |cons x l ih=>
  intro m u v hl hm h;have hx:=pos x (hl x (.head _));cases m with
  |nil=>
   simp only [wireL,List.flatMap_nil,P5,Ef,A2] at h;exact absurd h (z1 _ _ _ hx.1 hx.2)
  |cons y m=>
   have hy:=pos y (hm y (.head _));simp only [wireL,Ef,A2] at h;obtain ⟨h1,h2⟩:=Jd h;have h3:=N0 (n:=1) (by omega) (by omega) (by omega) (by omega) h1;obtain ⟨rfl,h4⟩:=List.append_inj h2 (by omega);obtain ⟨rfl,rfl⟩:=ih m u v (fun z hz=>hl z (.tail _ hz)) (fun z hz=>hm z (.tail _ hz)) h4;exact ⟨rfl,rfl⟩
theorem G8 {a b u v:List UInt8} (ha:vld a=true) (hb:vld b=true) (h:Et a++u=Et b++v):a=b∧u=v:=by simp only [Et,A2] at h;obtain ⟨h1,h2⟩:=ax _ _ _ _ (I9 a) (I9 b) h;exact ⟨Tc ha hb h1,h2⟩
theorem Gw {a b:List UInt8} (ha:vld a=true) (hb:vld b=true) (h:Et a=Et b):a=b:=
 (G8 (u:=[]) (v:=[]) ha hb (by simpa using h)).1
theorem V4 (a b:Nat):∀n,(∀t,t<n→bit (a:Int) t=bit (b:Int) t)→a % 2 ^ n=b % 2 ^ n
 |0,_=>by simp [Nat.mod_one]
 |n+1,h=>by
  have ih:=V4 a b n fun t ht=>h t (by omega);have h1:=h n (by omega);have e:∀v:Nat,bit (v:Int) n=((v / 2 ^ n % 2:Nat):Int):=fun v=>by unfold bit;simp
  rw [e,e] at h1;have h2:a / 2 ^ n % 2=b / 2 ^ n % 2:=by omega
  rw [Nat.pow_succ,Nat.mod_mul,Nat.mod_mul,ih,h2]
theorem V1 (a b:Int) (i:Nat):∀j,bmV a i j=bmV b i j→∀t,t<j→bit a (i*8+t)=bit b (i*8+t)
 |0,_,t,ht=>by omega
 |j+1,h,t,ht=>by
  simp only [bmV] at h;have h1:=V5 a (i*8+j);have h2:=V5 b (i*8+j);have h3:bit a (i*8+j)=bit b (i*8+j):=by omega
  rcases Nat.lt_or_ge t j with hlt|hge
  ·exact V1 a b i j (by omega) t hlt
  ·rw [show t=j by omega];exact h3
theorem Pf (a:Int):∀k i,bmL a k≤i→i<k→bmV a i 8=0
 |0,i,_,h=>by omega
 |k+1,i,h,hi=>by
  simp only [bmL] at h;split at h
  ·omega
  ·rename_i h0;rcases Nat.lt_or_ge i k with hlt|hge
   ·exact Pf a k i h hlt
   ·rw [show i=k by omega];simpa using h0
theorem xl {a b:Int} (ha:0≤a) (ha2:a≤18446744073709551615) (hb:0≤b) (hb2:b≤18446744073709551615) (h:bmap a=bmap b):a=b:=by
 have hlen:bmL a 8=bmL b 8:=by have:=congrArg List.length h;simp only [bmap,Bz,List.length_map,Ih] at this;have h1:=V2 a 8;have h2:=V2 b 8;omega
 have hby:∀i,i<8→bmV a i 8=bmV b i 8:=fun i hi=>by
  rcases Nat.lt_or_ge i (bmL a 8) with hlt|hge
  ·have h1:(bmap a)[i]? =some (bmB a i):=by simp only [bmap];rw [As,if_pos hlt,A7,Bj hi];rfl
   have h2:(bmap b)[i]? =some (bmB b i):=by simp only [bmap];rw [As,if_pos (by omega),A7,Bj hi];rfl
   rw [h,h2] at h1;injection h1 with h1;have e1:=Ns a i 8;have e2:=Ns b i 8;have h3:=congrArg (fun c:UInt8=>(c.toNat:Int)) h1;simp only [bmB] at h3;rw [O3 _ e2.1 (by omega),O3 _ e1.1 (by omega)] at h3;exact h3.symm
  ·rw [Pf a 8 i hge hi,Pf b 8 i (by omega) hi]
 obtain ⟨x,rfl⟩:=Lw ha;obtain ⟨y,rfl⟩:=Lw hb;have:=V4 x y 64 fun t ht=>by have:=V1 x y (t / 8) 8 (hby (t / 8) (by omega)) (t % 8) (by omega);rwa [show t / 8*8+t % 8=t by omega] at this
 rw [B7 (by omega),B7 (by omega)] at this;rw [this]
theorem Cz {n:List UInt8} (h:Em n=true):vld n=true:=by unfold Em at h;simp only [Aw] at h;exact h.1
theorem Dp8 {x m:Int}:inB x m=true↔0≤x∧x≤m:=by simp [inB]
theorem C1 {n:Nat} {m x y:Int} {u v:List UInt8} (hm:m<256 ^ n) (h1:inB x m=true) (h2:inB y m=true) (h:be x n++u=be y n++v):x=y∧u=v:=by rw [Dp8] at h1 h2;obtain ⟨h3,h4⟩:=Jd h;exact ⟨N0 h1.1 (by omega) h2.1 (by omega) h3,h4⟩
theorem zx {x:Int} (hx:knw x=true):inB x 65535=true:=by rcases knw_cases hx with rfl|rfl|rfl|rfl|rfl|rfl|rfl|rfl|rfl|rfl|rfl|rfl|rfl|rfl<;>decide
theorem ay {t:Int} {a b:Dat} (wa:a.wf) (wb:b.wf) (ha:C8 t a=true) (hb:C8 t b=true) (h:Gx t a=Gx t b):a=b:=by
 simp only [C8,Aw,decide_eq_true_eq] at ha hb;obtain ⟨⟨hk,ua⟩,ka⟩:=ha;obtain ⟨⟨_,ub⟩,kb⟩:=hb;have w1:=wa.hi;have w2:=wa.lo;have w3:=wa.bits
 have v1:=wb.hi;have v2:=wb.lo;have v3:=wb.bits
 unfold Bf2 at w1 w2 w3 v1 v2 v3;suffices hs:usd t a=usd t b by rw [←ua,←ub];exact hs
 clear ua ub wa wb;rcases knw_cases hk with rfl|rfl|rfl|rfl|rfl|rfl|rfl|rfl|rfl|rfl|rfl|rfl|rfl|rfl
 all_goals clear hk
 all_goals simp [Cw] at ka kb
 all_goals simp [Gx,Jl] at h
 all_goals simp [usd]
 ·simp [C3] at ka kb;obtain ⟨ka1,ka2⟩:=ka;obtain ⟨kb1,kb2⟩:=kb;rw [ka2] at ka1 h;rw [kb2] at kb1 h;simp only [Az,false_or,if_false] at ka1 kb1 h;exact ⟨by rw [ka2,kb2],by rw [ka1.1,kb1.1],N0 (n:=4) w2.1 (by omega) v2.1 (by omega) h⟩
 ·exact Gw (Cz ka) (Cz kb) h
 ·exact Gw (Cz ka) (Cz kb) h
 ·obtain ⟨⟨⟨⟨⟨⟨a1,a2⟩,a3⟩,a4⟩,a5⟩,a6⟩,a7⟩:=ka;obtain ⟨⟨⟨⟨⟨⟨b1,b2⟩,b3⟩,b4⟩,b5⟩,b6⟩,b7⟩:=kb;obtain ⟨e1,h⟩:=G8 (Cz a1) (Cz b1) h;obtain ⟨e2,h⟩:=G8 (Cz a2) (Cz b2) h;obtain ⟨e3,h⟩:=C1 (by decide) a3 b3 h;obtain ⟨e4,h⟩:=C1 (by decide) a4 b4 h;obtain ⟨e5,h⟩:=C1 (by decide) a5 b5 h;obtain ⟨e6,h⟩:=C1 (by decide) a6 b6 h;obtain ⟨e7,_⟩:=C1 (n:=4) (u:=[]) (v:=[]) (by decide) a7 b7 (by simpa using h);exact ⟨e1,e2,e3,e4,e5,e6,e7⟩
 ·exact Gw (Cz ka) (Cz kb) h
 ·obtain ⟨e1,h⟩:=C1 (by decide) ka.2 kb.2 h;exact ⟨Gw (Cz ka.1) (Cz kb.1) h,e1⟩
 ·exact (Jd h).2
 ·rw [ka,kb] at h;simp only [if_true] at h;obtain ⟨h1,h2⟩:=Jd h;exact ⟨by rw [ka,kb],N0 (n:=8) w1.1 (by omega) v1.1 (by omega) h1,N0 (n:=8) w2.1 (by omega) v2.1 (by omega) h2⟩
 ·obtain ⟨⟨⟨a1,a2⟩,a3⟩,a4⟩:=ka;obtain ⟨⟨⟨b1,b2⟩,b3⟩,b4⟩:=kb;obtain ⟨e1,h⟩:=C1 (by decide) a2 b2 h;obtain ⟨e2,h⟩:=C1 (by decide) a3 b3 h;obtain ⟨e3,h⟩:=C1 (by decide) a4 b4 h;exact ⟨Gw (Cz a1) (Cz b1) h,e1,e2,e3⟩
 ·exact Gw (Cz ka) (Cz kb) h
 ·obtain ⟨⟨⟨a1,a2⟩,a3⟩,a4⟩:=ka;obtain ⟨⟨⟨b1,b2⟩,b3⟩,b4⟩:=kb;obtain ⟨e1,h⟩:=C1 (by decide) a1 b1 h;obtain ⟨e2,h⟩:=C1 (by decide) a2 b2 h;obtain ⟨e3,h⟩:=C1 (by decide) a3 b3 h;exact ⟨h,e1,e2,e3⟩
 ·obtain ⟨⟨⟨⟨⟨⟨⟨⟨ka0,_⟩,ka1⟩,ka2⟩,ka3⟩,ka4⟩,ka5⟩,ka6⟩,ka7⟩:=ka;obtain ⟨⟨⟨⟨⟨⟨⟨⟨kb0,_⟩,kb1⟩,kb2⟩,kb3⟩,kb4⟩,kb5⟩,kb6⟩,kb7⟩:=kb;obtain ⟨e0,h⟩:=C1 (by decide) (zx ka0) (zx kb0) h;have h:=(Jd (a:=253) (b:=253) h).2;obtain ⟨e1,h⟩:=C1 (by decide) ka1 kb1 h;obtain ⟨e2,h⟩:=C1 (by decide) ka2 kb2 h;obtain ⟨e3,h⟩:=C1 (by decide) ka3 kb3 h;obtain ⟨e4,h⟩:=C1 (by decide) ka4 kb4 h;obtain ⟨e5,h⟩:=C1 (by decide) ka5 kb5 h;obtain ⟨e6,h⟩:=G8 (Cz ka6) (Cz kb6) h;exact ⟨e6,h,e0,e1,e2,e3,e4,e5⟩
 ·obtain ⟨e1,h⟩:=G8 ka.1.1 kb.1.1 h;have h:=(Jd (a:=0) (b:=0) h).2;have h:=(Jd h).2;exact ⟨e1,xl w3.1 w3.2 v3.1 v3.2 h⟩
 ·obtain ⟨⟨⟨a1,a2⟩,a3⟩,a4⟩:=ka;obtain ⟨⟨⟨b1,b2⟩,b3⟩,b4⟩:=kb;obtain ⟨e1,h⟩:=C1 (m:=65535) (by decide) (by rcases a1 with q|q<;>rw [q]<;>decide) (by rcases b1 with q|q<;>rw [q]<;>decide) h;obtain ⟨e2,h⟩:=C1 (m:=255) (by decide) (by rw [a2];decide) (by rw [b2];decide) h;obtain ⟨e3,h⟩:=C1 (by decide) a3 b3 h;exact ⟨h,e1,e2,e3⟩
end Go.X.G
