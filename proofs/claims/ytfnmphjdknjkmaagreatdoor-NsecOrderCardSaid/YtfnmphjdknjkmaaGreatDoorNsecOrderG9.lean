/- Names: what the reference's functions give. -/
import Derived.Test.YtfnmphjdknjkmaaGreatDoorNsecOrderG7
import Derived.Test.YtfnmphjdknjkmaaGreatDoorNsecOrderG8
open Bool renaming eq_false_or_eq_true→Aq,and_eq_true→Aw,or_eq_true→Ap,not_eq_true'→A8,eq_iff_iff→Cp,and_true→Oy,eq_false_iff→oh
open List renaming getElem?_eq_getElem→Az,length_append→Ac,mem_cons→Am,append_assoc→As,mem_of_getElem?→A4,length_cons→A6,length_pos_iff→Bc,length_nil→Bd,getD_eq_getElem?_getD→Bh,take_append_drop→B0,cons_append→B5,getElem?_cons_zero→Ck,nil_append→Cf,drop_drop→C2,drop_eq_getElem_cons→Dz,take_length→Df,drop_zero→D2,mem_cons_self→F9,cons_prefix_cons→Hq,getLast_eq_getElem→I3,flatMap_cons→I5,isSuffixOf_iff_suffix→Kn,append_cancel_right→Ox,drop_eq_nil_of_le→V2,reverse_prefix→Fg4,count_eq_zero→Iv4
open Nat renaming le_refl→Af,zero_le→Cn
open Option renaming map_eq_some_iff→Ax,map_some→A5
open Option.some renaming injEq→Ak
set_option maxHeartbeats 1000000
set_option linter.unusedVariables false
set_option linter.unusedSimpArgs false
namespace Go.X.G
open Go Go.X
def Tf (c:UInt8):Bool:=decide (97≤(c.toNat:Int)) && decide ((c.toNat:Int)≤122)||decide (48≤(c.toNat:Int)) && decide ((c.toNat:Int)≤57)||decide ((c.toNat:Int)=45)||decide ((c.toNat:Int)=95)
def L8 (s:List UInt8):Bool:=decide (s=[42])||(decide (1≤s.length) && decide (s.length≤63) && s.all Tf)
end Go.X.G
/- Names: what the reference's functions give. -/
namespace Go.X.G
open Go Go.X
def spl (first:Bool) (cur:List UInt8):List UInt8→Option (List (List UInt8))
 |[]=>some []
 |c::r=>if c=46 then (if L8 cur=true∧(cur=[42]→first=true) then (spl false [] r).map (cur::·) else none) else spl first (cur++[c]) r
def nm (n:List UInt8):Option (List (List UInt8)):=
 if n=[46] then some [] else if 2≤n.length∧n.length≤254∧n[n.length - 1]? =some 46 then spl true [] n else none
def lbl (n:List UInt8):List (List UInt8):=(nm n).getD []
def vld (n:List UInt8):Bool:=(nm n).isSome
end Go.X.G
/- Names: what the reference's functions give, ctd. -/
namespace Go.X.G
open Go Go.X
theorem ic:∀(r:List UInt8) (f:Bool) (cur:List UInt8) (l:List (List UInt8)),spl f cur r=some l→l.length≤r.length
 |[],f,cur,l,h=>by simp [spl] at h;simp [←h]
 |c::r,f,cur,l,h=>by
  simp only [spl] at h;split at h
  ·split at h
   ·obtain ⟨m,hm,rfl⟩:=Ax.1 h;have:=ic r _ _ _ hm;simp;omega
   ·cases h
  ·have:=ic r _ _ _ h;simp;omega
theorem Hb1 {n:List UInt8} {l:List (List UInt8)} (h:nm n=some l):l.length≤254:=by
 unfold nm at h;split at h
 ·injection h with h;subst h;simp
 ·split at h
  ·rename_i h2;have:=ic _ _ _ _ h;omega
  ·cases h
theorem Mn (n:List UInt8):(lbl n).length≤254:=by
 unfold lbl;cases h:nm n with
 |none=>simp
 |some l=>exact Hb1 h
def Sr {α:Type} [DecidableEq α]:List α→List α→Nat
 |x::xs,y::ys=>if x=y then Sr xs ys+1 else 0
 |_,_=>0
def Kl (a b:List (List UInt8)):Nat:=Sr a.reverse b.reverse
theorem Cv4 {α:Type} [DecidableEq α]:∀(a b:List α),Sr a b≤a.length∧Sr a b≤b.length
 |[],b=>by simp [Sr]
 |x::xs,[]=>by simp [Sr]
 |x::xs,y::ys=>by have:=Cv4 xs ys;simp only [Sr];split<;>simp<;>omega
theorem Dp6 (a b:List (List UInt8)):Kl a b≤a.length∧Kl a b≤b.length:=by have:=Cv4 a.reverse b.reverse;simpa [Kl] using this
def under (n top:List UInt8):Bool:=vld n && vld top && decide (Kl (lbl n) (lbl top)=(lbl top).length)
def cmpS (a b:List UInt8):Int:=if Op.bytesLess a b then -1 else if a=b then 0 else 1
def H1 (a b:List UInt8):Int:=
 if vld a && vld b then
  let k:=Kl (lbl a) (lbl b)
  if k<(lbl a).length∧k<(lbl b).length then cmpS ((lbl a).getD ((lbl a).length - 1 - k) []) ((lbl b).getD ((lbl b).length - 1 - k) [])
  else if (lbl a).length<(lbl b).length then -1 else if (lbl b).length<(lbl a).length then 1 else 0
 else if vld a then -1 else if vld b then 1 else cmpS a b
end Go.X.G
/- The library's functions on strings. -/
namespace Go.X.G
open Go Go.X
theorem Gv9 (x:List UInt8) (c:UInt8):S uz 2 [.s x, .i .u8 (c.toNat:Int)]=some [.i .i64 (x.count c:Int)]:=
 Gt8 (args:=[.s x, .i .u8 (c.toNat:Int)]) (by simp [XK.run,Ab1,Lib.countByte])
theorem Gj4 (x:List UInt8) (c:UInt8):S ul 2 [.s x, .i .u8 (c.toNat:Int)]=some [.i .i64 (Lib.indexByte x c)]:=
 Gt9 (args:=[.s x, .i .u8 (c.toNat:Int)]) (by simp [XK.run,Ab1])
theorem Gw0 (x y:List UInt8):S um 2 [.s x, .s y]=some [.i .i64 (Lib.compareBytes x y)]:=
 Hj9 (args:=[.s x, .s y]) (by simp [XK.run,Dp7])
theorem Oj (x:List UInt8) (c:UInt8):S Ud 2 [.s x, .i .u8 (c.toNat:Int)]=some [.i .i64 (Lib.indexByte x c)]:=by refine Hj8 (N:=1) rfl ?_;simp (disch:=omega) only [Gl3,Gj4,xe,EVP,EV,simprocAttr]
theorem fg (x:List UInt8) (c:UInt8):S cw 2 [.s x, .i .u8 (c.toNat:Int)]=some [.i .i64 (Lib.indexByte x c)]:=by refine Hq5 (N:=1) rfl ?_;simp (disch:=omega) only [Gl8,Oj,xe,EVP,EV,simprocAttr]
theorem Mz (c:UInt8):∀(x:List UInt8),c∉x→Lib.indexByte x c= -1
 |[],_=>rfl
 |b::l,h=>by have h1:b≠c:=fun e=>h (by simp [e]);have h2:=Mz c l (fun e=>h (by simp [e]));simp [Lib.indexByte,h1,h2]
theorem Jd (c:UInt8) (post:List UInt8):∀(pre:List UInt8),c∉pre→Lib.indexByte (pre++c::post) c=(pre.length:Int)
 |[],_=>by simp [Lib.indexByte]
 |b::l,h=>by
  have h1:b≠c:=fun e=>h (by simp [e]);have h2:=Jd c post l (fun e=>h (by simp [e]));simp only [B5,Lib.indexByte,h2];simp [h1]
  try omega
theorem dot_split (c:UInt8):∀(s:List UInt8),c∉s∨∃pre post,s=pre++c::post∧c∉pre
 |[]=> .inl (by simp)
 |b::l=>by
  by_cases h:b=c
  ·exact .inr ⟨[],l,by simp [h],by simp⟩
  ·rcases dot_split c l with h1|⟨pre,post,rfl,h2⟩
   ·exact .inl (by simp [h1,Ne.symm h])
   ·exact .inr ⟨b::pre,post,by simp,by simp [h2,Ne.symm h]⟩
def pcs (cur:List UInt8):List UInt8→List (List UInt8)
 |[]=>[cur]
 |c::r=>if c=46 then cur::pcs [] r else pcs (cur++[c]) r
def cut (s:List UInt8):List (List UInt8):=pcs [] s
theorem Bf9 (post:List UInt8):∀(pre cur:List UInt8),(46:UInt8)∉pre→pcs cur (pre++46::post)=(cur++pre)::pcs [] post
 |[],cur,_=>by simp [pcs]
 |b::l,cur,h=>by have h1:b≠46:=fun e=>h (by simp [e]);have h2:=Bf9 post l (cur++[b]) (fun e=>h (by simp [e]));simp [pcs,h1,h2]
theorem Ws:∀(s cur:List UInt8),(46:UInt8)∉s→pcs cur s=[cur++s]
 |[],cur,_=>by simp [pcs]
 |b::l,cur,h=>by have h1:b≠46:=fun e=>h (by simp [e]);have h2:=Ws l (cur++[b]) (fun e=>h (by simp [e]));simp [pcs,h1,h2]
theorem Cv3 (s:List UInt8):(cut s).length=s.count 46+1:=by
 have:∀(s cur:List UInt8),(pcs cur s).length=s.count 46+1:=by
  intro s
  induction s with
  |nil=>intro cur;rfl
  |cons c r ih=>
   intro cur;by_cases h:c=46<;>simp [pcs,h,ih]
 exact this s []
theorem Ap2 (s:List UInt8) (hs:s.length≤9223372036854775807):S bz 2 [.s s, .s [46]]=some [.i .i64 (Lib.indexByte s 46)]:=by
 refine Gt7 (N:=1) rfl ?_;have h1:=Oj s 46;have e:(((46:UInt8).toNat:Nat):Int)=46:=rfl;rw [e] at h1;by_cases h:[46]=s
 ·subst h;simp (disch:=omega) only [Eb9,xe,EVP,EV,simprocAttr];rfl
 ·simp (disch:=omega) only [Eb9,h,h1,e,xe,EVP,EV,simprocAttr]
theorem ff (s:List UInt8) (hs:s.length≤9223372036854775807):S Ub 2 [.s s, .s [46]]=some [.i .i64 (Lib.indexByte s 46)]:=by refine Hj5 (N:=1) rfl ?_;simp (disch:=omega) only [Gl1,Ap2,xe,EVP,EV,simprocAttr]
theorem Db2 (s:List UInt8):S bg 2 [.s s, .s [46]]=some [.i .i64 (s.count 46:Int)]:=by refine Hj6 (N:=1) rfl ?_;have h1:=Gv9 s 46;have e:(((46:UInt8).toNat:Nat):Int)=46:=rfl;rw [e] at h1;simp (disch:=omega) only [Gl2,h1,e,xe,EVP,EV,simprocAttr]
def Ck2 (done rest:List (List UInt8)):Out:=
 .yld 0 [.s ((done++rest).getLastD []),Bl ((done++rest).dropLast++[[]]), .i .i64 (((done++rest).length:Int) - 1)]
theorem j8 (s:List UInt8) (N:Nat) (hN:s.length<N) (hs:s.length≤1000000) (p q:PV):
  jp.ev S N [.s s, .s [46], .i .i64 0,p, .i .i64 ((s.count 46:Int)+1)]=some (Ck2 [] (cut s)):=by
 have hc0:s.count 46≤s.length:=List.count_le_length;have key:=K7 (fn:=S) (N:=N) (η:=[.s s, .s [46], .i .i64 0,p, .i .i64 ((s.count 46:Int)+1)]) (id:=1) (init:=[(.v 0),(.rep 1 (.mn (.v 4) (.bin .add (.slen (.v 0)) (.c (.i .i64 (1))))) (.c (.s []))),(.c (.i .i64 (0)))]) (body:=nw) (α:=List (List UInt8)×List UInt8)
  (fun a=>[.s a.2,Bl (a.1++List.replicate (a.2.count 46+1) []), .i .i64 (a.1.length:Int)]) (fun a=>Ck2 a.1 (cut a.2)) (fun a=>a.1.length+a.2.count 46=s.count 46∧a.2.length≤s.length) (fun a=>a.2.length) ([],s) ?_ ⟨by simp,Af _⟩ hN ?_
 ·simpa [jp] using key
 ·have e:((s.count 46:Int)+1).toNat=s.count 46+1:=by omega
  simp (disch:=omega) only [e,xe,EVP,EV,simprocAttr]
 ·rintro ⟨done,rest⟩ ⟨h1,h2⟩;simp only at h1 h2 ⊢;rcases dot_split 46 rest with h|⟨pre,post,rfl,h⟩
  ·right;have c0:rest.count 46=0:=Iv4.2 h;have i0:=Mz 46 rest h;have cu:cut rest=[rest]:=by simpa [cut] using Ws rest [] h
   refine ⟨?_,rfl⟩;rw [c0];rw [c0] at h1;simp (disch:=omega) only [At7,ff,i0,xe,EVP,EV,simprocAttr];simp [Ck2,cu,List.getLastD_eq_getLast?]
  ·left;have c0:(pre++46::post).count 46=post.count 46+1:=by rw [List.count_append,Iv4.2 h];simp
   have i0:=Jd 46 post pre h;have cu:cut (pre++46::post)=pre::cut post:=by simpa [cut] using Bf9 post pre [] h
   have hl:(pre++46::post).length=pre.length+post.length+1:=by simp;omega
   have sl1:List.drop (0:Int).toNat (List.take ((pre.length:Int)+0).toNat (pre++46::post))=pre:=by simp
   have sl2:List.drop ((pre.length:Int)+1).toNat (List.take (pre++46::post).length (pre++46::post))=post:=by
    have:((pre.length:Int)+1).toNat=pre.length+1:=by omega
    rw [this,Df,List.drop_append];simp
   have sl3:(done++[]::[]::List.replicate (post.count 46) ([]:List UInt8)).length=done.length+post.count 46+2:=by simp;omega
   refine ⟨(done++[pre],post),?_,⟨by simp;omega,by simp only;omega⟩,by simp;omega,by simp [Ck2,cu]⟩;rw [c0];rw [c0] at h1;simp (disch:=omega) only [At7,ff,i0,sl1,sl2,xe,EVP,EV,simprocAttr];simp [List.replicate_succ,List.set_append]
theorem j7 (s:List UInt8) (hs:s.length≤1000000):S cj 4 [.s s, .s [46], .i .i64 0, .i .i64 (-1)]=some [Bl (cut s)]:=by
 refine Hq2 (N:=s.length+1) rfl ?_;have h1:=Cv3 s;have h2:s.count 46≤s.length:=List.count_le_length;obtain ⟨l,x,hx⟩:∃l x,cut s=l++[x]:=⟨(cut s).dropLast,(cut s).getLast (by intro e;simp [e] at h1),(List.dropLast_concat_getLast _).symm⟩;have h3:l.length=s.count 46:=by rw [hx] at h1;simpa using h1
 have h4:((l.length:Int)+1 - 1)=(l.length:Int):=by omega
 have h5:((l++[([]:List UInt8)]).length:Int)=l.length+1:=by simp
 have h6:((l++[x]).length:Int)=l.length+1:=by simp
 have g1:(l++[([]:List UInt8)])[l.length]? =some []:=by simp
 have g2:(l++[x]).getLastD []=x:=by simp [List.getLastD_eq_getLast?]
 have g3:(l++[([]:List UInt8)]).set l.length x=l++[x]:=by simp
 have hk:=j8 s (s.length+1) (by omega) hs (.i .i64 (-1)) .u;rw [hx] at hk ⊢;simp only [Ck2,Cf,List.dropLast_concat] at hk;simp (disch:=omega) only [At7,Db2,hk,h4,h6,g1,g2,g3,xe,EVP,EV,simprocAttr];have g4:((l.length:Int)+1).toNat=(l++[x]).length:=by simp
 rw [g4,Df];rfl
theorem fz (s:List UInt8) (hs:s.length≤1000000):S U0 2 [.s s, .s [46]]=some [Bl (cut s)]:=by refine Hw0 (N:=1) rfl ?_;simp (disch:=omega) only [Gm5,j7,xe,EVP,EV,simprocAttr]
theorem Yl (s t:List UInt8) (hs:s.length≤9223372036854775807):S cq 2 [.s s, .s t]=some [.b (t.isSuffixOf s)]:=by
 refine Hq3 (N:=1) rfl ?_;by_cases h:t.length≤s.length
 ·have e:((s.length:Int) - (t.length:Int)).toNat=s.length - t.length:=by omega
  simp (disch:=omega) only [Ec4,e,xe,EVP,EV,simprocAttr];simp only [Df];congr 4;rw [Cp,Kn,decide_eq_true_eq];refine ⟨fun h=>h▸List.drop_suffix _ _,fun h=> ?_⟩;obtain ⟨p,rfl⟩:=h;simp
 ·have h2:t.isSuffixOf s=false:=by rw [oh,ne_eq,Kn];exact fun h'=>h h'.length_le
  simp (disch:=omega) only [Ec4,h2,xe,EVP,EV,simprocAttr]
theorem Ld (s t:List UInt8) (hs:s.length≤9223372036854775807):S U1 2 [.s s, .s t]=some [.b (t.isSuffixOf s)]:=by refine Hw1 (N:=1) rfl ?_;simp (disch:=omega) only [Gm6,Yl,xe,EVP,EV,simprocAttr]
theorem ox (x y:List UInt8):S cg 2 [.s x, .s y]=some [.i .i64 (Lib.compareBytes x y)]:=by refine Hq8 (N:=1) rfl ?_;simp (disch:=omega) only [Gl9,Gw0,xe,EVP,EV,simprocAttr]
theorem oq (x y:List UInt8):S af 2 [.s x, .s y]=some [.i .i64 (Lib.compareBytes x y)]:=by refine Ic0 (N:=1) rfl ?_;simp (disch:=omega) only [Iv6,ox,xe,EVP,EV,simprocAttr]
end Go.X.G
/- Names and their labels. -/
namespace Go.X.G
open Go Go.X
def flat (l:List (List UInt8)):List UInt8:=l.flatMap fun x=>x++[46]
def jn (l:List (List UInt8)):List UInt8:=if l=[] then [46] else flat l
def Gl (first:Bool):List (List UInt8)→Bool
 |[]=>true
 |p::r=>L8 p && (!decide (p=[42])||first) && Gl false r
theorem Ft5:Tf 46=false:=by decide
theorem K9 {p:List UInt8} (h:L8 p=true):(46:UInt8)∉p:=by
 unfold L8 at h;simp at h;rcases h with rfl|⟨_,h⟩
 ·decide
 ·intro h2;have:=h 46 h2;rw [Ft5] at this;cases this
theorem vg {p:List UInt8} (h:L8 p=true):p≠[]:=by rintro rfl;simp [L8] at h
theorem Hf {p:List UInt8}:∀{f:Bool} {l:List (List UInt8)},Gl f l=true→p∈l→L8 p=true
 |f,q::r,h,hp=>by
  simp only [Gl,Aw] at h;rcases Am.1 hp with rfl|hp
  ·exact h.1.1
  ·exact Hf h.2 hp
theorem Al4:∀{l:List (List UInt8)},Gl false l=true→Gl true l=true
 |[],_=>rfl
 |p::r,h=>by simp only [Gl,Aw] at h ⊢;exact ⟨⟨h.1.1,by simp⟩,h.2⟩
theorem dr:∀{f:Bool} {a b:List (List UInt8)},Gl f (a++b)=(Gl f a && Gl (f && a.isEmpty) b)
 |f,[],b=>by simp [Gl]
 |f,p::r,b=>by simp only [B5,Gl,dr (a:=r)];simp [Bool.and_assoc]
theorem Al5 {f:Bool} {l:List (List UInt8)} (h:Gl f l=true) (k:Nat):Gl f (l.drop k)=true:=by
 rw [←B0 k l,dr,Aw] at h;have h2:=h.2;cases f with
 |false=>simpa using h2
 |true=>
  cases he:(l.take k).isEmpty with
  |true=>rw [he] at h2;exact h2
  |false=>rw [he] at h2;exact Al4 h2
theorem Q8:∀(m:List UInt8) (f:Bool) (cur:List UInt8),spl f cur (m++[46])=if Gl f (pcs cur m)=true then some (pcs cur m) else none
 |[],f,cur=>by simp only [Cf,spl,if_true,pcs,Gl,A5,Oy];by_cases h:L8 cur=true<;>by_cases h2:cur=[42]<;>cases f<;>simp [h,h2]
 |c::r,f,cur=>by
  simp only [B5,spl,pcs];by_cases hc:c=46
  ·simp only [if_pos hc];rw [Q8 r false []];simp only [Gl];by_cases h:L8 cur=true<;>by_cases h2:cur=[42]<;>cases f<;>by_cases h3:Gl false (pcs [] r)=true<;>simp [h,h2,h3]
  ·simp only [if_neg hc];exact Q8 r f (cur++[c])
theorem Rf (b:List UInt8):∀(a cur:List UInt8),pcs cur (a++46::b)=pcs cur a++cut b
 |[],cur=>by simp [pcs,cut]
 |c::r,cur=>by
  simp only [B5,pcs];split
  ·rw [Rf b r []];rfl
  ·exact Rf b r _
theorem Ql:∀(m cur:List UInt8),flat (pcs cur m)=cur++m++[46]
 |[],cur=>by simp [pcs,flat]
 |c::r,cur=>by
  simp only [pcs];split
  ·rename_i h;have:=Ql r [];simp only [flat,I5] at this ⊢;rw [this,h];simp
  ·rw [Ql r (cur++[c])];simp
theorem v7 (a b:List (List UInt8)):flat (a++b)=flat a++flat b:=by simp [flat]
theorem Hy4 (cur m:List UInt8):pcs cur m≠[]:=by
 cases m with
 |nil=>simp [pcs]
 |cons c r=>
  simp only [pcs];split
  ·simp
  ·intro h;have:=Ql r (cur++[c]);rw [h] at this;simp [flat] at this
theorem Qn:∀(l:List (List UInt8)),(∀p∈l,(46:UInt8)∉p)→cut (flat l)=l++[[]]
 |[],_=>rfl
 |p::l,h=>by
  have h1:flat (p::l)=p++46::flat l:=by simp [flat]
  rw [h1];show pcs [] _=_;rw [Rf,Ws p [] (h p (by simp)),Qn l (fun q hq=>h q (by simp [hq]))];simp
theorem Jl:∀(l:List (List UInt8)),l≠[]→∃m,flat l=m++[46]
 |[p],_=>⟨p,by simp [flat]⟩
 |p::q::r,_=>by obtain ⟨m,hm⟩:=Jl (q::r) (by simp);exact ⟨p++[46]++m,by simp only [flat,I5] at hm ⊢;rw [hm];simp⟩
theorem wz {l:List (List UInt8)} (hl:l≠[]) (h:∀p∈l,(46:UInt8)∉p) {m:List UInt8} (hm:flat l=m++[46]):cut m=l:=by
 have h1:=Qn l h;rw [hm] at h1;have h2:cut (m++[46])=cut m++[[]]:=by show pcs [] (m++46::[])=_;rw [Rf];rfl
 rw [h2] at h1;exact Ox h1
theorem Jq {l:List (List UInt8)} (h:Gl true l=true) (hl:l≠[]):2≤(flat l).length:=by
 cases l with
 |nil=>exact absurd rfl hl
 |cons p r=>
  have h1:=vg (Hf h (F9 ..));have:0<p.length:=Bc.2 h1;simp [flat];omega
theorem Fr6 {l:List (List UInt8)} (h:Gl true l=true) (hl:l≠[]) (hlen:(flat l).length≤254):nm (flat l)=some l:=by obtain ⟨m,hm⟩:=Jl l hl;have h1:=wz hl (fun p hp=>K9 (Hf h hp)) hm;have h2:=Jq h hl;unfold nm;rw [if_neg (by intro e;rw [e] at h2;simp at h2),if_pos ⟨h2,hlen,by rw [hm];simp⟩,hm,Q8];have:pcs [] m=l:=h1;rw [this,if_pos h]
theorem Fr5 {n:List UInt8} {l:List (List UInt8)} (h:nm n=some l):(n=[46]∧l=[])∨(l≠[]∧Gl true l=true∧n=flat l∧n.length≤254):=by
 unfold nm at h;split at h
 ·rename_i e;injection h with h;exact .inl ⟨e,h.symm⟩
 ·split at h
  ·rename_i h1;right;obtain ⟨h2,h3,h4⟩:=h1;obtain ⟨m,hm⟩:∃m,n=m++[46]:=by
    refine ⟨n.dropLast,?_⟩;have:n≠[]:=by intro e;simp [e] at h2
    have h5:=List.dropLast_concat_getLast this;rw [←h5];congr 1
    ·simp
    ·have h6:n[n.length - 1]? =some (n.getLast this):=by rw [I3];exact Az _
     rw [h6] at h4;injection h4 with h4;simp [h4]
   rw [hm,Q8] at h;split at h
   ·rename_i h5;injection h with h;subst h;refine ⟨Hy4 _ _,h5,?_,by omega⟩;rw [Ql,hm];simp
   ·cases h
  ·cases h
theorem Fh6 {n:List UInt8}:vld n=true↔nm n=some (lbl n):=by unfold vld lbl;cases nm n<;>simp
theorem vld_cases {n:List UInt8} (h:vld n=true):(n=[46]∧lbl n=[])∨(lbl n≠[]∧Gl true (lbl n)=true∧n=flat (lbl n)∧n.length≤254):=Fr5 (Fh6.1 h)
theorem Dd9 {n:List UInt8} (h:vld n=true):Gl true (lbl n)=true:=by
 rcases vld_cases h with ⟨_,h⟩|⟨_,h,_⟩
 ·rw [h];rfl
 ·exact h
theorem Tr {n:List UInt8} (h:vld n=true):n=jn (lbl n):=by
 unfold jn;rcases vld_cases h with ⟨h1,h2⟩|⟨h1,_,h2,_⟩
 ·rw [h2,if_pos rfl];exact h1
 ·rw [if_neg h1];exact h2
theorem Jz {n:List UInt8} (h:vld n=true):n.length≤254:=by
 rcases vld_cases h with ⟨h1,_⟩|⟨_,_,_,h⟩
 ·simp [h1]
 ·exact h
theorem Qg:lbl [46]=[]:=rfl
theorem d5 {l:List (List UInt8)} (h:Gl true l=true) (hl:l≠[]):flat l≠[46]:=by intro e;have:=Jq h hl;rw [e] at this;simp at this
theorem Bp1 {n:List UInt8} (h:vld n=true):lbl n=[]↔n=[46]:=by
 rcases vld_cases h with ⟨h1,h2⟩|⟨h1,h2,h3,_⟩
 ·simp [h1,Qg]
 ·constructor
  ·intro e;exact absurd e h1
  ·intro e;rw [h3] at e;exact absurd e (d5 h2 h1)
theorem Gp1 {l:List (List UInt8)} (h:Gl true l=true) (hlen:(flat l).length≤254):vld (jn l)=true∧lbl (jn l)=l:=by
 unfold jn;by_cases hl:l=[]
 ·subst hl;exact ⟨rfl,rfl⟩
 ·rw [if_neg hl];have:=Fr6 h hl hlen;exact ⟨by simp [vld,this],by simp [lbl,this]⟩
theorem R8 {a b:List UInt8} (ha:vld a=true) (hb:vld b=true) (h:lbl a=lbl b):a=b:=by rw [Tr ha,Tr hb,h]
theorem Xh (l:List (List UInt8)) (k:Nat):(flat (l.drop k)).length≤(flat l).length:=by
 have:flat l=flat (l.take k)++flat (l.drop k):=by rw [←v7,B0]
 rw [this,Ac];omega
theorem M9 {n:List UInt8} (h:vld n=true) (k:Nat):vld (jn ((lbl n).drop k))=true∧lbl (jn ((lbl n).drop k))=(lbl n).drop k:=by
 refine Gp1 (Al5 (Dd9 h) k) ?_;rcases vld_cases h with ⟨_,h1⟩|⟨_,_,h1,h2⟩
 ·rw [h1];simp [flat]
 ·have:=Xh (lbl n) k;rw [←h1] at this;omega
theorem Qv {n:List UInt8} (h:vld n=true):0<n.length:=by
 rcases vld_cases h with ⟨h1,_⟩|⟨h1,h2,h3,_⟩
 ·simp [h1]
 ·have:=Jq h2 h1;rw [h3];omega
end Go.X.G
/- Names: what the program's functions give. -/
namespace Go.X.G
open Go Go.X
def ord (s:List UInt8):Bool:=decide (1≤s.length) && decide (s.length≤63) && s.all Tf
theorem Cj5 (s:List UInt8):L8 s=(decide (s=[42])||ord s):=rfl
theorem Dt2:ord [42]=false:=by decide
theorem jk (s:List UInt8) (N:Nat) (hN:s.length<N) (hs:s.length≤9223372036854775807):
  Bt1.ev S N [.s s]=some (if s.all Tf=true then .yld 0 [] else .ret [.b false]):=by
 refine E2 s (fun i=>[.i .i64 (i:Int)]) (fun i r=>if r.all Tf=true then .yld 0 [] else .ret [.b false]) rfl hN (fun i c r hd hi hc=> ?_) ?_
 ·have key:nd.ev S N ([.s s]++[.i .i64 (i:Int)])=some (if Tf c=true then .yld 1 [.i .i64 ((i:Int)+1)] else .ret [.b false]):=by
   simp (disch:=omega) only [Y7,hc,xe,EVP,EV,simprocAttr];unfold Tf
   grind
  rw [key];rcases Aq (Tf c) with h|h<;>simp [h,Out.goes]
 ·simp (disch:=omega) [Y7,xe,EVP,EV,simprocAttr,Out.goes]
theorem J4 (s:List UInt8) (hs:s.length≤9223372036854775807):S c6 1 [.s s]=some [.b (ord s)]:=by
 refine Hv9 (N:=s.length+1) rfl ?_;unfold ord;by_cases h1:s=[]
 ·subst h1;simp (disch:=omega) [Y7,xe,EVP,EV,simprocAttr]
 ·have h2:1≤s.length:=Bc.2 h1;by_cases h3:s.length≤63
  ·simp (disch:=omega) only [Y7,jk,h1,xe,EVP,EV,simprocAttr];cases s.all Tf<;>simp [h2,h3]
  ·simp (disch:=omega) only [Y7,h1,xe,EVP,EV,simprocAttr];simp [h3]
def okP (i:Nat) (p:List UInt8):Bool:=ord p||(decide (i=0) && decide (p=[42]))
def Ej2:Nat→List (List UInt8)→Bool
 |_,[]=>true
 |i,p::r=>okP i p && Ej2 (i+1) r
theorem ax:∀(l:List (List UInt8)) (i:Nat),Ej2 i l=Gl (decide (i=0)) l
 |[],_=>rfl
 |p::r,i=>by
  have h1:=ax r (i+1);simp only [Ej2,Gl,h1,okP,Cj5];by_cases h2:p=[42]
  ·subst h2;by_cases h3:i=0<;>simp [Dt2,h3]
  ·simp [h2]
theorem Dz3 (p q:PV) (l:List (List UInt8)) (hl:l.length≤1000000) (hw:∀x∈l,x.length≤9223372036854775807) (N:Nat) (hN:l.length<N):
  Eh5.ev S N [p,q,Bl l]=some (if Ej2 0 l=true then .yld 0 [] else .ret [.b false]):=by
 refine E2 l (fun i=>[.i .i64 (i:Int)]) (fun i r=>if Ej2 i r=true then .yld 0 [] else .ret [.b false]) rfl hN (fun i c r hd hi hc=> ?_) ?_
 ·have hcw:=hw c (A4 hc);have key:Dx5.ev S N ([p,q,Bl l]++[.i .i64 (i:Int)])=some (if okP i c=true then .yld 1 [.i .i64 ((i:Int)+1)] else .ret [.b false]):=by
   rcases Aq (ord c) with h1|h1
   ·simp (disch:=omega) only [V8,J4,hc,h1,xe,EVP,EV,simprocAttr];simp [okP,h1]
   ·by_cases h2:i=0
    ·subst h2;by_cases h3:c=[42]
     ·subst h3;simp (disch:=omega) only [V8,J4,hc,h1,xe,EVP,EV,simprocAttr];simp [okP]
     ·simp (disch:=omega) only [V8,J4,hc,h1,h3,xe,EVP,EV,simprocAttr];simp [okP,h1,h3]
    ·simp (disch:=omega) only [V8,J4,hc,h1,xe,EVP,EV,simprocAttr];simp [okP,h1,h2]
  rw [key];rcases Aq (okP i c) with h|h<;>simp [h,Ej2,Out.goes]
 ·simp (disch:=omega) only [V8,xe,EVP,EV,simprocAttr];simp [Out.goes,Ej2]
theorem Wt:∀(m cur:List UInt8) (x:List UInt8),x∈pcs cur m→x.length≤cur.length+m.length
 |[],cur,x,h=>by simp [pcs] at h;subst h;simp
 |c::r,cur,x,h=>by
  simp only [pcs] at h;split at h
  ·rcases Am.1 h with rfl|h
   ·omega
   ·have:=Wt r [] x h;simp at this ⊢;omega
  ·have:=Wt r _ x h;simp at this ⊢;omega
theorem Ex7 (m x:List UInt8) (h:x∈cut m):x.length≤m.length:=by simpa using Wt m [] x h
theorem Hs8 (m:List UInt8):(cut m).length≤m.length+1:=by have:=Cv3 m;have:m.count 46≤m.length:=List.count_le_length;omega
theorem Bk4 (n:List UInt8):([46]:List UInt8).isSuffixOf n=true↔∃m,n=m++[46]:=by rw [Kn];exact ⟨fun ⟨m,h⟩=>⟨m,h.symm⟩,fun ⟨m,h⟩=>⟨m,h.symm⟩⟩
theorem Dd8 (m:List UInt8) (hm:m≠[]) (hl:m.length≤253):vld (m++[46])=Ej2 0 (cut m):=by have h1:m++[46]≠[46]:=fun e=>hm (Ox (bs:=[46]) (by simpa using e));have h2:0<m.length:=Bc.2 hm;unfold vld nm;rw [if_neg h1,if_pos ⟨by simp;omega,by simp;omega,by simp⟩,Q8,ax];have e:pcs [] m=cut m:=rfl;have e2:Gl (decide ((0:Nat)=0)) (cut m)=Gl true (cut m):=rfl;rw [e,e2];cases Gl true (cut m)<;>rfl
theorem Eq3 (m:List UInt8) (h:vld (m++[46])=true) (hm:m≠[]):lbl (m++[46])=cut m:=by
 rcases vld_cases h with ⟨h1,_⟩|⟨h1,h2,h3,_⟩
 ·exact absurd (Ox (bs:=[46]) (by simpa using h1)) hm
 ·exact (wz h1 (fun p hp=>K9 (Hf h2 hp)) h3.symm).symm
theorem Bs (n:List UInt8) (hn:n.length≤9223372036854775807):S J5 1 [.s n]=some [.b (vld n)]:=by
 refine Id1 (N:=300) rfl ?_;by_cases h0:n=[46]
 ·subst h0;simp (disch:=omega) only [V8,xe,EVP,EV,simprocAttr];rfl
 ·by_cases h1:255≤n.length
  ·have hv:vld n=false:=by rw [oh];intro h;have:=Jz h;omega
   simp (disch:=omega) only [V8,h0,hv,xe,EVP,EV,simprocAttr]
  ·rcases Aq (([46]:List UInt8).isSuffixOf n) with h2|h2
   ·obtain ⟨m,rfl⟩:=(Bk4 n).1 h2;have hm:m≠[]:=fun e=>h0 (by simp [e]);have hl:(m++[46]).length=m.length+1:=by simp
    have hml:m.length≤1000000:=by omega
    have e:List.drop 0 (List.take (((m++[46]).length:Int) - 1).toNat (m++[46]))=m:=by
     have:(((m++[46]).length:Int) - 1).toNat=m.length:=by omega
     rw [this];simp
    have hc:=Hs8 m;have hv:=Dd8 m hm (by omega);have hk:=Dz3 (.s (m++[46])) (.b true) (cut m) (by omega) (fun x hx=>by have:=Ex7 m x hx;omega) 300 (by omega);simp (disch:=omega) only [V8,Ld,fz,e,hk,h0,h2,xe,EVP,EV,simprocAttr];rw [hv];cases Ej2 0 (cut m)<;>simp
   ·have hv:vld n=false:=by
     rw [oh];intro h;rcases vld_cases h with ⟨h3,_⟩|⟨h3,_,h5,_⟩
     ·exact h0 h3
     ·obtain ⟨m,hm⟩:=Jl _ h3;have:=(Bk4 n).2 ⟨m,h5.trans hm⟩;rw [h2] at this;cases this
    simp (disch:=omega) only [V8,Ld,h0,h2,hv,xe,EVP,EV,simprocAttr]
theorem Pq (n:List UInt8) (hn:n.length≤9223372036854775807):S jz 1 [.s n]=some [Bl (lbl n)]:=by
 refine Ib9 (N:=1) rfl ?_;by_cases h0:n=[46]
 ·subst h0;simp (disch:=omega) only [Fh1,Qg,xe,EVP,EV,simprocAttr]
 ·rcases Aq (vld n) with h1|h1
  ·obtain ⟨m,hm,rfl⟩:∃m,m≠[]∧n=m++[46]:=by
    rcases vld_cases h1 with ⟨h3,_⟩|⟨h3,_,h5,_⟩
    ·exact absurd h3 h0
    ·obtain ⟨m,hm⟩:=Jl _ h3;exact ⟨m,fun e=>h0 (by rw [h5,hm,e];rfl),h5.trans hm⟩
   have hl:(m++[46]).length=m.length+1:=by simp
   have e:List.drop 0 (List.take (((m++[46]).length:Int) - 1).toNat (m++[46]))=m:=by
    have:(((m++[46]).length:Int) - 1).toNat=m.length:=by omega
    rw [this];simp
   have hl2:=Jz h1;have e2:=Eq3 m h1 hm;simp (disch:=omega) only [Fh1,Bs,fz,e,e2,h0,h1,xe,EVP,EV,simprocAttr]
  ·have e:lbl n=[]:=by
    unfold lbl;unfold vld at h1;cases h:nm n with
    |none=>rfl
    |some l=>rw [h] at h1;cases h1
   simp (disch:=omega) only [Fh1,Bs,h0,h1,e,xe,EVP,EV,simprocAttr]
theorem N2 (p:List UInt8) (l:List (List UInt8)):flat (p::l)=p++46::flat l:=by simp [flat]
def O0 (n:List UInt8):List UInt8:=if vld n=true∧n≠[46] then jn ((lbl n).drop 1) else []
def vh (n:List UInt8):Bool:=vld n && !decide (n=[46])
theorem Vr (n:List UInt8) (hn:n.length≤9223372036854775807):S U2 1 [.s n]=some [.s (O0 n), .b (vh n)]:=by
 refine Hw4 (N:=1) rfl ?_;unfold O0 vh;by_cases h0:n=[46]
 ·subst h0;simp (disch:=omega) only [o5,xe,EVP,EV,simprocAttr];simp
 ·rcases Aq (vld n) with h1|h1
  ·rcases vld_cases h1 with ⟨h3,_⟩|⟨h3,h4,h5,h6⟩
   ·exact absurd h3 h0
   ·cases hl:lbl n with
    |nil=>exact absurd hl h3
    |cons p r=>
     rw [hl] at h4 h5;have hp:=K9 (Hf h4 (F9 ..));have hi:=fg n 46;have hc:(((46:UInt8).toNat:Nat):Int)=46:=rfl;have hx:Lib.indexByte n 46=(p.length:Int):=by rw [h5,N2];exact Jd 46 _ p hp
     rw [hc,hx] at hi;have hlen:n.length=p.length+1+(flat r).length:=by rw [h5,N2];simp;omega
     have e:List.drop ((p.length:Int)+1).toNat (List.take n.length n)=flat r:=by
      have:((p.length:Int)+1).toNat=p.length+1:=by omega
      rw [this,Df,h5,N2];simp
     by_cases h7:r=[]
     ·subst h7;have e2:flat []=[]:=rfl;simp (disch:=omega) only [o5,Bs,hi,e,e2,h0,h1,xe,EVP,EV,simprocAttr];simp [jn]
     ·have e2:¬flat r=[]:=by obtain ⟨m,hm⟩:=Jl r h7;rw [hm];simp
      simp (disch:=omega) only [o5,Bs,hi,e,e2,h0,h1,xe,EVP,EV,simprocAttr];simp [jn,h7]
  ·simp (disch:=omega) only [o5,Bs,h0,h1,xe,EVP,EV,simprocAttr];simp
def ky (n top:List UInt8):Bool:=(decide (top=[46])||decide (n=top))||(46::top).isSuffixOf n
theorem kx (n top:List UInt8) (hn:n.length≤9223372036854775807) (ht:top.length≤1000000):S Ag8 2 [.s n, .s top]=some [.b (ky n top)]:=by
 refine Ic1 (N:=1) rfl ?_;unfold ky;have h0:([46]:List UInt8).length=1:=rfl;by_cases h1:top=[46]<;>by_cases h2:n=top<;>simp (disch:=omega) only [Iv7,Ld,h1,h2,xe,EVP,EV,simprocAttr]
 all_goals simp
theorem kq {a b:List (List UInt8)} (ha:Gl true a=true) (hb:Gl true b=true) (h:(46::flat b)<:+flat a):b<:+a:=by obtain ⟨p,hp⟩:=h;have h1:=Qn a (fun x hx=>K9 (Hf ha hx));have h2:=Qn b (fun x hx=>K9 (Hf hb hx));rw [←hp] at h1;have h3:cut (p++46::flat b)=cut p++cut (flat b):=Rf (flat b) p [];rw [h3,h2,←As] at h1;exact ⟨cut p,Ox h1⟩
theorem wk {n top:List UInt8} (hn:vld n=true) (ht:vld top=true):ky n top=true↔lbl top<:+lbl n:=by
 unfold ky;simp only [Ap,decide_eq_true_eq,Kn];constructor
 ·rintro ((rfl|rfl)|h)
  ·rw [Qg];exact List.nil_suffix
  ·exact List.suffix_refl _
  ·rcases vld_cases ht with ⟨h1,h2⟩|⟨h1,h2,h3,_⟩
   ·rw [h2];exact List.nil_suffix
   ·rcases vld_cases hn with ⟨h5,_⟩|⟨h5,h6,h7,_⟩
    ·rw [h5] at h;have h9:=h.length_le;have h8:=Jq h2 h1;rw [←h3] at h8;simp only [A6,Bd] at h9;omega
    ·rw [h3,h7] at h;exact kq h6 h2 h
 ·intro h;obtain ⟨p,hp⟩:=h;rcases vld_cases ht with ⟨h1,h2⟩|⟨h1,h2,h3,_⟩
  ·exact .inl (.inl h1)
  ·by_cases hp0:p=[]
   ·left;right;subst hp0;exact R8 hn ht hp.symm
   ·right;rcases vld_cases hn with ⟨_,h5⟩|⟨h5,h6,h7,_⟩
    ·rw [h5] at hp;exact absurd (List.append_eq_nil_iff.1 hp).1 hp0
    ·obtain ⟨m,hm⟩:=Jl p hp0;rw [h7,←hp,v7,hm];exact ⟨m,by rw [As,←h3];simp⟩
theorem Sp {α:Type} [DecidableEq α]:∀(a b:List α),Sr a b=b.length↔b<+:a
 |[],[]=>by simp [Sr]
 |[],y::ys=>by simp [Sr]
 |x::xs,[]=>by simp [Sr]
 |x::xs,y::ys=>by
  have:=Sp xs ys;simp only [Sr];split
  ·rename_i h;subst h;simp [this,Hq]
  ·rename_i h;simp [Hq,Ne.symm h]
theorem Z0 (a b:List (List UInt8)):Kl a b=b.length↔b<:+a:=by unfold Kl;have:=Sp a.reverse b.reverse;rw [List.length_reverse] at this;rw [this,Fg4]
theorem Dj {n top:List UInt8}:under n top=true↔vld n=true∧vld top=true∧lbl top<:+lbl n:=by unfold under;simp [Z0,and_assoc]
theorem Ay8 {n top:List UInt8} (hn:vld n=true) (ht:vld top=true):ky n top=under n top:=by rw [Cp,wk hn ht,Dj];simp [hn,ht]
theorem E6 (n top:List UInt8) (hn:n.length≤9223372036854775807) (ht:top.length≤9223372036854775807):S O4 2 [.s n, .s top]=some [.b (under n top)]:=by
 refine If8 (N:=1) rfl ?_;rcases Aq (vld n) with h1|h1
 ·rcases Aq (vld top) with h2|h2
  ·have h3:=Jz h2;simp (disch:=omega) only [Fh3,Bs,kx,h1,h2,xe,EVP,EV,simprocAttr];rw [Ay8 h1 h2]
  ·have h3:under n top=false:=by simp [under,h2]
   simp (disch:=omega) only [Fh3,Bs,h1,h2,h3,xe,EVP,EV,simprocAttr]
 ·have h3:under n top=false:=by simp [under,h1]
  simp (disch:=omega) only [Fh3,Bs,h1,h3,xe,EVP,EV,simprocAttr]
end Go.X.G
/- Names: order, common ancestors, wildcards. -/
namespace Go.X.G
open Go Go.X
theorem Pt:∀(a:List UInt8),Op.bytesLess a a=false
 |[]=>rfl
 |a::x=>by simp [Op.bytesLess,Pt x]
theorem Lx:∀(a b:List UInt8),Lib.compareBytes a b=cmpS a b
 |[],[]=>rfl
 |[],_::_=>rfl
 |_::_,[]=>rfl
 |a::x,b::y=>by
  have ih:=Lx x y;unfold cmpS at ih ⊢;simp only [Lib.compareBytes,Op.bytesLess,ih];by_cases h1:a<b
  ·simp [h1]
  ·by_cases h2:b<a
   ·have h3:a≠b:=fun e=>by subst e;exact h1 h2
    simp [h1,h2,h3]
   ·have h3:a=b:=UInt8.le_antisymm (UInt8.not_lt.1 h2) (UInt8.not_lt.1 h1);subst h3;simp [h1]
theorem Hp {a b:List UInt8}:cmpS a b=0↔a=b:=by
 unfold cmpS;by_cases h:a=b
 ·subst h;simp [Pt]
 ·cases h2:Op.bytesLess a b<;>simp [h]
theorem Kv (x y:List UInt8):S af 2 [.s x, .s y]=some [.i .i64 (cmpS x y)]:=by rw [oq,Lx]
def Qr:List (List UInt8)→List (List UInt8)→Option Int
 |x::xs,y::ys=>if x=y then Qr xs ys else some (cmpS x y)
 |_,_=>none
theorem Cv7:∀(a b:List (List UInt8)),Qr a b=if Sr a b<a.length∧Sr a b<b.length then some (cmpS (a.getD (Sr a b) []) (b.getD (Sr a b) [])) else none
 |[],b=>by simp [Qr,Sr]
 |x::xs,[]=>by simp [Qr,Sr]
 |x::xs,y::ys=>by
  have ih:=Cv7 xs ys;simp only [Qr,Sr];by_cases h:x=y
  ·simp only [if_pos h,ih];simp
  ·simp [h]
def lv (a b:List (List UInt8)):Int:=match Qr a.reverse b.reverse with
 |some c=>c
 |none=>if a.length<b.length then -1 else if b.length<a.length then 1 else 0
theorem vn (a:List (List UInt8)) (k:Nat) (h:k<a.length):a.reverse.getD k []=a.getD (a.length - 1 - k) []:=by simp [Bh,List.getElem?_reverse h]
theorem Ss {a b:List UInt8} (ha:vld a=true) (hb:vld b=true):H1 a b=lv (lbl a) (lbl b):=by
 unfold H1 lv;rw [Cv7];have e:Sr (lbl a).reverse (lbl b).reverse=Kl (lbl a) (lbl b):=rfl;rw [e,ha,hb];simp only [List.length_reverse,Bool.and_self,if_true];by_cases h:Kl (lbl a) (lbl b)<(lbl a).length∧Kl (lbl a) (lbl b)<(lbl b).length
 ·rw [if_pos h,if_pos h,vn _ _ h.1,vn _ _ h.2]
 ·rw [if_neg h,if_neg h]
theorem ow (a b:List (List UInt8)) (p1 p2 p3 p4:PV) (ha:a.length≤1000) (hb:b.length≤1000) (N:Nat) (hN:1001<N):
  Br5.ev S N [p1,p2,p3,p4,Bl a,Bl b]=some (match Qr a.reverse b.reverse with|some c=> .ret [.i .i64 c]|none=> .yld 0 []):=by
 have key:=K7 (fn:=S) (N:=N) (η:=[p1,p2,p3,p4,Bl a,Bl b]) (id:=1) (init:=[(.c (.i .i64 (1)))]) (body:=Dx6) (α:=Nat) (fun k=>[.i .i64 ((k:Int)+1)])
  (fun k=>match Qr (a.reverse.drop k) (b.reverse.drop k) with|some c=> .ret [.i .i64 c]|none=> .yld 0 []) (fun k=>k≤a.length∧k≤b.length) (fun k=>a.length - k) 0 rfl ⟨Cn _,Cn _⟩ (by omega) ?_
 ·simpa [Br5] using key
 ·rintro k ⟨h1,h2⟩;by_cases h3:k<a.length
  ·by_cases h4:k<b.length
   ·have e1:((a.length:Int) - ((k:Int)+1)).toNat=a.length - 1 - k:=by omega
    have e2:((b.length:Int) - ((k:Int)+1)).toNat=b.length - 1 - k:=by omega
    have g1:a[a.length - 1 - k]? =some (a[a.length - 1 - k]'(by omega)):=Az (by omega);have g2:b[b.length - 1 - k]? =some (b[b.length - 1 - k]'(by omega)):=Az (by omega);have d1:a.reverse.drop k=(a[a.length - 1 - k]'(by omega))::a.reverse.drop (k+1):=by rw [Dz (by simpa using h3)];simp
    have d2:b.reverse.drop k=(b[b.length - 1 - k]'(by omega))::b.reverse.drop (k+1):=by rw [Dz (by simpa using h4)];simp
    rw [d1,d2];generalize (a[a.length - 1 - k]'(by omega))=x at g1;generalize (b[b.length - 1 - k]'(by omega))=y at g2;simp only [Qr];by_cases h:x=y
    ·left;have h5:cmpS x y=0:=Hp.2 h;refine ⟨k+1,?_,⟨by omega,by omega⟩,by omega,by rw [if_pos h]⟩;simp (disch:=omega) only [gr,Kv,e1,e2,g1,g2,h5,xe,EVP,EV,simprocAttr]
    ·right;have h5:¬cmpS x y=0:=fun e=>h (Hp.1 e);rw [if_neg h];simp (disch:=omega) only [gr,Kv,e1,e2,g1,g2,h5,xe,EVP,EV,simprocAttr];simp [Out.goes]
   ·right;have d2:b.reverse.drop k=[]:=V2 (by simp;omega);have z:Qr (a.reverse.drop k) []=none:=by cases a.reverse.drop k<;>rfl
    rw [d2,z];simp (disch:=omega) [gr,xe,EVP,EV,simprocAttr,Out.goes]
  ·right;have d1:a.reverse.drop k=[]:=V2 (by simp;omega);have z:Qr [] (b.reverse.drop k)=none:=rfl;rw [d1,z];simp (disch:=omega) [gr,xe,EVP,EV,simprocAttr,Out.goes]
theorem G8 (a b:List UInt8) (hn:a.length≤9223372036854775807) (ht:b.length≤9223372036854775807):S Mh 2 [.s a, .s b]=some [.i .i64 (H1 a b)]:=by
 refine If7 (N:=1002) rfl ?_;have h1:=Mn a;have h2:=Mn b;rcases Aq (vld a) with h3|h3<;>rcases Aq (vld b) with h4|h4
 ·rw [Ss h3 h4];unfold lv;have hk:=ow (lbl a) (lbl b) (.s a) (.s b) (.b true) (.b true) (by omega) (by omega) 1002 (by omega);cases h5:Qr (lbl a).reverse (lbl b).reverse with
  |some c=>
   rw [h5] at hk;simp (disch:=omega) only [gr,Bs,Pq,hk,h3,h4,xe,EVP,EV,simprocAttr]
  |none=>
   rw [h5] at hk;simp (disch:=omega) only [gr,Bs,Pq,hk,h3,h4,xe,EVP,EV,simprocAttr]
   grind
 all_goals unfold H1
 all_goals simp (disch:=omega) only [gr,Bs,Kv,h3,h4,xe,EVP,EV,simprocAttr]
 all_goals simp
def Gm (a b:List UInt8):List UInt8:=if vld a=true∧vld b=true then jn ((lbl a).drop ((lbl a).length - Kl (lbl a) (lbl b))) else []
theorem Zw {α:Type} [DecidableEq α]:∀(a b:List α) (j:Nat),j≤a.length→(a.take j<+:b↔j≤Sr a b)
 |_,_,0,_=>by simp
 |[],_,j+1,h=>by simp at h
 |x::xs,[],j+1,h=>by simp [Sr]
 |x::xs,y::ys,j+1,h=>by
  have:=Zw xs ys j (by simpa using h);simp only [List.take_succ_cons,Sr,Hq];by_cases hxy:x=y
  ·simp [hxy,this]
  ·simp [hxy]
theorem Cv1 (a b:List (List UInt8)) (k:Nat) (h:k≤a.length):a.drop k<:+b↔a.length - k≤Kl a b:=by unfold Kl;rw [←Zw _ _ _ (by simp),←Fg4,List.reverse_drop]
theorem Bt8 {n:List UInt8} (h:vld n=true) (k:Nat):(jn ((lbl n).drop k)).length≤254:=Jz (M9 h k).1
theorem Db3 (a b:List UInt8) (p1 p2 p3 p4:PV) (ha:vld a=true) (hb:vld b=true) (N:Nat) (hN:300<N) (hp1:p1= .s a) (hp2:p2= .s b):
  jr.ev S N [p1,p2,p3,p4]=some (.yld 0 [.s (Gm a b)]):=by
 subst hp1;subst hp2;have hl:=Mn a;have hs:=Dp6 (lbl a) (lbl b);have hla:=Jz ha;have hlb:=Jz hb;have ec:Gm a b=jn ((lbl a).drop ((lbl a).length - Kl (lbl a) (lbl b))):=by unfold Gm;rw [if_pos ⟨ha,hb⟩]
 have key:=K7 (fn:=S) (N:=N) (η:=[.s a, .s b,p3,p4]) (id:=1) (init:=[(.v 0)]) (body:=ny) (α:=Nat) (fun k=>[.s (jn ((lbl a).drop k))])
  (fun k=> .yld 0 [.s (Gm a b)]) (fun k=>k+Kl (lbl a) (lbl b)≤(lbl a).length) (fun k=>(lbl a).length - k) 0 (by
   have:jn ((lbl a).drop 0)=a:=by rw [D2];exact (Tr ha).symm
   rw [this];rfl) (by omega) (by omega) ?_
 ·simpa [jr] using key
 ·intro k hk;obtain ⟨hv,hlk⟩:=M9 ha k;have hlen:=Bt8 ha k;have he:ky b (jn ((lbl a).drop k))=true↔(lbl a).length - k≤Kl (lbl a) (lbl b):=by rw [wk hb hv,hlk,Cv1 _ _ _ (by omega)]
  by_cases h:(lbl a).length - k≤Kl (lbl a) (lbl b)
  ·right;have h1:=he.2 h;have h2:(lbl a).length - Kl (lbl a) (lbl b)=k:=by omega
   simp (disch:=omega) only [Y5,kx,h1,xe,EVP,EV,simprocAttr];rw [ec,h2];simp [Out.goes]
  ·left;have h1:ky b (jn ((lbl a).drop k))=false:=by rw [oh];intro h2;exact h (he.1 h2)
   have h2:O0 (jn ((lbl a).drop k))=jn ((lbl a).drop (k+1)):=by
    unfold O0;have h3:jn ((lbl a).drop k)≠[46]:=by intro e;have:=(Bp1 hv).2 e;rw [hlk] at this;have:=congrArg List.length this;simp at this;omega
    rw [if_pos ⟨hv,h3⟩,hlk,C2]
   refine ⟨k+1,?_,by omega,by omega,rfl⟩;simp (disch:=omega) only [Y5,kx,Vr,h1,h2,xe,EVP,EV,simprocAttr]
theorem Ap3 (a b:List UInt8) (ha:a.length≤9223372036854775807) (hb:b.length≤9223372036854775807):S Un 2 [.s a, .s b]=some [.s (Gm a b)]:=by
 refine Hq7 (N:=301) rfl ?_;rcases Aq (vld a) with h3|h3
 ·rcases Aq (vld b) with h4|h4
  ·have hk:=Db3 a b (.s a) (.s b) (.b true) (.b true) h3 h4 301 (by omega) rfl rfl;simp (disch:=omega) only [Y5,Bs,hk,h3,h4,xe,EVP,EV,simprocAttr]
  ·simp (disch:=omega) only [Y5,Bs,h3,h4,xe,EVP,EV,simprocAttr];simp [Gm,h4]
 ·simp (disch:=omega) only [Y5,Bs,h3,xe,EVP,EV,simprocAttr];simp [Gm,h3]
def Gg2 (n:List UInt8):Int:=if n=[46] then 1 else if vld n=true then (n.length:Int)+1 else 0
theorem Dz7 (n:List UInt8) (hn:n.length≤9223372036854775807):S Um 1 [.s n]=some [.i .i64 (Gg2 n)]:=by
 refine Hq6 (N:=1) rfl ?_;unfold Gg2;by_cases h:n=[46]
 ·simp (disch:=omega) only [At8,h,xe,EVP,EV,simprocAttr]
 ·rcases Aq (vld n) with h3|h3
  ·have:=Jz h3;simp (disch:=omega) only [At8,Bs,h,h3,xe,EVP,EV,simprocAttr]
  ·simp (disch:=omega) only [At8,Bs,h,h3,xe,EVP,EV,simprocAttr]
def Tx (n:List UInt8):List UInt8:=if n=[46] then [42,46] else [42,46]++n
def Nw (n:List UInt8):Bool:=vld n && !decide ((lbl n)[0]? =some [42]) && vld (Tx n)
def iz (n:List UInt8):List UInt8:=if Nw n=true then Tx n else []
theorem T3 {n:List UInt8} (h:vld n=true):(n[0]? =some 42↔(lbl n)[0]? =some [42]):=by
 rcases vld_cases h with ⟨h1,h2⟩|⟨h1,h2,h3,_⟩
 ·subst h1;simp [Qg]
 ·cases hl:lbl n with
  |nil=>exact absurd hl h1
  |cons p r=>
   rw [hl] at h2 h3;have hp:=Hf h2 (F9 ..);have hne:=vg hp;cases p with
   |nil=>exact absurd rfl hne
   |cons c q=>
    rw [h3,N2];simp only [B5,Ck,Ak];constructor
    ·rintro rfl;unfold L8 at hp;simp at hp;rcases hp with h|h
     ·rw [h]
     ·exfalso;have:Tf 42=false:=by decide
      rw [this] at h;simp at h
    ·intro h;injection h
theorem Ax9 (n:List UInt8) (hn:n.length≤1000000):S Bh2 1 [.s n]=some [.s (iz n), .b (Nw n)]:=by
 refine Ic2 (N:=1) rfl ?_;have h0:([42,46]:List UInt8).length=2:=rfl;have hl:(Tx n).length≤9223372036854775807:=by
  unfold Tx;split
  ·simp
  ·rw [Ac,h0];omega
 unfold iz Nw;have tail:T.ev S 1 Cx7 [.s n, .s (Tx n)]=some (.ret [.s (iz n), .b (Nw n)]):=by
  unfold iz Nw;rcases Aq (vld n) with h3|h3
  ·have h4:=T3 h3;have h5:=Az (Qv h3);have h6:=Iy7 (n[0]'(Qv h3)) 42 (by omega);by_cases h7:(lbl n)[0]? =some [42]
   ·have h8:=h4.2 h7;rw [h5] at h8;injection h8 with h8;have h9:((n[0]'(Qv h3)).toNat:Int)=42:=h6.2 h8;simp (disch:=omega) only [Dd5,Bs,h3,h5,xe,EVP,EV,simprocAttr];simp [h7]
   ·have h8:¬n[0]? =some 42:=fun e=>h7 (h4.1 e);rw [h5] at h8;have h9:¬((n[0]'(Qv h3)).toNat:Int)=42:=fun e=>h8 (by rw [h6.1 e];rfl);rcases Aq (vld (Tx n)) with ha|ha<;>simp (disch:=omega) only [Dd5,Bs,h3,h5,ha,xe,EVP,EV,simprocAttr]<;>simp [h7]
  ·simp (disch:=omega) only [Dd5,Bs,h3,xe,EVP,EV,simprocAttr];simp
 unfold iz Nw at tail;obtain ⟨y0,y1,y2,y3,y4,y5,y6,y7,yt⟩:=Dd5;by_cases h4:n=[46]
 ·have e:Tx n=[42,46]:=by simp [Tx,h4]
  rw [e] at tail ⊢;subst h4;simp (disch:=omega) only [y0,y1,y2,yt,xe,EVP,EV,simprocAttr];rw [tail];simp
 ·have e:Tx n=42::46::n:=by simp [Tx,h4]
  rw [e] at tail ⊢;simp (disch:=omega) only [y0,y1,y2,yt,h4,xe,EVP,EV,simprocAttr];rw [tail];simp
end Go.X.G
/- Data of records: what the reference's functions give. -/
namespace Go.X.G
open Go Go.X
theorem t15 (t:Int):t=1∨t=2∨t=5∨t=6∨t=12∨t=15∨t=16∨t=28∨t=33∨t=39∨t=43∨t=46∨t=47∨t=48∨(t≠1∧t≠2∧t≠5∧t≠6∧t≠12∧t≠15∧t≠16∧t≠28∧t≠33∧t≠39∧t≠43∧t≠46∧t≠47∧t≠48):=by omega
def knw (t:Int):Bool:=decide (t=1)||decide (t=2)||decide (t=5)||decide (t=6)||decide (t=12)||decide (t=15)||decide (t=16)||decide (t=28)||decide (t=33)||decide (t=39)||decide (t=43)||decide (t=46)||decide (t=47)||decide (t=48)
def D6 (d:Dat):Bool:=d.v6||(decide (d.hi=0) && decide (d.lo<4294967296))
def inB (n most:Int):Bool:=decide (0≤n) && decide (n≤most)
def It (s:List UInt8):Bool:=decide (1≤s.length) && decide (s.length≤255)
def Hd (n:List UInt8):Bool:=vld n && decide (n[0]? ≠some 42)
def bit (set:Int) (t:Nat):Int:=set / 2 ^ t % 2
theorem Iq8 (x:Int):IntKind.u64.wrap ((BitVec.ofInt IntKind.u64.bits x &&& BitVec.ofInt IntKind.u64.bits 1).toNat:Int)=x % 2:=by
 have h2:(BitVec.ofInt 64 x &&& BitVec.ofInt 64 1).toNat=(BitVec.ofInt 64 x).toNat % 2:=by rw [BitVec.toNat_and];show (BitVec.ofInt 64 x).toNat &&& 1=_;exact Nat.and_one_is_mod _
 show IntKind.u64.wrap (((BitVec.ofInt 64 x &&& BitVec.ofInt 64 1).toNat:Nat):Int)=_;rw [h2,BitVec.toNat_ofInt];rw [Gg0]<;>omega
end Go.X.G
/- NSEC records: what they show. -/
namespace Go.X.G
open Go Go.X
def Ym (r:Rec) (t:Int):Bool:=decide (0≤t) && decide (t≤63) && decide (bit r.data.bits t.toNat=1)
theorem Jg (r:Rec) (t:Int):S P5 2 [r.pv, .i .i64 t]=some [.b (Ym r t)]:=by
 refine Ib8 (N:=1) rfl ?_;unfold Ym;by_cases h1:0≤t
 ·by_cases h2:t≤63
  ·obtain ⟨n,rfl⟩:∃n:Nat,t=(n:Int):=⟨t.toNat,by omega⟩;have hb:IntKind.u64.bits=64:=rfl;have h3:X.bin .shr (.i .u64 r.data.bits) (.i .i64 (n:Int))=some (.i .u64 (r.data.bits / 2 ^ n)):=Az9 _ _ _ _ (by rw [hb];omega);have h4:r.data.bits / 2 ^ n % 2=bit r.data.bits n:=rfl;simp (disch:=omega) only [Fh0,S5,Iq8,h3,h4,xe,EVP,EV,simprocAttr]
   try simp
   try omega
  ·simp (disch:=omega) only [Fh0,xe,EVP,EV,simprocAttr]
   try simp [h2]
 ·simp (disch:=omega) only [Fh0,xe,EVP,EV,simprocAttr]
  try simp [h1]
def Mc (n top:List UInt8):Bool:=decide (n≠top) && under n top
theorem Gn (n top:List UInt8) (hn:n.length≤9223372036854775807) (ht:top.length≤9223372036854775807):S jb 2 [.s n, .s top]=some [.b (Mc n top)]:=by
 refine If6 (N:=1) rfl ?_;unfold Mc;by_cases h:n=top
 ·simp (disch:=omega) only [Gh8,h,xe,EVP,EV,simprocAttr]
  try simp
 ·simp (disch:=omega) only [Gh8,E6,h,xe,EVP,EV,simprocAttr]
  try simp
def et (r:Rec):Bool:=Ym r 39||(Ym r 2 && !Ym r 6)
theorem w9 (r:Rec):S Bl4 1 [r.pv]=some [.b (et r)]:=by refine If5 (N:=1) rfl ?_;unfold et;rcases Aq (Ym r 39) with h1|h1<;>rcases Aq (Ym r 2) with h2|h2<;>rcases Aq (Ym r 6) with h3|h3<;>simp (disch:=omega) only [Iw9,Jg,h1,h2,h3,xe,EVP,EV,simprocAttr]<;>rfl
def H3 (r:Rec) (zone name:List UInt8):Bool:=
 decide (r.typ=47) && under name zone && decide (0<H1 name r.name) && !(decide (r.data.host≠zone) && decide (0≤H1 name r.data.host)) && (!Mc name r.name|| !et r)
theorem Oq (r:Rec) (zone name:List UInt8) (hr:r.wf) (hz:zone.length≤9223372036854775807) (hn:name.length≤9223372036854775807):S cm 3 [r.pv, .s zone, .s name]=some [.b (H3 r zone name)]:=by
 refine Ig5 (N:=1) rfl ?_;have g1:=hr.name;have g2:=hr.data.host;unfold Tj at g1 g2;unfold H3;by_cases h1:r.typ=47
 ·rcases Aq (under name zone) with h2|h2
  ·by_cases h3:0<H1 name r.name
   ·by_cases h4:r.data.host=zone
    ·rcases Aq (Mc name r.name) with h6|h6<;>rcases Aq (et r) with h7|h7<;>simp (disch:=omega) only [Ay5,E6,G8,Gn,w9,h1,h2,h4,h6,h7,xe,EVP,EV,simprocAttr]<;>simp [h3]
    ·by_cases h5:0≤H1 name r.data.host
     ·simp (disch:=omega) only [Ay5,E6,G8,h1,h2,h4,xe,EVP,EV,simprocAttr]
      try simp [h4,h5]
     ·rcases Aq (Mc name r.name) with h6|h6<;>rcases Aq (et r) with h7|h7<;>simp (disch:=omega) only [Ay5,E6,G8,Gn,w9,h1,h2,h4,h6,h7,xe,EVP,EV,simprocAttr]<;>simp [h3,h5]
   ·simp (disch:=omega) only [Ay5,E6,G8,h1,h2,xe,EVP,EV,simprocAttr]
    try simp [h3]
  ·simp (disch:=omega) only [Ay5,E6,h1,h2,xe,EVP,EV,simprocAttr]
   try simp
 ·simp (disch:=omega) only [Ay5,h1,xe,EVP,EV,simprocAttr]
  try simp
theorem ed (a:List UInt8):H1 a a=0:=by
 rcases Aq (vld a) with h|h
 ·rw [Ss h h];unfold lv;have:∀l:List (List UInt8),Qr l l=none:=by
   intro l;induction l with
   |nil=>rfl
   |cons x xs ih=>simp [Qr,ih]
  rw [this];simp
 ·unfold H1;simp [h,Hp]
def kz (r:Rec) (name:List UInt8):List UInt8:=if Gg2 (Gm name r.name)<Gg2 (Gm name r.data.host) then Gm name r.data.host else Gm name r.name
theorem Kq (a b:List UInt8):(Gm a b).length≤254:=by
 unfold Gm;split
 ·rename_i h;exact Bt8 h.1 _
 ·simp
theorem Rn (r:Rec) (name:List UInt8) (hr:r.wf) (hn:name.length≤9223372036854775807):S Bh0 2 [r.pv, .s name]=some [.s (kz r name)]:=by refine Ib6 (N:=1) rfl ?_;have g1:=hr.name;have g2:=hr.data.host;unfold Tj at g1 g2;have h1:=Kq name r.name;have h2:=Kq name r.data.host;unfold kz;by_cases h:Gg2 (Gm name r.name)<Gg2 (Gm name r.data.host)<;>simp (disch:=omega) only [Iv5,Ap3,Dz7,h,xe,EVP,EV,simprocAttr]
theorem Cq3 (r:Rec) (name:List UInt8):(kz r name).length≤254:=by
 unfold kz;split
 ·exact Kq _ _
 ·exact Kq _ _
def Zn (zone name:List UInt8) (r:Rec):Option (List UInt8):=
 if H3 r zone name && !Mc r.data.host name && Nw (kz r name) then some (iz (kz r name)) else none
def starsN (l:List Rec) (zone name:List UInt8):List (List UInt8):=l.filterMap (Zn zone name)
theorem td (l:List Rec) (zone name:List UInt8) (hw:∀r∈l,r.wf) (hl:l.length≤1000000) (hz:zone.length≤9223372036854775807) (hn:name.length≤9223372036854775807):
  S Ah4 3 [Al l, .s zone, .s name]=some [Bl (starsN l zone name)]:=by
 refine If3 (N:=l.length+1) rfl ?_;have key:Eh9.ev S (l.length+1) [Al l, .s zone, .s name]=some (.yld 0 [Bl ([]++starsN l zone name)]):=by
  refine F2 l (fun i (g:List (List UInt8))=>[Bl g, .i .i64 (i:Int)]) (fun i g r=> .yld 0 [Bl (g++starsN r zone name)]) (fun i g=>g.length≤i) [] rfl (Af _) (by omega) (fun i g c r hd hi hc hI=> ?_) (fun g hI=> ?_)
  ·left;have hcw:=hw c (A4 hc);have g2:=hcw.data.host;unfold Tj at g2;have h1:=Oq c zone name hcw hz hn;have h2:=Rn c name hcw hn;have h3:=Cq3 c name;cases h:Zn zone name c with
   |some s=>
    refine ⟨g++[s],?_,by simp;omega,by simp [starsN,h]⟩;unfold Zn at h;split at h
    ·rename_i hc2;injection h with h;subst h;simp only [Aw,A8] at hc2;obtain ⟨⟨k1,k2⟩,k3⟩:=hc2;simp (disch:=omega) only [Ay4,hc,h1,h2,Gn,Ax9,k1,k2,k3,xe,EVP,EV,simprocAttr]
    ·cases h
   |none=>
    refine ⟨g,?_,by omega,by simp [starsN,h]⟩;unfold Zn at h;split at h
    ·cases h
    ·rename_i hc2;rcases ch3 (H3 c zone name) (!Mc c.data.host name) (Nw (kz c name)) with e0|⟨e0,e1⟩|⟨e0,e1,e2⟩|⟨e0,e1,e2⟩
     ·simp (disch:=omega) only [Ay4,hc,h1,e0,xe,EVP,EV,simprocAttr]
     ·simp only [Bool.not_eq_false'] at e1;simp (disch:=omega) only [Ay4,hc,h1,Gn,e0,e1,xe,EVP,EV,simprocAttr]
     ·simp only [A8] at e1;simp (disch:=omega) only [Ay4,hc,h1,h2,Gn,Ax9,e0,e1,e2,xe,EVP,EV,simprocAttr]
     ·exact absurd (by simp [e0,e1,e2]) hc2
  ·simp (disch:=omega) only [Ay4,xe,EVP,EV,simprocAttr]
   try simp [starsN,Out.goes]
 simp (disch:=omega) only [Ay4,key,xe,EVP,EV,simprocAttr]
def Jh (v:List UInt8):List (List UInt8)→Nat→Int
 |[],_=> -1
 |x::r,i=>if v=x then (i:Int) else Jh v r (i+1)
theorem dm (v:List UInt8):∀(l:List (List UInt8)) (i:Nat),decide (0≤Jh v l i)=decide (v∈l)
 |[],i=>by simp [Jh]
 |x::r,i=>by
  simp only [Jh];by_cases h:v=x
  ·simp [h]
  ·simp only [if_neg h,dm v r (i+1)];simp [h]
theorem Bv2 (l:List (List UInt8)) (v:List UInt8) (hl:l.length≤1000000):S c7 2 [Bl l, .s v]=some [.i .i64 (Jh v l 0)]:=by
 refine Hw2 (N:=l.length+1) rfl ?_;have key:Bt2.ev S (l.length+1) [Bl l, .s v]=some (if Jh v l 0= -1 then .yld 0 [] else .ret [.i .i64 (Jh v l 0)]):=by
  refine E2 l (fun i=>[.i .i64 (i:Int)]) (fun i r=>if Jh v r i= -1 then .yld 0 [] else .ret [.i .i64 (Jh v r i)]) rfl (by omega) (fun i c r hd hi hc=> ?_) ?_
  ·by_cases h:v=c
   ·right;simp (disch:=omega) only [Y8,hc,h,xe,EVP,EV,simprocAttr];have:¬((i:Int)= -1):=by omega
    simp [Jh,this,Out.goes]
   ·left;simp (disch:=omega) only [Y8,hc,h,xe,EVP,EV,simprocAttr]
    try simp [Jh,h]
  ·simp (disch:=omega) only [Y8,xe,EVP,EV,simprocAttr]
   try simp [Jh,Out.goes]
 by_cases h:Jh v l 0= -1
 ·rw [if_pos h] at key;simp (disch:=omega) only [Y8,key,h,xe,EVP,EV,simprocAttr]
 ·rw [if_neg h] at key;simp (disch:=omega) only [Y8,key,xe,EVP,EV,simprocAttr]
theorem Pb (l:List (List UInt8)) (v:List UInt8) (hl:l.length≤1000000):S Ag9 2 [Bl l, .s v]=some [.b (decide (v∈l))]:=by refine Id2 (N:=1) rfl ?_;rw [←dm v l 0];simp (disch:=omega) only [Iw2,Bv2,xe,EVP,EV,simprocAttr]
def Lq (l:List Rec) (zone name star:List UInt8):Bool:=decide (star∈starsN l zone name)
theorem T2 (l:List Rec) (zone name:List UInt8):(starsN l zone name).length≤l.length:=List.length_filterMap_le _ _
theorem oj (l:List Rec) (zone name star:List UInt8) (hw:∀r∈l,r.wf) (hl:l.length≤1000000) (hz:zone.length≤9223372036854775807) (hn:name.length≤9223372036854775807):
  S Bl5 4 [Al l, .s zone, .s name, .s star]=some [.b (Lq l zone name star)]:=by
 refine If9 (N:=1) rfl ?_;have h1:=T2 l zone name;simp (disch:=omega) only [Ix0,td l zone name hw hl hz hn,Pb,Lq,xe,EVP,EV,simprocAttr]
end Go.X.G
