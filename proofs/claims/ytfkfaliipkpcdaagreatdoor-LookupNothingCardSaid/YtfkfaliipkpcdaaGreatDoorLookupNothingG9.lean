/- Names: what the reference's functions give. -/
import Derived.Test.YtfkfaliipkpcdaaGreatDoorLookupNothingG7
import Derived.Test.YtfkfaliipkpcdaaGreatDoorLookupNothingG8
open Bool renaming eq_false_or_eq_true→Aq,and_eq_true→Aw,false_eq_true→Ad,or_eq_true→Ap,not_eq_true'→A8,eq_iff_iff→Cn,and_true→Of,true_and→Gg2
open List renaming getElem?_eq_getElem→Az,length_append→Ac,mem_cons→Am,append_assoc→As,length_cons→A3,pairwise_cons→A5,mem_of_getElem?→Bq,length_pos_iff→Bv,length_nil→Bd,getElem?_map→Bf,getD_eq_getElem?_getD→Bh,take_append_drop→Bl,mem_filter→Bp,length_drop→B3,any_eq_true→B5,cons_append→B7,getElem?_range→Cj,drop_eq_getElem_cons→Cd,getElem?_cons_zero→Cg,drop_drop→Ch,nil_append→Cm,take_length→C7,mem_map→D3,drop_zero→Ev,suffix_iff_eq_drop→En,mem_range→E1,isSuffixOf_iff_suffix→E2,mem_cons_self→Gv,getLast_eq_getElem→Im,flatMap_cons→Ir,cons_prefix_cons→Ld,append_cancel_right→Od,drop_eq_nil_of_le→Vr,length_mergeSort→fc,count_eq_zero→Ik7
open Nat renaming le_refl→Af,zero_le→Cr
open Option renaming map_eq_some_iff→Ax,map_some→A4
open Option.some renaming injEq→Ak
set_option maxHeartbeats 1000000
set_option linter.unusedVariables false
set_option linter.unusedSimpArgs false
namespace Go.X.G
open Go Go.X
def Tm (c:UInt8):Bool:=decide (97≤(c.toNat:Int)) && decide ((c.toNat:Int)≤122)||decide (48≤(c.toNat:Int)) && decide ((c.toNat:Int)≤57)||decide ((c.toNat:Int)=45)||decide ((c.toNat:Int)=95)
def L9 (s:List UInt8):Bool:=decide (s=[42])||(decide (1≤s.length) && decide (s.length≤63) && s.all Tm)
end Go.X.G
/- Names: what the reference's functions give. -/
namespace Go.X.G
open Go Go.X
def spl (first:Bool) (cur:List UInt8):List UInt8→Option (List (List UInt8))
 |[]=>some []
 |c::r=>if c=46 then (if L9 cur=true∧(cur=[42]→first=true) then (spl false [] r).map (cur::·) else none) else spl first (cur++[c]) r
def nm (n:List UInt8):Option (List (List UInt8)):=
 if n=[46] then some [] else if 2≤n.length∧n.length≤254∧n[n.length - 1]? =some 46 then spl true [] n else none
def lbl (n:List UInt8):List (List UInt8):=(nm n).getD []
def vld (n:List UInt8):Bool:=(nm n).isSome
end Go.X.G
/- Names: what the reference's functions give, ctd. -/
namespace Go.X.G
open Go Go.X
theorem gt:∀(r:List UInt8) (f:Bool) (cur:List UInt8) (l:List (List UInt8)),spl f cur r=some l→l.length≤r.length
 |[],f,cur,l,h=>by simp [spl] at h;simp [←h]
 |c::r,f,cur,l,h=>by
  simp only [spl] at h;split at h
  ·split at h
   ·obtain ⟨m,hm,rfl⟩:=Ax.1 h;have:=gt r _ _ _ hm;simp;omega
   ·cases h
  ·have:=gt r _ _ _ h;simp;omega
theorem Hy5 {n:List UInt8} {l:List (List UInt8)} (h:nm n=some l):l.length≤254:=by
 unfold nm at h;split at h
 ·injection h with h;subst h;simp
 ·split at h
  ·rename_i h2;have:=gt _ _ _ _ h;omega
  ·cases h
theorem K4 (n:List UInt8):(lbl n).length≤254:=by
 unfold lbl;cases h:nm n with
 |none=>simp
 |some l=>exact Hy5 h
def kj {α:Type} [DecidableEq α]:List α→List α→Nat
 |x::xs,y::ys=>if x=y then kj xs ys+1 else 0
 |_,_=>0
def g8 (a b:List (List UInt8)):Nat:=kj a.reverse b.reverse
def under (n top:List UInt8):Bool:=vld n && vld top && decide (g8 (lbl n) (lbl top)=(lbl top).length)
def cmpS (a b:List UInt8):Int:=if Op.bytesLess a b then -1 else if a=b then 0 else 1
def Jv (a b:List UInt8):Int:=
 if vld a && vld b then
  let k:=g8 (lbl a) (lbl b)
  if k<(lbl a).length∧k<(lbl b).length then cmpS ((lbl a).getD ((lbl a).length - 1 - k) []) ((lbl b).getD ((lbl b).length - 1 - k) [])
  else if (lbl a).length<(lbl b).length then -1 else if (lbl b).length<(lbl a).length then 1 else 0
 else if vld a then -1 else if vld b then 1 else cmpS a b
end Go.X.G
/- The library's functions on strings. -/
namespace Go.X.G
open Go Go.X
theorem Gq9 (x:List UInt8) (c:UInt8):S t7 2 [.s x, .i .u8 (c.toNat:Int)]=some [.i .i64 (x.count c:Int)]:=
 Gs7 (args:=[.s x, .i .u8 (c.toNat:Int)]) (by simp [XK.run,Ak0,Lib.countByte])
theorem Ft1 (x:List UInt8) (c:UInt8):S uk 2 [.s x, .i .u8 (c.toNat:Int)]=some [.i .i64 (Lib.indexByte x c)]:=
 Gs9 (args:=[.s x, .i .u8 (c.toNat:Int)]) (by simp [XK.run,Ak0])
theorem Gv0 (x y:List UInt8):S t6 2 [.s x, .s y]=some [.i .i64 (Lib.compareBytes x y)]:=
 Gr9 (args:=[.s x, .s y]) (by simp [XK.run,Dn3])
theorem Ox (x:List UInt8) (c:UInt8):S Ul 2 [.s x, .i .u8 (c.toNat:Int)]=some [.i .i64 (Lib.indexByte x c)]:=by refine Hj2 (N:=1) rfl ?_;simp (disch:=omega) only [Gh3,Ft1,xe,EVP,EV,simprocAttr]
theorem ed (x:List UInt8) (c:UInt8):S b9 2 [.s x, .i .u8 (c.toNat:Int)]=some [.i .i64 (Lib.indexByte x c)]:=by refine Hq7 (N:=1) rfl ?_;simp (disch:=omega) only [Gl1,Ox,xe,EVP,EV,simprocAttr]
theorem Mz (c:UInt8):∀(x:List UInt8),c∉x→Lib.indexByte x c= -1
 |[],_=>rfl
 |b::l,h=>by have h1:b≠c:=fun e=>h (by simp [e]);have h2:=Mz c l (fun e=>h (by simp [e]));simp [Lib.indexByte,h1,h2]
theorem Jq (c:UInt8) (post:List UInt8):∀(pre:List UInt8),c∉pre→Lib.indexByte (pre++c::post) c=(pre.length:Int)
 |[],_=>by simp [Lib.indexByte]
 |b::l,h=>by
  have h1:b≠c:=fun e=>h (by simp [e]);have h2:=Jq c post l (fun e=>h (by simp [e]));simp only [B7,Lib.indexByte,h2];simp [h1]
  try omega
theorem dot_split (c:UInt8):∀(s:List UInt8),c∉s∨∃pre post,s=pre++c::post∧c∉pre
 |[]=> .inl (by simp)
 |b::l=>by
  by_cases h:b=c
  ·exact .inr ⟨[],l,by simp [h],by simp⟩
  ·rcases dot_split c l with h1|⟨pre,post,rfl,h2⟩
   ·exact .inl (by simp [h1,Ne.symm h])
   ·exact .inr ⟨b::pre,post,by simp,by simp [h2,Ne.symm h]⟩
def pcs (cur:List UInt8):List UInt8→List (List UInt8)
 |[]=>[cur]
 |c::r=>if c=46 then cur::pcs [] r else pcs (cur++[c]) r
def cut (s:List UInt8):List (List UInt8):=pcs [] s
theorem By2 (post:List UInt8):∀(pre cur:List UInt8),(46:UInt8)∉pre→pcs cur (pre++46::post)=(cur++pre)::pcs [] post
 |[],cur,_=>by simp [pcs]
 |b::l,cur,h=>by have h1:b≠46:=fun e=>h (by simp [e]);have h2:=By2 post l (cur++[b]) (fun e=>h (by simp [e]));simp [pcs,h1,h2]
theorem Wh:∀(s cur:List UInt8),(46:UInt8)∉s→pcs cur s=[cur++s]
 |[],cur,_=>by simp [pcs]
 |b::l,cur,h=>by have h1:b≠46:=fun e=>h (by simp [e]);have h2:=Wh l (cur++[b]) (fun e=>h (by simp [e]));simp [pcs,h1,h2]
theorem Bp8 (s:List UInt8):(cut s).length=s.count 46+1:=by
 have:∀(s cur:List UInt8),(pcs cur s).length=s.count 46+1:=by
  intro s
  induction s with
  |nil=>intro cur;rfl
  |cons c r ih=>
   intro cur;by_cases h:c=46<;>simp [pcs,h,ih]
 exact this s []
theorem Ad4 (s:List UInt8) (hs:s.length≤9223372036854775807):S ab 2 [.s s, .s [46]]=some [.i .i64 (Lib.indexByte s 46)]:=by
 refine Gs6 (N:=1) rfl ?_;have h1:=Ox s 46;have e:(((46:UInt8).toNat:Nat):Int)=46:=rfl;rw [e] at h1;by_cases h:[46]=s
 ·subst h;simp (disch:=omega) only [Ez5,xe,EVP,EV,simprocAttr];rfl
 ·simp (disch:=omega) only [Ez5,h,h1,e,xe,EVP,EV,simprocAttr]
theorem ez (s:List UInt8) (hs:s.length≤9223372036854775807):S Uh 2 [.s s, .s [46]]=some [.i .i64 (Lib.indexByte s 46)]:=by refine Gt6 (N:=1) rfl ?_;simp (disch:=omega) only [Gg9,Ad4,xe,EVP,EV,simprocAttr]
theorem Dz3 (s:List UInt8):S bj 2 [.s s, .s [46]]=some [.i .i64 (s.count 46:Int)]:=by refine Gt7 (N:=1) rfl ?_;have h1:=Gq9 s 46;have e:(((46:UInt8).toNat:Nat):Int)=46:=rfl;rw [e] at h1;simp (disch:=omega) only [Gh0,h1,e,xe,EVP,EV,simprocAttr]
def Bm6 (done rest:List (List UInt8)):Out:=
 .yld 0 [.s ((done++rest).getLastD []),Bn ((done++rest).dropLast++[[]]), .i .i64 (((done++rest).length:Int) - 1)]
theorem jm (s:List UInt8) (N:Nat) (hN:s.length<N) (hs:s.length≤1000000) (p q:PV):
  jy.ev S N [.s s, .s [46], .i .i64 0,p, .i .i64 ((s.count 46:Int)+1)]=some (Bm6 [] (cut s)):=by
 have hc0:s.count 46≤s.length:=List.count_le_length;have key:=K3 (fn:=S) (N:=N) (η:=[.s s, .s [46], .i .i64 0,p, .i .i64 ((s.count 46:Int)+1)]) (id:=1) (init:=[(.v 0),(.rep 1 (.mn (.v 4) (.bin .add (.slen (.v 0)) (.c (.i .i64 (1))))) (.c (.s []))),(.c (.i .i64 (0)))]) (body:=ms) (α:=List (List UInt8)×List UInt8)
  (fun a=>[.s a.2,Bn (a.1++List.replicate (a.2.count 46+1) []), .i .i64 (a.1.length:Int)]) (fun a=>Bm6 a.1 (cut a.2)) (fun a=>a.1.length+a.2.count 46=s.count 46∧a.2.length≤s.length) (fun a=>a.2.length) ([],s) ?_ ⟨by simp,Af _⟩ hN ?_
 ·simpa [jy] using key
 ·have e:((s.count 46:Int)+1).toNat=s.count 46+1:=by omega
  simp (disch:=omega) only [e,xe,EVP,EV,simprocAttr]
 ·rintro ⟨done,rest⟩ ⟨h1,h2⟩;simp only at h1 h2 ⊢;rcases dot_split 46 rest with h|⟨pre,post,rfl,h⟩
  ·right;have c0:rest.count 46=0:=Ik7.2 h;have i0:=Mz 46 rest h;have cu:cut rest=[rest]:=by simpa [cut] using Wh rest [] h
   refine ⟨?_,rfl⟩;rw [c0];rw [c0] at h1;simp (disch:=omega) only [Al3,ez,i0,xe,EVP,EV,simprocAttr];simp [Bm6,cu,List.getLastD_eq_getLast?]
  ·left;have c0:(pre++46::post).count 46=post.count 46+1:=by rw [List.count_append,Ik7.2 h];simp
   have i0:=Jq 46 post pre h;have cu:cut (pre++46::post)=pre::cut post:=by simpa [cut] using By2 post pre [] h
   have hl:(pre++46::post).length=pre.length+post.length+1:=by simp;omega
   have sl1:List.drop (0:Int).toNat (List.take ((pre.length:Int)+0).toNat (pre++46::post))=pre:=by simp
   have sl2:List.drop ((pre.length:Int)+1).toNat (List.take (pre++46::post).length (pre++46::post))=post:=by
    have:((pre.length:Int)+1).toNat=pre.length+1:=by omega
    rw [this,C7,List.drop_append];simp
   have sl3:(done++[]::[]::List.replicate (post.count 46) ([]:List UInt8)).length=done.length+post.count 46+2:=by simp;omega
   refine ⟨(done++[pre],post),?_,⟨by simp;omega,by simp only;omega⟩,by simp;omega,by simp [Bm6,cu]⟩;rw [c0];rw [c0] at h1;simp (disch:=omega) only [Al3,ez,i0,sl1,sl2,xe,EVP,EV,simprocAttr];simp [List.replicate_succ,List.set_append]
theorem jl (s:List UInt8) (hs:s.length≤1000000):S bg 4 [.s s, .s [46], .i .i64 0, .i .i64 (-1)]=some [Bn (cut s)]:=by
 refine Hk6 (N:=s.length+1) rfl ?_;have h1:=Bp8 s;have h2:s.count 46≤s.length:=List.count_le_length;obtain ⟨l,x,hx⟩:∃l x,cut s=l++[x]:=⟨(cut s).dropLast,(cut s).getLast (by intro e;simp [e] at h1),(List.dropLast_concat_getLast _).symm⟩;have h3:l.length=s.count 46:=by rw [hx] at h1;simpa using h1
 have h4:((l.length:Int)+1 - 1)=(l.length:Int):=by omega
 have h5:((l++[([]:List UInt8)]).length:Int)=l.length+1:=by simp
 have h6:((l++[x]).length:Int)=l.length+1:=by simp
 have g1:(l++[([]:List UInt8)])[l.length]? =some []:=by simp
 have g2:(l++[x]).getLastD []=x:=by simp [List.getLastD_eq_getLast?]
 have g3:(l++[([]:List UInt8)]).set l.length x=l++[x]:=by simp
 have hk:=jm s (s.length+1) (by omega) hs (.i .i64 (-1)) .u;rw [hx] at hk ⊢;simp only [Bm6,Cm,List.dropLast_concat] at hk;simp (disch:=omega) only [Al3,Dz3,hk,h4,h6,g1,g2,g3,xe,EVP,EV,simprocAttr];have g4:((l.length:Int)+1).toNat=(l++[x]).length:=by simp
 rw [g4,C7];rfl
theorem d9 (s:List UInt8) (hs:s.length≤1000000):S Ax9 2 [.s s, .s [46]]=some [Bn (cut s)]:=by refine Iy6 (N:=1) rfl ?_;simp (disch:=omega) only [Iq1,jl,xe,EVP,EV,simprocAttr]
theorem Oy (s t:List UInt8) (hs:s.length≤9223372036854775807):S Us 2 [.s s, .s t]=some [.b (t.isSuffixOf s)]:=by
 refine Hk7 (N:=1) rfl ?_;by_cases h:t.length≤s.length
 ·have e:((s.length:Int) - (t.length:Int)).toNat=s.length - t.length:=by omega
  simp (disch:=omega) only [Eb0,e,xe,EVP,EV,simprocAttr];simp only [C7];congr 4;rw [Cn,E2,decide_eq_true_eq];refine ⟨fun h=>h▸List.drop_suffix _ _,fun h=> ?_⟩;obtain ⟨p,rfl⟩:=h;simp
 ·have h2:t.isSuffixOf s=false:=by rw [Bool.eq_false_iff,ne_eq,E2];exact fun h'=>h h'.length_le
  simp (disch:=omega) only [Eb0,h2,xe,EVP,EV,simprocAttr]
theorem Lb (s t:List UInt8) (hs:s.length≤9223372036854775807):S Ay0 2 [.s s, .s t]=some [.b (t.isSuffixOf s)]:=by refine Iy7 (N:=1) rfl ?_;simp (disch:=omega) only [Iq2,Oy,xe,EVP,EV,simprocAttr]
theorem ny (x y:List UInt8):S af 2 [.s x, .s y]=some [.i .i64 (Lib.compareBytes x y)]:=by refine Gs8 (N:=1) rfl ?_;simp (disch:=omega) only [Gg6,Gv0,xe,EVP,EV,simprocAttr]
theorem nq (x y:List UInt8):S Pr 2 [.s x, .s y]=some [.i .i64 (Lib.compareBytes x y)]:=by refine Gt9 (N:=1) rfl ?_;simp (disch:=omega) only [Gh1,ny,xe,EVP,EV,simprocAttr]
end Go.X.G
/- Names and their labels. -/
namespace Go.X.G
open Go Go.X
def flat (l:List (List UInt8)):List UInt8:=l.flatMap fun x=>x++[46]
def jn (l:List (List UInt8)):List UInt8:=if l=[] then [46] else flat l
def Fg (first:Bool):List (List UInt8)→Bool
 |[]=>true
 |p::r=>L9 p && (!decide (p=[42])||first) && Fg false r
theorem Fs4:Tm 46=false:=by decide
theorem K7 {p:List UInt8} (h:L9 p=true):(46:UInt8)∉p:=by
 unfold L9 at h;simp at h;rcases h with rfl|⟨_,h⟩
 ·decide
 ·intro h2;have:=h 46 h2;rw [Fs4] at this;cases this
theorem u6 {p:List UInt8} (h:L9 p=true):p≠[]:=by rintro rfl;simp [L9] at h
theorem Hb {p:List UInt8}:∀{f:Bool} {l:List (List UInt8)},Fg f l=true→p∈l→L9 p=true
 |f,q::r,h,hp=>by
  simp only [Fg,Aw] at h;rcases Am.1 hp with rfl|hp
  ·exact h.1.1
  ·exact Hb h.2 hp
theorem Az3:∀{l:List (List UInt8)},Fg false l=true→Fg true l=true
 |[],_=>rfl
 |p::r,h=>by simp only [Fg,Aw] at h ⊢;exact ⟨⟨h.1.1,by simp⟩,h.2⟩
theorem N1:∀{f:Bool} {a b:List (List UInt8)},Fg f (a++b)=(Fg f a && Fg (f && a.isEmpty) b)
 |f,[],b=>by simp [Fg]
 |f,p::r,b=>by simp only [B7,Fg,N1 (a:=r)];simp [Bool.and_assoc]
theorem Az4 {f:Bool} {l:List (List UInt8)} (h:Fg f l=true) (k:Nat):Fg f (l.drop k)=true:=by
 rw [←Bl k l,N1,Aw] at h;have h2:=h.2;cases f with
 |false=>simpa using h2
 |true=>
  cases he:(l.take k).isEmpty with
  |true=>rw [he] at h2;exact h2
  |false=>rw [he] at h2;exact Az3 h2
theorem Ry:∀(m:List UInt8) (f:Bool) (cur:List UInt8),spl f cur (m++[46])=if Fg f (pcs cur m)=true then some (pcs cur m) else none
 |[],f,cur=>by simp only [Cm,spl,if_true,pcs,Fg,A4,Of];by_cases h:L9 cur=true<;>by_cases h2:cur=[42]<;>cases f<;>simp [h,h2]
 |c::r,f,cur=>by
  simp only [B7,spl,pcs];by_cases hc:c=46
  ·simp only [if_pos hc];rw [Ry r false []];simp only [Fg];by_cases h:L9 cur=true<;>by_cases h2:cur=[42]<;>cases f<;>by_cases h3:Fg false (pcs [] r)=true<;>simp [h,h2,h3]
  ·simp only [if_neg hc];exact Ry r f (cur++[c])
theorem R3 (b:List UInt8):∀(a cur:List UInt8),pcs cur (a++46::b)=pcs cur a++cut b
 |[],cur=>by simp [pcs,cut]
 |c::r,cur=>by
  simp only [B7,pcs];split
  ·rw [R3 b r []];rfl
  ·exact R3 b r _
theorem Qs:∀(m cur:List UInt8),flat (pcs cur m)=cur++m++[46]
 |[],cur=>by simp [pcs,flat]
 |c::r,cur=>by
  simp only [pcs];split
  ·rename_i h;have:=Qs r [];simp only [flat,Ir] at this ⊢;rw [this,h];simp
  ·rw [Qs r (cur++[c])];simp
theorem L3 (a b:List (List UInt8)):flat (a++b)=flat a++flat b:=by simp [flat]
theorem Hx1 (cur m:List UInt8):pcs cur m≠[]:=by
 cases m with
 |nil=>simp [pcs]
 |cons c r=>
  simp only [pcs];split
  ·simp
  ·intro h;have:=Qs r (cur++[c]);rw [h] at this;simp [flat] at this
theorem Q0:∀(l:List (List UInt8)),(∀p∈l,(46:UInt8)∉p)→cut (flat l)=l++[[]]
 |[],_=>rfl
 |p::l,h=>by
  have h1:flat (p::l)=p++46::flat l:=by simp [flat]
  rw [h1];show pcs [] _=_;rw [R3,Wh p [] (h p (by simp)),Q0 l (fun q hq=>h q (by simp [hq]))];simp
theorem Jz:∀(l:List (List UInt8)),l≠[]→∃m,flat l=m++[46]
 |[p],_=>⟨p,by simp [flat]⟩
 |p::q::r,_=>by obtain ⟨m,hm⟩:=Jz (q::r) (by simp);exact ⟨p++[46]++m,by simp only [flat,Ir] at hm ⊢;rw [hm];simp⟩
theorem vz {l:List (List UInt8)} (hl:l≠[]) (h:∀p∈l,(46:UInt8)∉p) {m:List UInt8} (hm:flat l=m++[46]):cut m=l:=by
 have h1:=Q0 l h;rw [hm] at h1;have h2:cut (m++[46])=cut m++[[]]:=by show pcs [] (m++46::[])=_;rw [R3];rfl
 rw [h2] at h1;exact Od h1
theorem Hd {l:List (List UInt8)} (h:Fg true l=true) (hl:l≠[]):2≤(flat l).length:=by
 cases l with
 |nil=>exact absurd rfl hl
 |cons p r=>
  have h1:=u6 (Hb h (Gv ..));have:0<p.length:=Bv.2 h1;simp [flat];omega
theorem Fp5 {l:List (List UInt8)} (h:Fg true l=true) (hl:l≠[]) (hlen:(flat l).length≤254):nm (flat l)=some l:=by obtain ⟨m,hm⟩:=Jz l hl;have h1:=vz hl (fun p hp=>K7 (Hb h hp)) hm;have h2:=Hd h hl;unfold nm;rw [if_neg (by intro e;rw [e] at h2;simp at h2),if_pos ⟨h2,hlen,by rw [hm];simp⟩,hm,Ry];have:pcs [] m=l:=h1;rw [this,if_pos h]
theorem Fp4 {n:List UInt8} {l:List (List UInt8)} (h:nm n=some l):(n=[46]∧l=[])∨(l≠[]∧Fg true l=true∧n=flat l∧n.length≤254):=by
 unfold nm at h;split at h
 ·rename_i e;injection h with h;exact .inl ⟨e,h.symm⟩
 ·split at h
  ·rename_i h1;right;obtain ⟨h2,h3,h4⟩:=h1;obtain ⟨m,hm⟩:∃m,n=m++[46]:=by
    refine ⟨n.dropLast,?_⟩;have:n≠[]:=by intro e;simp [e] at h2
    have h5:=List.dropLast_concat_getLast this;rw [←h5];congr 1
    ·simp
    ·have h6:n[n.length - 1]? =some (n.getLast this):=by rw [Im];exact Az _
     rw [h6] at h4;injection h4 with h4;simp [h4]
   rw [hm,Ry] at h;split at h
   ·rename_i h5;injection h with h;subst h;refine ⟨Hx1 _ _,h5,?_,by omega⟩;rw [Qs,hm];simp
   ·cases h
  ·cases h
theorem Fg5 {n:List UInt8}:vld n=true↔nm n=some (lbl n):=by unfold vld lbl;cases nm n<;>simp
theorem vld_cases {n:List UInt8} (h:vld n=true):(n=[46]∧lbl n=[])∨(lbl n≠[]∧Fg true (lbl n)=true∧n=flat (lbl n)∧n.length≤254):=Fp4 (Fg5.1 h)
theorem Qg {n:List UInt8} (h:vld n=true):Fg true (lbl n)=true:=by
 rcases vld_cases h with ⟨_,h⟩|⟨_,h,_⟩
 ·rw [h];rfl
 ·exact h
theorem Mj {n:List UInt8} (h:vld n=true):n=jn (lbl n):=by
 unfold jn;rcases vld_cases h with ⟨h1,h2⟩|⟨h1,_,h2,_⟩
 ·rw [h2,if_pos rfl];exact h1
 ·rw [if_neg h1];exact h2
theorem Iw {n:List UInt8} (h:vld n=true):n.length≤254:=by
 rcases vld_cases h with ⟨h1,_⟩|⟨_,_,_,h⟩
 ·simp [h1]
 ·exact h
theorem H3:lbl [46]=[]:=rfl
theorem dc {l:List (List UInt8)} (h:Fg true l=true) (hl:l≠[]):flat l≠[46]:=by intro e;have:=Hd h hl;rw [e] at this;simp at this
theorem W5 {n:List UInt8} (h:vld n=true):lbl n=[]↔n=[46]:=by
 rcases vld_cases h with ⟨h1,h2⟩|⟨h1,h2,h3,_⟩
 ·simp [h1,H3]
 ·constructor
  ·intro e;exact absurd e h1
  ·intro e;rw [h3] at e;exact absurd e (dc h2 h1)
theorem Gm9 {l:List (List UInt8)} (h:Fg true l=true) (hlen:(flat l).length≤254):vld (jn l)=true∧lbl (jn l)=l:=by
 unfold jn;by_cases hl:l=[]
 ·subst hl;exact ⟨rfl,rfl⟩
 ·rw [if_neg hl];have:=Fp5 h hl hlen;exact ⟨by simp [vld,this],by simp [lbl,this]⟩
theorem K5 {a b:List UInt8} (ha:vld a=true) (hb:vld b=true) (h:lbl a=lbl b):a=b:=by rw [Mj ha,Mj hb,h]
theorem Xq (l:List (List UInt8)) (k:Nat):(flat (l.drop k)).length≤(flat l).length:=by
 have:flat l=flat (l.take k)++flat (l.drop k):=by rw [←L3,Bl]
 rw [this,Ac];omega
theorem Lf {n:List UInt8} (h:vld n=true) (k:Nat):vld (jn ((lbl n).drop k))=true∧lbl (jn ((lbl n).drop k))=(lbl n).drop k:=by
 refine Gm9 (Az4 (Qg h) k) ?_;rcases vld_cases h with ⟨_,h1⟩|⟨_,_,h1,h2⟩
 ·rw [h1];simp [flat]
 ·have:=Xq (lbl n) k;rw [←h1] at this;omega
theorem M9 {n:List UInt8} (h:vld n=true):0<n.length:=by
 rcases vld_cases h with ⟨h1,_⟩|⟨h1,h2,h3,_⟩
 ·simp [h1]
 ·have:=Hd h2 h1;rw [h3];omega
end Go.X.G
/- Names: what the program's functions give. -/
namespace Go.X.G
open Go Go.X
def ord (s:List UInt8):Bool:=decide (1≤s.length) && decide (s.length≤63) && s.all Tm
theorem Bm1 (s:List UInt8):L9 s=(decide (s=[42])||ord s):=rfl
theorem Dr8:ord [42]=false:=by decide
theorem iy (s:List UInt8) (N:Nat) (hN:s.length<N) (hs:s.length≤9223372036854775807):
  Ef0.ev S N [.s s]=some (if s.all Tm=true then .yld 0 [] else .ret [.b false]):=by
 refine F1 s (fun i=>[.i .i64 (i:Int)]) (fun i r=>if r.all Tm=true then .yld 0 [] else .ret [.b false]) rfl hN (fun i c r hd hi hc=> ?_) ?_
 ·have key:Dw4.ev S N ([.s s]++[.i .i64 (i:Int)])=some (if Tm c=true then .yld 1 [.i .i64 ((i:Int)+1)] else .ret [.b false]):=by
   simp (disch:=omega) only [Ag8,hc,xe,EVP,EV,simprocAttr];unfold Tm
   grind
  rw [key];rcases Aq (Tm c) with h|h<;>simp [h,Out.goes]
 ·simp (disch:=omega) [Ag8,xe,EVP,EV,simprocAttr,Out.goes]
theorem Jp (s:List UInt8) (hs:s.length≤9223372036854775807):S Bz0 1 [.s s]=some [.b (ord s)]:=by
 refine Iy5 (N:=s.length+1) rfl ?_;unfold ord;by_cases h1:s=[]
 ·subst h1;simp (disch:=omega) [Ag8,xe,EVP,EV,simprocAttr]
 ·have h2:1≤s.length:=Bv.2 h1;by_cases h3:s.length≤63
  ·simp (disch:=omega) only [Ag8,iy,h1,xe,EVP,EV,simprocAttr];cases s.all Tm<;>simp [h2,h3]
  ·simp (disch:=omega) only [Ag8,h1,xe,EVP,EV,simprocAttr];simp [h3]
def okP (i:Nat) (p:List UInt8):Bool:=ord p||(decide (i=0) && decide (p=[42]))
def Ds7:Nat→List (List UInt8)→Bool
 |_,[]=>true
 |i,p::r=>okP i p && Ds7 (i+1) r
theorem Z7:∀(l:List (List UInt8)) (i:Nat),Ds7 i l=Fg (decide (i=0)) l
 |[],_=>rfl
 |p::r,i=>by
  have h1:=Z7 r (i+1);simp only [Ds7,Fg,h1,okP,Bm1];by_cases h2:p=[42]
  ·subst h2;by_cases h3:i=0<;>simp [Dr8,h3]
  ·simp [h2]
theorem Dy7 (p q:PV) (l:List (List UInt8)) (hl:l.length≤1000000) (hw:∀x∈l,x.length≤9223372036854775807) (N:Nat) (hN:l.length<N):
  Ef8.ev S N [p,q,Bn l]=some (if Ds7 0 l=true then .yld 0 [] else .ret [.b false]):=by
 refine F1 l (fun i=>[.i .i64 (i:Int)]) (fun i r=>if Ds7 i r=true then .yld 0 [] else .ret [.b false]) rfl hN (fun i c r hd hi hc=> ?_) ?_
 ·have hcw:=hw c (Bq hc);have key:Dw6.ev S N ([p,q,Bn l]++[.i .i64 (i:Int)])=some (if okP i c=true then .yld 1 [.i .i64 ((i:Int)+1)] else .ret [.b false]):=by
   rcases Aq (ord c) with h1|h1
   ·simp (disch:=omega) only [V3,Jp,hc,h1,xe,EVP,EV,simprocAttr];simp [okP,h1]
   ·by_cases h2:i=0
    ·subst h2;by_cases h3:c=[42]
     ·subst h3;simp (disch:=omega) only [V3,Jp,hc,h1,xe,EVP,EV,simprocAttr];simp [okP]
     ·simp (disch:=omega) only [V3,Jp,hc,h1,h3,xe,EVP,EV,simprocAttr];simp [okP,h1,h3]
    ·simp (disch:=omega) only [V3,Jp,hc,h1,xe,EVP,EV,simprocAttr];simp [okP,h1,h2]
  rw [key];rcases Aq (okP i c) with h|h<;>simp [h,Ds7,Out.goes]
 ·simp (disch:=omega) only [V3,xe,EVP,EV,simprocAttr];simp [Out.goes,Ds7]
theorem Wl:∀(m cur:List UInt8) (x:List UInt8),x∈pcs cur m→x.length≤cur.length+m.length
 |[],cur,x,h=>by simp [pcs] at h;subst h;simp
 |c::r,cur,x,h=>by
  simp only [pcs] at h;split at h
  ·rcases Am.1 h with rfl|h
   ·omega
   ·have:=Wl r [] x h;simp at this ⊢;omega
  ·have:=Wl r _ x h;simp at this ⊢;omega
theorem Ew4 (m x:List UInt8) (h:x∈cut m):x.length≤m.length:=by simpa using Wl m [] x h
theorem Hr3 (m:List UInt8):(cut m).length≤m.length+1:=by have:=Bp8 m;have:m.count 46≤m.length:=List.count_le_length;omega
theorem An0 (n:List UInt8):([46]:List UInt8).isSuffixOf n=true↔∃m,n=m++[46]:=by rw [E2];exact ⟨fun ⟨m,h⟩=>⟨m,h.symm⟩,fun ⟨m,h⟩=>⟨m,h.symm⟩⟩
theorem Dc8 (m:List UInt8) (hm:m≠[]) (hl:m.length≤253):vld (m++[46])=Ds7 0 (cut m):=by have h1:m++[46]≠[46]:=fun e=>hm (Od (bs:=[46]) (by simpa using e));have h2:0<m.length:=Bv.2 hm;unfold vld nm;rw [if_neg h1,if_pos ⟨by simp;omega,by simp;omega,by simp⟩,Ry,Z7];have e:pcs [] m=cut m:=rfl;have e2:Fg (decide ((0:Nat)=0)) (cut m)=Fg true (cut m):=rfl;rw [e,e2];cases Fg true (cut m)<;>rfl
theorem Ej5 (m:List UInt8) (h:vld (m++[46])=true) (hm:m≠[]):lbl (m++[46])=cut m:=by
 rcases vld_cases h with ⟨h1,_⟩|⟨h1,h2,h3,_⟩
 ·exact absurd (Od (bs:=[46]) (by simpa using h1)) hm
 ·exact (vz h1 (fun p hp=>K7 (Hb h2 hp)) h3.symm).symm
theorem B4 (n:List UInt8) (hn:n.length≤9223372036854775807):S Js 1 [.s n]=some [.b (vld n)]:=by
 refine Ib7 (N:=300) rfl ?_;by_cases h0:n=[46]
 ·subst h0;simp (disch:=omega) only [V3,xe,EVP,EV,simprocAttr];rfl
 ·by_cases h1:255≤n.length
  ·have hv:vld n=false:=by rw [Bool.eq_false_iff];intro h;have:=Iw h;omega
   simp (disch:=omega) only [V3,h0,hv,xe,EVP,EV,simprocAttr]
  ·rcases Aq (([46]:List UInt8).isSuffixOf n) with h2|h2
   ·obtain ⟨m,rfl⟩:=(An0 n).1 h2;have hm:m≠[]:=fun e=>h0 (by simp [e]);have hl:(m++[46]).length=m.length+1:=by simp
    have hml:m.length≤1000000:=by omega
    have e:List.drop 0 (List.take (((m++[46]).length:Int) - 1).toNat (m++[46]))=m:=by
     have:(((m++[46]).length:Int) - 1).toNat=m.length:=by omega
     rw [this];simp
    have hc:=Hr3 m;have hv:=Dc8 m hm (by omega);have hk:=Dy7 (.s (m++[46])) (.b true) (cut m) (by omega) (fun x hx=>by have:=Ew4 m x hx;omega) 300 (by omega);simp (disch:=omega) only [V3,Lb,d9,e,hk,h0,h2,xe,EVP,EV,simprocAttr];rw [hv];cases Ds7 0 (cut m)<;>simp
   ·have hv:vld n=false:=by
     rw [Bool.eq_false_iff];intro h;rcases vld_cases h with ⟨h3,_⟩|⟨h3,_,h5,_⟩
     ·exact h0 h3
     ·obtain ⟨m,hm⟩:=Jz _ h3;have:=(An0 n).2 ⟨m,h5.trans hm⟩;rw [h2] at this;cases this
    simp (disch:=omega) only [V3,Lb,h0,h2,hv,xe,EVP,EV,simprocAttr]
theorem Pb (n:List UInt8) (hn:n.length≤9223372036854775807):S R7 1 [.s n]=some [Bn (lbl n)]:=by
 refine Gt8 (N:=1) rfl ?_;by_cases h0:n=[46]
 ·subst h0;simp (disch:=omega) only [Ah9,H3,xe,EVP,EV,simprocAttr]
 ·rcases Aq (vld n) with h1|h1
  ·obtain ⟨m,hm,rfl⟩:∃m,m≠[]∧n=m++[46]:=by
    rcases vld_cases h1 with ⟨h3,_⟩|⟨h3,_,h5,_⟩
    ·exact absurd h3 h0
    ·obtain ⟨m,hm⟩:=Jz _ h3;exact ⟨m,fun e=>h0 (by rw [h5,hm,e];rfl),h5.trans hm⟩
   have hl:(m++[46]).length=m.length+1:=by simp
   have e:List.drop 0 (List.take (((m++[46]).length:Int) - 1).toNat (m++[46]))=m:=by
    have:(((m++[46]).length:Int) - 1).toNat=m.length:=by omega
    rw [this];simp
   have hl2:=Iw h1;have e2:=Ej5 m h1 hm;simp (disch:=omega) only [Ah9,B4,d9,e,e2,h0,h1,xe,EVP,EV,simprocAttr]
  ·have e:lbl n=[]:=by
    unfold lbl;unfold vld at h1;cases h:nm n with
    |none=>rfl
    |some l=>rw [h] at h1;cases h1
   simp (disch:=omega) only [Ah9,B4,h0,h1,e,xe,EVP,EV,simprocAttr]
theorem N4 (p:List UInt8) (l:List (List UInt8)):flat (p::l)=p++46::flat l:=by simp [flat]
def Wp (n:List UInt8):List UInt8:=if vld n=true∧n≠[46] then jn ((lbl n).drop 1) else []
def u7 (n:List UInt8):Bool:=vld n && !decide (n=[46])
theorem Pz (n:List UInt8) (hn:n.length≤9223372036854775807):S ir 1 [.s n]=some [.s (Wp n), .b (u7 n)]:=by
 refine Iz5 (N:=1) rfl ?_;unfold Wp u7;by_cases h0:n=[46]
 ·subst h0;simp (disch:=omega) only [Dc4,xe,EVP,EV,simprocAttr];simp
 ·rcases Aq (vld n) with h1|h1
  ·rcases vld_cases h1 with ⟨h3,_⟩|⟨h3,h4,h5,h6⟩
   ·exact absurd h3 h0
   ·cases hl:lbl n with
    |nil=>exact absurd hl h3
    |cons p r=>
     rw [hl] at h4 h5;have hp:=K7 (Hb h4 (Gv ..));have hi:=ed n 46;have hc:(((46:UInt8).toNat:Nat):Int)=46:=rfl;have hx:Lib.indexByte n 46=(p.length:Int):=by rw [h5,N4];exact Jq 46 _ p hp
     rw [hc,hx] at hi;have hlen:n.length=p.length+1+(flat r).length:=by rw [h5,N4];simp;omega
     have e:List.drop ((p.length:Int)+1).toNat (List.take n.length n)=flat r:=by
      have:((p.length:Int)+1).toNat=p.length+1:=by omega
      rw [this,C7,h5,N4];simp
     by_cases h7:r=[]
     ·subst h7;have e2:flat []=[]:=rfl;simp (disch:=omega) only [Dc4,B4,hi,e,e2,h0,h1,xe,EVP,EV,simprocAttr];simp [jn]
     ·have e2:¬flat r=[]:=by obtain ⟨m,hm⟩:=Jz r h7;rw [hm];simp
      simp (disch:=omega) only [Dc4,B4,hi,e,e2,h0,h1,xe,EVP,EV,simprocAttr];simp [jn,h7]
  ·simp (disch:=omega) only [Dc4,B4,h0,h1,xe,EVP,EV,simprocAttr];simp
def Bn8 (n top:List UInt8):Bool:=(decide (top=[46])||decide (n=top))||(46::top).isSuffixOf n
theorem Bn7 (n top:List UInt8) (hn:n.length≤9223372036854775807) (ht:top.length≤1000000):S Ay3 2 [.s n, .s top]=some [.b (Bn8 n top)]:=by
 refine Iz7 (N:=1) rfl ?_;unfold Bn8;have h0:([46]:List UInt8).length=1:=rfl;by_cases h1:top=[46]<;>by_cases h2:n=top<;>simp (disch:=omega) only [Iq3,Lb,h1,h2,xe,EVP,EV,simprocAttr]
 all_goals simp
theorem js {a b:List (List UInt8)} (ha:Fg true a=true) (hb:Fg true b=true) (h:(46::flat b)<:+flat a):b<:+a:=by obtain ⟨p,hp⟩:=h;have h1:=Q0 a (fun x hx=>K7 (Hb ha hx));have h2:=Q0 b (fun x hx=>K7 (Hb hb hx));rw [←hp] at h1;have h3:cut (p++46::flat b)=cut p++cut (flat b):=R3 (flat b) p [];rw [h3,h2,←As] at h1;exact ⟨cut p,Od h1⟩
theorem Ev2 {n top:List UInt8} (hn:vld n=true) (ht:vld top=true):Bn8 n top=true↔lbl top<:+lbl n:=by
 unfold Bn8;simp only [Ap,decide_eq_true_eq,E2];constructor
 ·rintro ((rfl|rfl)|h)
  ·rw [H3];exact List.nil_suffix
  ·exact List.suffix_refl _
  ·rcases vld_cases ht with ⟨h1,h2⟩|⟨h1,h2,h3,_⟩
   ·rw [h2];exact List.nil_suffix
   ·rcases vld_cases hn with ⟨h5,_⟩|⟨h5,h6,h7,_⟩
    ·rw [h5] at h;have h9:=h.length_le;have h8:=Hd h2 h1;rw [←h3] at h8;simp only [A3,Bd] at h9;omega
    ·rw [h3,h7] at h;exact js h6 h2 h
 ·intro h;obtain ⟨p,hp⟩:=h;rcases vld_cases ht with ⟨h1,h2⟩|⟨h1,h2,h3,_⟩
  ·exact .inl (.inl h1)
  ·by_cases hp0:p=[]
   ·left;right;subst hp0;exact K5 hn ht hp.symm
   ·right;rcases vld_cases hn with ⟨_,h5⟩|⟨h5,h6,h7,_⟩
    ·rw [h5] at hp;exact absurd (List.append_eq_nil_iff.1 hp).1 hp0
    ·obtain ⟨m,hm⟩:=Jz p hp0;rw [h7,←hp,L3,hm];exact ⟨m,by rw [As,←h3];simp⟩
theorem S1 {α:Type} [DecidableEq α]:∀(a b:List α),kj a b=b.length↔b<+:a
 |[],[]=>by simp [kj]
 |[],y::ys=>by simp [kj]
 |x::xs,[]=>by simp [kj]
 |x::xs,y::ys=>by
  have:=S1 xs ys;simp only [kj];split
  ·rename_i h;subst h;simp [this,Ld]
  ·rename_i h;simp [Ld,Ne.symm h]
theorem Zf (a b:List (List UInt8)):g8 a b=b.length↔b<:+a:=by unfold g8;have:=S1 a.reverse b.reverse;rw [List.length_reverse] at this;rw [this,List.reverse_prefix]
theorem Bs {n top:List UInt8}:under n top=true↔vld n=true∧vld top=true∧lbl top<:+lbl n:=by unfold under;simp [Zf,and_assoc]
theorem T5 {n top:List UInt8} (hn:vld n=true) (ht:vld top=true):Bn8 n top=under n top:=by rw [Cn,Ev2 hn ht,Bs];simp [hn,ht]
theorem E7 (n top:List UInt8) (hn:n.length≤9223372036854775807) (ht:top.length≤9223372036854775807):S Kt 2 [.s n, .s top]=some [.b (under n top)]:=by
 refine Ic6 (N:=1) rfl ?_;rcases Aq (vld n) with h1|h1
 ·rcases Aq (vld top) with h2|h2
  ·have h3:=Iw h2;simp (disch:=omega) only [Fg0,B4,Bn7,h1,h2,xe,EVP,EV,simprocAttr];rw [T5 h1 h2]
  ·have h3:under n top=false:=by simp [under,h2]
   simp (disch:=omega) only [Fg0,B4,h1,h2,h3,xe,EVP,EV,simprocAttr]
 ·have h3:under n top=false:=by simp [under,h1]
  simp (disch:=omega) only [Fg0,B4,h1,h3,xe,EVP,EV,simprocAttr]
end Go.X.G
/- Names: order, common ancestors, wildcards. -/
namespace Go.X.G
open Go Go.X
theorem P5:∀(a:List UInt8),Op.bytesLess a a=false
 |[]=>rfl
 |a::x=>by simp [Op.bytesLess,P5 x]
theorem Lv:∀(a b:List UInt8),Lib.compareBytes a b=cmpS a b
 |[],[]=>rfl
 |[],_::_=>rfl
 |_::_,[]=>rfl
 |a::x,b::y=>by
  have ih:=Lv x y;unfold cmpS at ih ⊢;simp only [Lib.compareBytes,Op.bytesLess,ih];by_cases h1:a<b
  ·simp [h1]
  ·by_cases h2:b<a
   ·have h3:a≠b:=fun e=>by subst e;exact h1 h2
    simp [h1,h2,h3]
   ·have h3:a=b:=UInt8.le_antisymm (UInt8.not_lt.1 h2) (UInt8.not_lt.1 h1);subst h3;simp [h1]
theorem Ic {a b:List UInt8}:cmpS a b=0↔a=b:=by
 unfold cmpS;by_cases h:a=b
 ·subst h;simp [P5]
 ·cases h2:Op.bytesLess a b<;>simp [h]
theorem J8 (x y:List UInt8):S Pr 2 [.s x, .s y]=some [.i .i64 (cmpS x y)]:=by rw [nq,Lv]
def Tw:List (List UInt8)→List (List UInt8)→Option Int
 |x::xs,y::ys=>if x=y then Tw xs ys else some (cmpS x y)
 |_,_=>none
theorem Br1:∀(a b:List (List UInt8)),Tw a b=if kj a b<a.length∧kj a b<b.length then some (cmpS (a.getD (kj a b) []) (b.getD (kj a b) [])) else none
 |[],b=>by simp [Tw,kj]
 |x::xs,[]=>by simp [Tw,kj]
 |x::xs,y::ys=>by
  have ih:=Br1 xs ys;simp only [Tw,kj];by_cases h:x=y
  ·simp only [if_pos h,ih];simp
  ·simp [h]
def Ac1 (a b:List (List UInt8)):Int:=match Tw a.reverse b.reverse with
 |some c=>c
 |none=>if a.length<b.length then -1 else if b.length<a.length then 1 else 0
theorem vj (a:List (List UInt8)) (k:Nat) (h:k<a.length):a.reverse.getD k []=a.getD (a.length - 1 - k) []:=by simp [Bh,List.getElem?_reverse h]
theorem Xn {a b:List UInt8} (ha:vld a=true) (hb:vld b=true):Jv a b=Ac1 (lbl a) (lbl b):=by
 unfold Jv Ac1;rw [Br1];have e:kj (lbl a).reverse (lbl b).reverse=g8 (lbl a) (lbl b):=rfl;rw [e,ha,hb];simp only [List.length_reverse,Bool.and_self,if_true];by_cases h:g8 (lbl a) (lbl b)<(lbl a).length∧g8 (lbl a) (lbl b)<(lbl b).length
 ·rw [if_pos h,if_pos h,vj _ _ h.1,vj _ _ h.2]
 ·rw [if_neg h,if_neg h]
theorem nw (a b:List (List UInt8)) (p1 p2 p3 p4:PV) (ha:a.length≤1000) (hb:b.length≤1000) (N:Nat) (hN:1001<N):
  jz.ev S N [p1,p2,p3,p4,Bn a,Bn b]=some (match Tw a.reverse b.reverse with|some c=> .ret [.i .i64 c]|none=> .yld 0 []):=by
 have key:=K3 (fn:=S) (N:=N) (η:=[p1,p2,p3,p4,Bn a,Bn b]) (id:=1) (init:=[(.c (.i .i64 (1)))]) (body:=m7) (α:=Nat) (fun k=>[.i .i64 ((k:Int)+1)])
  (fun k=>match Tw (a.reverse.drop k) (b.reverse.drop k) with|some c=> .ret [.i .i64 c]|none=> .yld 0 []) (fun k=>k≤a.length∧k≤b.length) (fun k=>a.length - k) 0 rfl ⟨Cr _,Cr _⟩ (by omega) ?_
 ·simpa [jz] using key
 ·rintro k ⟨h1,h2⟩;by_cases h3:k<a.length
  ·by_cases h4:k<b.length
   ·have e1:((a.length:Int) - ((k:Int)+1)).toNat=a.length - 1 - k:=by omega
    have e2:((b.length:Int) - ((k:Int)+1)).toNat=b.length - 1 - k:=by omega
    have g1:a[a.length - 1 - k]? =some (a[a.length - 1 - k]'(by omega)):=Az (by omega);have g2:b[b.length - 1 - k]? =some (b[b.length - 1 - k]'(by omega)):=Az (by omega);have d1:a.reverse.drop k=(a[a.length - 1 - k]'(by omega))::a.reverse.drop (k+1):=by rw [Cd (by simpa using h3)];simp
    have d2:b.reverse.drop k=(b[b.length - 1 - k]'(by omega))::b.reverse.drop (k+1):=by rw [Cd (by simpa using h4)];simp
    rw [d1,d2];generalize (a[a.length - 1 - k]'(by omega))=x at g1;generalize (b[b.length - 1 - k]'(by omega))=y at g2;simp only [Tw];by_cases h:x=y
    ·left;have h5:cmpS x y=0:=Ic.2 h;refine ⟨k+1,?_,⟨by omega,by omega⟩,by omega,by rw [if_pos h]⟩;simp (disch:=omega) only [Q8,J8,e1,e2,g1,g2,h5,xe,EVP,EV,simprocAttr]
    ·right;have h5:¬cmpS x y=0:=fun e=>h (Ic.1 e);rw [if_neg h];simp (disch:=omega) only [Q8,J8,e1,e2,g1,g2,h5,xe,EVP,EV,simprocAttr];simp [Out.goes]
   ·right;have d2:b.reverse.drop k=[]:=Vr (by simp;omega);have z:Tw (a.reverse.drop k) []=none:=by cases a.reverse.drop k<;>rfl
    rw [d2,z];simp (disch:=omega) [Q8,xe,EVP,EV,simprocAttr,Out.goes]
  ·right;have d1:a.reverse.drop k=[]:=Vr (by simp;omega);have z:Tw [] (b.reverse.drop k)=none:=rfl;rw [d1,z];simp (disch:=omega) [Q8,xe,EVP,EV,simprocAttr,Out.goes]
theorem S8 (a b:List UInt8) (hn:a.length≤9223372036854775807) (ht:b.length≤9223372036854775807):S Jy 2 [.s a, .s b]=some [.i .i64 (Jv a b)]:=by
 refine Hq1 (N:=1002) rfl ?_;have h1:=K4 a;have h2:=K4 b;rcases Aq (vld a) with h3|h3<;>rcases Aq (vld b) with h4|h4
 ·rw [Xn h3 h4];unfold Ac1;have hk:=nw (lbl a) (lbl b) (.s a) (.s b) (.b true) (.b true) (by omega) (by omega) 1002 (by omega);cases h5:Tw (lbl a).reverse (lbl b).reverse with
  |some c=>
   rw [h5] at hk;simp (disch:=omega) only [Q8,B4,Pb,hk,h3,h4,xe,EVP,EV,simprocAttr]
  |none=>
   rw [h5] at hk;simp (disch:=omega) only [Q8,B4,Pb,hk,h3,h4,xe,EVP,EV,simprocAttr]
   grind
 all_goals unfold Jv
 all_goals simp (disch:=omega) only [Q8,B4,J8,h3,h4,xe,EVP,EV,simprocAttr]
 all_goals simp
theorem um {n:List UInt8} (h:vld n=true) (k:Nat):(jn ((lbl n).drop k)).length≤254:=Iw (Lf h k).1
def Ty (n:List UInt8):List UInt8:=if n=[46] then [42,46] else [42,46]++n
def Nx (n:List UInt8):Bool:=vld n && !decide ((lbl n)[0]? =some [42]) && vld (Ty n)
def starN (n:List UInt8):List UInt8:=if Nx n=true then Ty n else []
theorem O4 {n:List UInt8} (h:vld n=true):(n[0]? =some 42↔(lbl n)[0]? =some [42]):=by
 rcases vld_cases h with ⟨h1,h2⟩|⟨h1,h2,h3,_⟩
 ·subst h1;simp [H3]
 ·cases hl:lbl n with
  |nil=>exact absurd hl h1
  |cons p r=>
   rw [hl] at h2 h3;have hp:=Hb h2 (Gv ..);have hne:=u6 hp;cases p with
   |nil=>exact absurd rfl hne
   |cons c q=>
    rw [h3,N4];simp only [B7,Cg,Ak];constructor
    ·rintro rfl;unfold L9 at hp;simp at hp;rcases hp with h|h
     ·rw [h]
     ·exfalso;have:Tm 42=false:=by decide
      rw [this] at h;simp at h
    ·intro h;injection h
theorem Ey4 (n:List UInt8) (hn:n.length≤1000000):S Bz2 1 [.s n]=some [.s (starN n), .b (Nx n)]:=by
 refine Iy9 (N:=1) rfl ?_;have h0:([42,46]:List UInt8).length=2:=rfl;have hl:(Ty n).length≤9223372036854775807:=by
  unfold Ty;split
  ·simp
  ·rw [Ac,h0];omega
 unfold starN Nx;have tail:T.ev S 1 Bt0 [.s n, .s (Ty n)]=some (.ret [.s (starN n), .b (Nx n)]):=by
  unfold starN Nx;rcases Aq (vld n) with h3|h3
  ·have h4:=O4 h3;have h5:=Az (M9 h3);have h6:=Iw6 (n[0]'(M9 h3)) 42 (by omega);by_cases h7:(lbl n)[0]? =some [42]
   ·have h8:=h4.2 h7;rw [h5] at h8;injection h8 with h8;have h9:((n[0]'(M9 h3)).toNat:Int)=42:=h6.2 h8;simp (disch:=omega) only [Dc3,B4,h3,h5,xe,EVP,EV,simprocAttr];simp [h7]
   ·have h8:¬n[0]? =some 42:=fun e=>h7 (h4.1 e);rw [h5] at h8;have h9:¬((n[0]'(M9 h3)).toNat:Int)=42:=fun e=>h8 (by rw [h6.1 e];rfl);rcases Aq (vld (Ty n)) with ha|ha<;>simp (disch:=omega) only [Dc3,B4,h3,h5,ha,xe,EVP,EV,simprocAttr]<;>simp [h7]
  ·simp (disch:=omega) only [Dc3,B4,h3,xe,EVP,EV,simprocAttr];simp
 unfold starN Nx at tail;obtain ⟨y0,y1,y2,y3,y4,y5,y6,y7,yt⟩:=Dc3;by_cases h4:n=[46]
 ·have e:Ty n=[42,46]:=by simp [Ty,h4]
  rw [e] at tail ⊢;subst h4;simp (disch:=omega) only [y0,y1,y2,yt,xe,EVP,EV,simprocAttr];rw [tail];simp
 ·have e:Ty n=42::46::n:=by simp [Ty,h4]
  rw [e] at tail ⊢;simp (disch:=omega) only [y0,y1,y2,yt,h4,xe,EVP,EV,simprocAttr];rw [tail];simp
end Go.X.G
/- The canonical order of names is a total order. -/
namespace Go.X.G
open Go Go.X
structure TO {α:Type} (lt:α→α→Prop):Prop where
 irr:∀a,¬lt a a
 tr:∀a b c,lt a b→lt b c→lt a c
 tri:∀a b,lt a b∨a=b∨lt b a
theorem TO.asym {α:Type} {lt:α→α→Prop} (h:TO lt) {a b:α} (h1:lt a b):¬lt b a:=fun h2=>h.irr a (h.tr _ _ _ h1 h2)
theorem TO.ntr {α:Type} {lt:α→α→Prop} (h:TO lt) {a b c:α} (h1:¬lt a b) (h2:¬lt b c):¬lt a c:=by
 intro h3;rcases h.tri b a with h4|h4|h4
 ·exact h2 (h.tr _ _ _ h4 h3)
 ·subst h4;exact h2 h3
 ·exact h1 h4
def lex {α:Type} (lt:α→α→Prop):List α→List α→Prop
 |[],[]=>False
 |[],_::_=>True
 |_::_,[]=>False
 |a::x,b::y=>lt a b∨(a=b∧lex lt x y)
theorem Bf0 {α:Type} {lt:α→α→Prop} (h:TO lt):∀x:List α,¬lex lt x x
 |[]=>by simp [lex]
 |a::x=>by simp only [lex,true_and,not_or];exact ⟨h.irr a,Bf0 h x⟩
theorem Ed7 {α:Type} {lt:α→α→Prop} (h:TO lt):∀x y z:List α,lex lt x y→lex lt y z→lex lt x z
 |[],[],_,h1,_=>by simp [lex] at h1
 |[],_::_,[],_,h2=>by simp [lex] at h2
 |[],_::_,_::_,_,_=>by simp [lex]
 |_::_,[],_,h1,_=>by simp [lex] at h1
 |_::_,_::_,[],_,h2=>by simp [lex] at h2
 |a::x,b::y,c::z,h1,h2=>by
  simp only [lex] at h1 h2 ⊢;rcases h1 with h1|⟨rfl,h1⟩
  ·rcases h2 with h2|⟨rfl,h2⟩
   ·exact .inl (h.tr _ _ _ h1 h2)
   ·exact .inl h1
  ·rcases h2 with h2|⟨rfl,h2⟩
   ·exact .inl h2
   ·exact .inr ⟨rfl,Ed7 h x y z h1 h2⟩
theorem lex_tri {α:Type} {lt:α→α→Prop} (h:TO lt):∀x y:List α,lex lt x y∨x=y∨lex lt y x
 |[],[]=> .inr (.inl rfl)
 |[],_::_=> .inl (by simp [lex])
 |_::_,[]=> .inr (.inr (by simp [lex]))
 |a::x,b::y=>by
  simp only [lex];rcases h.tri a b with h1|rfl|h1
  ·exact .inl (.inl h1)
  ·rcases lex_tri h x y with h2|rfl|h2
   ·exact .inl (.inr ⟨rfl,h2⟩)
   ·exact .inr (.inl rfl)
   ·exact .inr (.inr (.inr ⟨rfl,h2⟩))
  ·exact .inr (.inr (.inl h1))
theorem TO.lex {α:Type} {lt:α→α→Prop} (h:TO lt):TO (G.lex lt):=⟨Bf0 h,Ed7 h,lex_tri h⟩
theorem Iw7:TO (fun a b:UInt8=>a<b):=⟨fun a=>UInt8.lt_irrefl a,fun a b c h1 h2=>UInt8.lt_trans h1 h2,fun a b=>by
 rcases UInt8.lt_or_le a b with h|h
 ·exact .inl h
 ·rcases UInt8.lt_or_le b a with h2|h2
  ·exact .inr (.inr h2)
  ·exact .inr (.inl (UInt8.le_antisymm h2 h))⟩
abbrev ltB:List UInt8→List UInt8→Prop:=lex fun a b:UInt8=>a<b
theorem Dz9:TO ltB:=Iw7.lex
theorem S4:∀a b:List UInt8,Op.bytesLess a b=true↔ltB a b
 |[],[]=>by simp [Op.bytesLess,lex]
 |[],_::_=>by simp [Op.bytesLess,lex]
 |_::_,[]=>by simp [Op.bytesLess,lex]
 |a::x,b::y=>by have ih:=S4 x y;simp only [Op.bytesLess,Ap,decide_eq_true_eq,Aw,beq_iff_eq,lex];rw [ih]
theorem Q1 (a b:List UInt8):cmpS a b<0↔ltB a b:=by
 rw [←S4];unfold cmpS;cases h:Op.bytesLess a b
 ·simp only [Ad,if_false,iff_false];split<;>omega
 ·simp
abbrev ltL:List (List UInt8)→List (List UInt8)→Prop:=lex ltB
theorem to_L:TO ltL:=Dz9.lex
def Ac2 (a b:List (List UInt8)):Int:=match Tw a b with
 |some c=>c
 |none=>if a.length<b.length then -1 else if b.length<a.length then 1 else 0
theorem wk:∀a b:List (List UInt8),Ac2 a b<0↔ltL a b
 |[],[]=>by simp [Ac2,Tw,lex]
 |[],_::_=>by simp [Ac2,Tw,lex]
 |_::_,[]=>by simp [Ac2,Tw,lex]
 |x::xs,y::ys=>by
  have ih:=wk xs ys;simp only [Ac2,Tw,lex] at ih ⊢;by_cases h:x=y
  ·subst h;rw [if_pos rfl];simp only [A3,Nat.add_lt_add_iff_right,true_and];rw [ih];constructor
   ·exact fun h=> .inr h
   ·rintro (h|h)
    ·exact absurd h (Dz9.irr x)
    ·exact h
  ·rw [if_neg h];simp only;rw [Q1];simp [h]
theorem kv (a b:List (List UInt8)):Ac1 a b=Ac2 a.reverse b.reverse:=by unfold Ac1 Ac2;cases Tw a.reverse b.reverse<;>simp
theorem Br0 (a b:List (List UInt8)):Ac1 a b<0↔ltL a.reverse b.reverse:=by rw [←wk,kv]
def ltN (a b:List UInt8):Prop:=if vld a=true then (if vld b=true then ltL (lbl a).reverse (lbl b).reverse else True) else (if vld b=true then False else ltB a b)
theorem Fx (a b:List UInt8):Jv a b<0↔ltN a b:=by
 unfold ltN;rcases Aq (vld a) with ha|ha
 ·rcases Aq (vld b) with hb|hb
  ·rw [Xn ha hb,Br0,if_pos ha,if_pos hb]
  ·unfold Jv;simp [ha,hb]
 ·rcases Aq (vld b) with hb|hb
  ·unfold Jv;simp [ha,hb]
  ·have e:Jv a b=cmpS a b:=by unfold Jv;simp [ha,hb]
   rw [e,Q1];simp [ha,hb]
theorem to_N:TO ltN:=by
 refine ⟨fun a h=> ?_,fun a b c h1 h2=> ?_,fun a b=> ?_⟩
 ·unfold ltN at h;split at h
  ·exact to_L.irr _ h
  ·exact Dz9.irr _ h
 ·unfold ltN at*;rcases Aq (vld a) with ha|ha<;>rcases Aq (vld b) with hb|hb<;>rcases Aq (vld c) with hc|hc<;>
   simp only [ha,hb,hc,if_true,Ad,if_false] at h1 h2 ⊢
  ·exact to_L.tr _ _ _ h1 h2
  ·exact Dz9.tr _ _ _ h1 h2
 ·unfold ltN;rcases Aq (vld a) with ha|ha<;>rcases Aq (vld b) with hb|hb<;>simp only [ha,hb,if_true,Ad,if_false]
  ·rcases to_L.tri (lbl a).reverse (lbl b).reverse with h|h|h
   ·exact .inl h
   ·exact .inr (.inl (K5 ha hb (List.reverse_inj.1 h)))
   ·exact .inr (.inr h)
  ·simp
  ·simp
  ·exact Dz9.tri a b
theorem Hh {a b:List UInt8}:Jv a b=0↔a=b:=by
 constructor
 ·intro h;rcases Aq (vld a) with ha|ha
  ·rcases Aq (vld b) with hb|hb
   ·rw [Xn ha hb] at h;have key:∀x y:List (List UInt8),Ac2 x y=0→x=y:=by
     intro x
     induction x with
     |nil=>intro y hy;cases y with
      |nil=>rfl
      |cons=>simp [Ac2,Tw] at hy
     |cons x xs ih=>intro y hy;cases y with
      |nil=>simp [Ac2,Tw] at hy
      |cons y ys=>
       simp only [Ac2,Tw] at hy ih;by_cases e:x=y
       ·subst e;rw [if_pos rfl] at hy;simp only [A3,Nat.add_lt_add_iff_right] at hy;rw [ih ys hy]
       ·rw [if_neg e] at hy;exact absurd (Ic.1 hy) e
    rw [kv] at h;exact K5 ha hb (List.reverse_inj.1 (key _ _ h))
   ·unfold Jv at h;simp [ha,hb] at h
  ·rcases Aq (vld b) with hb|hb
   ·unfold Jv at h;simp [ha,hb] at h
   ·have e:Jv a b=cmpS a b:=by unfold Jv;simp [ha,hb]
    rw [e] at h;exact Ic.1 h
 ·rintro rfl;have h1:=Fx a a;have h2:¬Jv a a<0:=fun h=>to_N.irr a (h1.1 h);have key:∀x:List (List UInt8),Ac2 x x=0:=by
   intro x
   induction x with
   |nil=>rfl
   |cons x xs ih=>
    simp only [Ac2,Tw] at ih ⊢;simp only [if_true,A3,Nat.add_lt_add_iff_right];exact ih
  rcases Aq (vld a) with ha|ha
  ·rw [Xn ha ha];rw [kv];exact key _
  ·have e:Jv a a=cmpS a a:=by unfold Jv;simp [ha]
   rw [e];exact Ic.2 rfl
end Go.X.G
/- Sorted lists of names, each once. -/
namespace Go.X.G
open Go Go.X
def Qz {α:Type} (e:α→α→Bool):α→List α→List α
 |_,[]=>[]
 |p,c::r=>if e c p=true then Qz e c r else c::Qz e c r
def cpt {α:Type} (e:α→α→Bool):List α→List α
 |[]=>[]
 |x::r=>x::Qz e x r
theorem d3 {α:Type} (e:α→α→Bool) (c:α):∀(r:List α) (p:α),Qz e p (r++[c])=Qz e p r++(if e c ((p::r).getLast (by simp))=true then [] else [c])
 |[],p=>by simp only [Cm,Qz,List.getLast_singleton];rfl
 |x::r,p=>by
  have ih:=d3 e c r x;simp only [B7,Qz,List.getLast_cons_cons];split
  ·exact ih
  ·rw [ih];rfl
theorem L4 {α:Type} (e:α→α→Bool) (c:α) (l:List α) (h:l≠[]):cpt e (l++[c])=cpt e l++(if e c (l.getLast h)=true then [] else [c]):=by
 cases l with
 |nil=>exact absurd rfl h
 |cons x r=>
  show x::Qz e x (r++[c])=_;rw [d3];rfl
theorem vf {α:Type} (e:α→α→Bool):∀(r:List α) (p:α),(Qz e p r).length≤r.length
 |[],_=>by simp [Qz]
 |c::r,p=>by have:=vf e r c;simp only [Qz];split<;>simp<;>omega
theorem Xh {α:Type} (e:α→α→Bool) (l:List α):(cpt e l).length≤l.length:=by
 cases l with
 |nil=>simp [cpt]
 |cons x r=>have:=vf e r x;simp [cpt];exact this
theorem Xl {α:Type} (e:α→α→Bool):∀(r:List α) (p:α),∀x∈Qz e p r,x∈r
 |[],_,x,h=>by simp [Qz] at h
 |c::r,p,x,h=>by
  simp only [Qz] at h;split at h
  ·exact .tail _ (Xl e r c x h)
  ·rcases Am.1 h with rfl|h
   ·exact .head _
   ·exact .tail _ (Xl e r c x h)
theorem Gq7 {α:Type} (e:α→α→Bool) (l:List α):∀x∈cpt e l,x∈l:=by
 cases l with
 |nil=>intro x h;simp [cpt] at h
 |cons y r=>
  intro x h;rcases Am.1 (show x∈y::Qz e y r from h) with rfl|h
  ·exact .head _
  ·exact .tail _ (Xl e r y x h)
abbrev eqs {α:Type} [DecidableEq α]:α→α→Bool:=fun a b=>decide (a=b)
theorem cptG_mem {α:Type} [DecidableEq α]:∀(r:List α) (p x:α),x∈r→x=p∨x∈Qz eqs p r
 |[],_,x,h=>by simp at h
 |c::r,p,x,h=>by
  simp only [Qz];by_cases hc:c=p
  ·subst hc;rw [if_pos (by simp [eqs])];rcases Am.1 h with rfl|h
   ·exact .inl rfl
   ·exact cptG_mem r c x h
  ·rw [if_neg (by simp [eqs,hc])];right;rcases Am.1 h with rfl|h
   ·exact .head _
   ·rcases cptG_mem r c x h with rfl|h
    ·exact .head _
    ·exact .tail _ h
theorem Gq8 {α:Type} [DecidableEq α] (l:List α) (x:α):x∈cpt eqs l↔x∈l:=by
 refine ⟨Gq7 _ l x,fun h=> ?_⟩;cases l with
 |nil=>simp at h
 |cons y r=>
  rcases Am.1 h with rfl|h
  ·exact .head _
  ·rcases cptG_mem r y x h with rfl|h
   ·exact .head _
   ·exact .tail _ h
theorem Ss {α:Type} [DecidableEq α] {lt:α→α→Prop} (ht:TO lt):∀(r:List α) (p:α),(p::r).Pairwise (fun a b=>¬lt b a)→(p::Qz eqs p r).Pairwise lt
 |[],p,_=>by simp [Qz]
 |c::r,p,h=>by
  rw [A5] at h;have ih:=Ss ht r c h.2;simp only [Qz];by_cases hc:c=p
  ·subst hc;rw [if_pos (by simp [eqs])];exact ih
  ·rw [if_neg (by simp [eqs,hc])];rw [A5];refine ⟨fun x hx=> ?_,ih⟩;have hpc:lt p c:=by
    rcases ht.tri p c with h1|h1|h1
    ·exact h1
    ·exact absurd h1.symm hc
    ·exact absurd h1 (h.1 c (.head _))
   rcases Am.1 hx with rfl|hx
   ·exact hpc
   ·exact ht.tr _ _ _ hpc ((A5.1 ih).1 x hx)
theorem Ab8 {α:Type} [DecidableEq α] {lt:α→α→Prop} (ht:TO lt) (l:List α) (h:l.Pairwise (fun a b=>¬lt b a)):(cpt eqs l).Pairwise lt:=by
 cases l with
 |nil=>simp [cpt]
 |cons x r=>exact Ss ht r x h
theorem Zl {α:Type} {lt:α→α→Prop} (ht:TO lt):∀(a b:List α),a.Pairwise lt→b.Pairwise lt→(∀x,x∈a↔x∈b)→a=b
 |[],[],_,_,_=>rfl
 |[],y::b,_,_,h=>absurd ((h y).2 (.head _)) (by simp)
 |x::a,[],_,_,h=>absurd ((h x).1 (.head _)) (by simp)
 |x::a,y::b,ha,hb,h=>by
  rw [A5] at ha hb;have hxy:x=y:=by
   rcases Am.1 ((h x).1 (.head _)) with h1|h1
   ·exact h1
   ·rcases Am.1 ((h y).2 (.head _)) with h2|h2
    ·exact h2.symm
    ·exact absurd (hb.1 x h1) (ht.asym (ha.1 y h2))
  subst hxy;rw [Zl ht a b ha.2 hb.2 fun z=> ?_];constructor
  ·intro hz;rcases Am.1 ((h z).1 (.tail _ hz)) with rfl|h1
   ·exact absurd (ha.1 z hz) (ht.irr z)
   ·exact h1
  ·intro hz;rcases Am.1 ((h z).2 (.tail _ hz)) with rfl|h1
   ·exact absurd (hb.1 z hz) (ht.irr z)
   ·exact h1
def setN (l:List (List UInt8)):List (List UInt8):=cpt eqs (l.mergeSort fun x y=> !decide (Jv y x<0))
theorem Fr1 (l:List (List UInt8)):(l.mergeSort fun x y=> !decide (Jv y x<0)).Pairwise (fun a b=>¬ltN b a):=by
 have:=List.pairwise_mergeSort (le:=fun x y:List UInt8=> !decide (Jv y x<0)) (fun a b c h1 h2=>by
  simp only [A8,decide_eq_false_iff_not,Fx] at h1 h2 ⊢;exact to_N.ntr h2 h1) (fun a b=>by
  simp only [Ap,A8,decide_eq_false_iff_not,Fx];rcases to_N.tri a b with h|h|h
  ·exact .inl (to_N.asym h)
  ·subst h;exact .inl (to_N.irr a)
  ·exact .inr (to_N.asym h)) l
 refine this.imp fun {a b} h=> ?_;simpa only [A8,decide_eq_false_iff_not,Fx] using h
theorem Rb (l:List (List UInt8)):(setN l).Pairwise ltN:=Ab8 to_N _ (Fr1 l)
theorem Ll (l:List (List UInt8)) (x:List UInt8):x∈setN l↔x∈l:=by unfold setN;rw [Gq8];exact (List.mergeSort_perm _ _).mem_iff
theorem Wq (l:List (List UInt8)):(setN l).length≤l.length:=by have:=Xh eqs (l.mergeSort fun x y=> !decide (Jv y x<0));rw [fc] at this;exact this
end Go.X.G
/- Data of records: what the reference's functions give. -/
namespace Go.X.G
open Go Go.X
theorem t15 (t:Int):t=1∨t=2∨t=5∨t=6∨t=12∨t=15∨t=16∨t=28∨t=33∨t=39∨t=43∨t=46∨t=47∨t=48∨(t≠1∧t≠2∧t≠5∧t≠6∧t≠12∧t≠15∧t≠16∧t≠28∧t≠33∧t≠39∧t≠43∧t≠46∧t≠47∧t≠48):=by omega
def knw (t:Int):Bool:=decide (t=1)||decide (t=2)||decide (t=5)||decide (t=6)||decide (t=12)||decide (t=15)||decide (t=16)||decide (t=28)||decide (t=33)||decide (t=39)||decide (t=43)||decide (t=46)||decide (t=47)||decide (t=48)
def D7 (d:Dat):Bool:=d.v6||(decide (d.hi=0) && decide (d.lo<4294967296))
def inB (n most:Int):Bool:=decide (0≤n) && decide (n≤most)
def Ig (s:List UInt8):Bool:=decide (1≤s.length) && decide (s.length≤255)
def Hz (n:List UInt8):Bool:=vld n && decide (n[0]? ≠some 42)
def bit (set:Int) (t:Nat):Int:=set / 2 ^ t % 2
theorem It0 (x:Int):IntKind.u64.wrap ((BitVec.ofInt IntKind.u64.bits x &&& BitVec.ofInt IntKind.u64.bits 1).toNat:Int)=x % 2:=by
 have h2:(BitVec.ofInt 64 x &&& BitVec.ofInt 64 1).toNat=(BitVec.ofInt 64 x).toNat % 2:=by rw [BitVec.toNat_and];show (BitVec.ofInt 64 x).toNat &&& 1=_;exact Nat.and_one_is_mod _
 show IntKind.u64.wrap (((BitVec.ofInt 64 x &&& BitVec.ofInt 64 1).toNat:Nat):Int)=_;rw [h2,BitVec.toNat_ofInt];rw [Iv2]<;>omega
end Go.X.G
/- Data of records: bytes. -/
namespace Go.X.G
open Go Go.X
def Gd1 (set:Int) (i:Nat):Nat→Bool
 |0=>true
 |k+1=>(!decide (bit set i=1)||knw (i:Int)) && Gd1 set (i+1) k
def be (v:Int):Nat→List UInt8
 |0=>[]
 |n+1=>UInt8.ofNat (v / 256 ^ n % 256).toNat::be v n
theorem Eb (v:Int):∀n,(be v n).length=n
 |0=>rfl
 |n+1=>by simp [be,Eb v n]
theorem By8 (z:Int) (h1:0≤z) (h2:z<256):((UInt8.ofNat z.toNat).toNat:Int)=z:=by simp;omega
theorem Gq5 (v:Int) (j:Nat):v / 256 ^ j / 256=v / 256 ^ (j+1):=by rw [Int.pow_succ,Int.ediv_ediv_of_nonneg (Int.le_of_lt (Int.pow_pos (by decide)))]
theorem Hp9 (v:Int) (j:Nat) (h:0≤v):0≤v / 256 ^ j:=Int.ediv_nonneg h (Int.le_of_lt (Int.pow_pos (by decide)))
theorem Hr0 (v:Int) (j:Nat) (h:0≤v):v / 256 ^ j≤v:=Int.ediv_le_self _ h
end Go.X.G
/- Data of records: the wire form. -/
namespace Go.X.G
open Go Go.X
theorem c8 {s:List UInt8} (h:L9 s=true):s.length≤63:=by
 unfold L9 at h;simp at h;rcases h with h|h
 ·simp [h]
 ·omega
theorem V9:∀(r:List UInt8) (f:Bool) (cur:List UInt8) (l:List (List UInt8)),spl f cur r=some l→∀x∈l,L9 x=true
 |[],f,cur,l,h=>by simp [spl] at h;subst h;simp
 |c::r,f,cur,l,h=>by
  simp only [spl] at h;split at h
  ·split at h
   ·rename_i h2;obtain ⟨m,hm,rfl⟩:=Ax.1 h;intro x hx;simp at hx;rcases hx with rfl|hx
    ·exact h2.1
    ·exact V9 r _ _ _ hm x hx
   ·cases h
  ·exact V9 r _ _ _ h
theorem W6 (n:List UInt8):∀x∈lbl n,L9 x=true:=by
 unfold lbl nm;split
 ·simp
 ·split
  ·cases h:spl true [] n with
   |none=>simp
   |some l=>simpa using V9 _ _ _ _ h
  ·simp
def wireL (l:List (List UInt8)):List UInt8:=l.flatMap fun x=>be (x.length:Int) 1++x
def Iv (n:List UInt8):List UInt8:=wireL (lbl n)++be 0 1
theorem Q9:∀(l:List (List UInt8)),(∀x∈l,L9 x=true)→(wireL l).length≤64*l.length
 |[],_=>by simp [wireL]
 |x::l,h=>by have h1:=c8 (h x (by simp));have h2:=Q9 l (fun y hy=>h y (by simp [hy]));simp only [wireL,Ir,Ac,Eb,A3] at h2 ⊢;omega
theorem Y0 (n:List UInt8):(Iv n).length≤20000:=by have h1:=Q9 (lbl n) (W6 n);have h2:=K4 n;simp only [Iv,Ac,Eb];omega
def bmV (set:Int) (i:Nat):Nat→Int
 |0=>0
 |j+1=>bmV set i j*2+bit set (i*8+j)
theorem Fc8 (set:Int) (t:Nat):0≤bit set t∧bit set t≤1:=by unfold bit;omega
theorem zq (set:Int) (i:Nat):∀j,0≤bmV set i j∧bmV set i j<2 ^ j
 |0=>by simp [bmV]
 |j+1=>by have h1:=zq set i j;have h2:=Fc8 set (i*8+j);simp only [bmV,Int.pow_succ];omega
def bmB (set:Int) (i:Nat):UInt8:=UInt8.ofNat (bmV set i 8).toNat
def bmL (set:Int):Nat→Nat
 |0=>0
 |i+1=>if bmV set i 8≠0 then i+1 else bmL set i
theorem Fc6 (set:Int):∀i,bmL set i≤i
 |0=>Af _
 |i+1=>by have:=Fc6 set i;simp only [bmL];split<;>omega
def bmap (set:Int):List UInt8:=((List.range 8).map (bmB set)).take (bmL set 8)
theorem zk (set:Int):(bmap set).length≤8:=by simp [bmap];omega
def Qj (d:Dat):List UInt8:=if d.v6 then be d.hi 8++be d.lo 8 else be d.lo 4
def usd (t:Int) (d:Dat):Dat:=
 if t=1∨t=28 then ⟨d.v6,d.hi,d.lo,[],[],[],0,0,0,0,0,0,0⟩
 else if t=2∨t=5∨t=12∨t=39 then ⟨false,0,0,d.host,[],[],0,0,0,0,0,0,0⟩
 else if t=6 then ⟨false,0,0,d.host,d.mail,[],d.a,d.b,d.c,d.d,d.e,0,0⟩
 else if t=15 then ⟨false,0,0,d.host,[],[],d.a,0,0,0,0,0,0⟩
 else if t=16 then ⟨false,0,0,[],[],d.text,0,0,0,0,0,0,0⟩
 else if t=33 then ⟨false,0,0,d.host,[],[],d.a,d.b,d.c,0,0,0,0⟩
 else if t=43∨t=48 then ⟨false,0,0,[],[],d.text,d.a,d.b,d.c,0,0,0,0⟩
 else if t=46 then ⟨false,0,0,d.host,[],d.text,d.a,d.b,d.c,d.d,d.e,d.f,0⟩
 else ⟨false,0,0,d.host,[],[],0,0,0,0,0,0,d.bits⟩
end Go.X.G
/- Data of records: which are valid. -/
namespace Go.X.G
open Go Go.X
def Dy (t:Int) (d:Dat):Bool:=
 if t=1 then D7 d && !d.v6
 else if t=28 then d.v6
 else if t=6 then Hz d.host && Hz d.mail && inB d.a 4294967295 && inB d.b 2147483647 && inB d.c 2147483647 && inB d.d 2147483647 && inB d.e 2147483647
 else if t=15 then Hz d.host && inB d.a 65535
 else if t=16 then decide (d.text.length≤255)
 else if t=33 then Hz d.host && inB d.a 65535 && inB d.b 65535 && inB d.c 65535
 else if t=43 then inB d.a 65535 && inB d.b 255 && inB d.c 255 && Ig d.text
 else if t=46 then knw d.a && decide (d.a≠46) && inB d.b 127 && inB d.c 2147483647 && inB d.d 4294967295 && inB d.e 4294967295 && inB d.f 65535 && Hz d.host && Ig d.text
 else if t=47 then vld d.host && decide (d.bits≠0) && Gd1 d.bits 0 64
 else if t=48 then (decide (d.a=256)||decide (d.a=257)) && decide (d.b=3) && inB d.c 255 && Ig d.text
 else Hz d.host
def Ej (t:Int) (d:Dat):Bool:=knw t && decide (usd t d=d) && Dy t d
def Jl (t:Int) (d:Dat):List UInt8:=
 if t=1∨t=28 then Qj d
 else if t=6 then Iv d.host++Iv d.mail++be d.a 4++be d.b 4++be d.c 4++be d.d 4++be d.e 4
 else if t=15 then be d.a 2++Iv d.host
 else if t=16 then be (d.text.length:Int) 1++d.text
 else if t=33 then be d.a 2++be d.b 2++be d.c 2++Iv d.host
 else if t=43∨t=48 then be d.a 2++be d.b 1++be d.c 1++d.text
 else if t=46 then be d.a 2++be 253 1++be d.b 1++be d.c 4++be d.d 4++be d.e 4++be d.f 2++Iv d.host++d.text
 else if t=47 then Iv d.host++be 0 1++be ((bmap d.bits).length:Int) 1++bmap d.bits
 else Iv d.host
theorem knw_cases {t:Int} (h:knw t=true):t=1∨t=2∨t=5∨t=6∨t=12∨t=15∨t=16∨t=28∨t=33∨t=39∨t=43∨t=46∨t=47∨t=48:=by simp [knw] at h;omega
def Ew7 (t:Int) (a b:Dat):Int:=
 if Ej t a && Ej t b then cmpS (Jl t a) (Jl t b) else if Ej t a then -1 else if Ej t b then 1 else 0
end Go.X.G
/- Lists of records: what the reference's functions give. -/
namespace Go.X.G
open Go Go.X
def Oh (r:Rec):Bool:=vld r.name && knw r.typ && decide (0≤r.ttl) && decide (r.ttl≤2147483647) && Ej r.typ r.data
def v8 (a b:Int):Int:=if a<b then -1 else if b<a then 1 else 0
def Tx (a b:Rec):Int:=
 if Jv a.name b.name≠0 then Jv a.name b.name else if v8 a.typ b.typ≠0 then v8 a.typ b.typ else Ew7 a.typ a.data b.data
def isK (n:List UInt8) (t:Int) (r:Rec):Bool:=decide (r.name=n) && decide (r.typ=t)
def findR (l:List Rec) (n:List UInt8) (t:Int):List Rec:=l.filter (isK n t)
theorem Ey8 (l:List Rec) (n:List UInt8) (t:Int) (hl:l.length≤1000000):S Bz6 3 [Ah l, .s n, .i .i64 t]=some [Ah (findR l n t)]:=by
 refine Iz6 (N:=l.length+1) rfl ?_;have key:Ef4.ev S (l.length+1) [Ah l, .s n, .i .i64 t]=some (.yld 0 [Ah ([]++findR l n t)]):=by
  refine F6 l (fun i (g:List Rec)=>[Ah g, .i .i64 (i:Int)]) (fun i g r=> .yld 0 [Ah (g++findR r n t)]) (fun i g=>g.length≤i) [] rfl (Cr _) (by omega) (fun i g c r hd hi hc hI=> ?_) (fun g hI=> ?_)
  ·left;by_cases h:isK n t c=true
   ·refine ⟨g++[c],?_,by simp;omega,by simp [findR,h]⟩;simp [isK] at h;simp (disch:=omega) only [Ah1,hc,h.1,h.2,xe,EVP,EV,simprocAttr]
   ·refine ⟨g,?_,by omega,by simp [findR,h]⟩;simp [isK] at h;by_cases h1:c.name=n
    ·simp (disch:=omega) only [Ah1,hc,h1,h h1,xe,EVP,EV,simprocAttr]
    ·by_cases h2:c.typ=t<;>simp (disch:=omega) only [Ah1,hc,h1,h2,xe,EVP,EV,simprocAttr]
  ·simp (disch:=omega) only [Ah1,xe,EVP,EV,simprocAttr];simp [findR,Out.goes]
 simp (disch:=omega) only [Ah1,key,xe,EVP,EV,simprocAttr]
def fw (x:Rec):List Rec→List Rec
 |[]=>[x]
 |y::r=>if Tx y x<0 then y::fw x r else if Tx y x=0 then (if x.ttl<y.ttl then x::r else y::r) else x::y::r
def sortR (l:List Rec):List Rec:=l.foldl (fun acc x=>fw x acc) []
theorem insR_mem (x:Rec):∀(l:List Rec) (y:Rec),y∈fw x l→y=x∨y∈l
 |[],y,h=>by simp [fw] at h;exact .inl h
 |z::r,y,h=>by
  simp only [fw] at h;split at h
  ·simp at h;rcases h with h|h
   ·exact .inr (by simp [h])
   ·rcases insR_mem x r y h with h|h
    ·exact .inl h
    ·exact .inr (by simp [h])
  ·split at h
   ·split at h
    ·simp at h;rcases h with h|h
     ·exact .inl h
     ·exact .inr (by simp [h])
    ·exact .inr h
   ·simp at h;rcases h with h|h
    ·exact .inl h
    ·exact .inr (by simpa using h)
end Go.X.G
/- Zones: what the reference's check gives. -/
namespace Go.X.G
open Go Go.X
def D9 (n top:List UInt8):Bool:=decide (n≠top) && under n top
def dv (l:List Rec) (n:List UInt8) (t:Int):Bool:=decide (0<(findR l n t).length)
def Oq (r x:Rec):Bool:=
 !decide (x.name=r.name)||(!(decide (x.typ=r.typ) && decide (r.typ≠46) && decide (x.ttl≠r.ttl)) && !(decide (x.typ=r.typ) && (decide (r.typ=6)||decide (r.typ=5)||decide (r.typ=39)) && decide (x≠r)) &&
  !(decide (r.typ=5) && decide (x.typ≠5) && decide (x.typ≠46) && decide (x.typ≠47)))
def X4 (z:Zone) (r:Rec):Bool:=z.recs.all (Oq r)
def Nf (z:Zone) (r x:Rec):Bool:=
 !(decide (x.typ=39) && D9 r.name x.name) && !(decide (x.typ=2) && D9 x.name z.origin && D9 r.name x.name && decide (r.typ≠1) && decide (r.typ≠28))
def Wd (t:Int):Bool:=decide (t=2)||decide (t=43)||decide (t=47)||decide (t=46)||decide (t=1)||decide (t=28)
def Wg (z:Zone) (r:Rec):Bool:=
 if (lbl r.name)[0]? =some [42]∧(r.typ=2∨r.typ=39) then false
 else z.recs.all (Nf z r) && (if D9 r.name z.origin && dv z.recs r.name 2 then Wd r.typ else decide (r.typ≠43))
def Rs (z:Zone) (r:Rec):Bool:=under r.name z.origin && !(decide (r.typ=6) && decide (r.name≠z.origin)) && X4 z r && Wg z r
def Vf (z:Zone):Int:=
 if vld z.origin=false then 2
 else if 2048<z.recs.length then 9
 else if z.recs.all (fun r=>decide ((findR z.recs r.name r.typ).length≤64))=false then 9
 else if z.recs.all Oh=false then 5
 else if z.recs≠sortR z.recs then 7
 else if (findR z.recs z.origin 6).length≠1∨dv z.recs z.origin 2=false then 13
 else if z.recs.all (Rs z)=false then 13
 else 0
end Go.X.G
/- Names on the way up; delegations above a name. -/
namespace Go.X.G
open Go Go.X
def upN (o n:List UInt8):List (List UInt8):=(List.range ((lbl n).length - (lbl o).length+1)).map fun k=>jn ((lbl n).drop k)
theorem Mg {o n x:List UInt8} (h:under n o=true):x∈upN o n↔under n x=true∧under x o=true:=by
 obtain ⟨hn,ho,hs⟩:=Bs.1 h;have hle:=hs.length_le;rw [En] at hs;unfold upN;rw [D3];constructor
 ·rintro ⟨k,hk,rfl⟩;rw [E1] at hk;obtain ⟨v1,v2⟩:=Lf hn k;refine ⟨Bs.2 ⟨hn,v1,by rw [v2];exact List.drop_suffix _ _⟩,Bs.2 ⟨v1,ho,?_⟩⟩;rw [v2,hs];have:(lbl n).length - (lbl o).length=k+((lbl n).length - (lbl o).length - k):=by omega
  rw [this,←Ch];exact List.drop_suffix _ _
 ·rintro ⟨h1,h2⟩;obtain ⟨_,hx,h3⟩:=Bs.1 h1;obtain ⟨_,_,h4⟩:=Bs.1 h2;have l1:=h3.length_le;have l2:=h4.length_le;rw [En] at h3;refine ⟨(lbl n).length - (lbl x).length,?_,?_⟩
  ·rw [E1];omega
  ·rw [←h3];exact (Mj hx).symm
theorem gk (o n:List UInt8):(upN o n).length≤256:=by have:=K4 n;simp [upN];omega
theorem Ol {o n:List UInt8} {k:Nat} (hk:k≤(lbl n).length - (lbl o).length):(upN o n)[k]? =some (jn ((lbl n).drop k)):=by unfold upN;rw [Bf,Cj (by omega)];rfl
theorem jc {n:List UInt8} (h:vld n=true):jn ((lbl n).drop 0)=n:=by rw [Ev];exact (Mj h).symm
theorem T3 {o n:List UInt8} (h:under n o=true) {k:Nat} (hk:k≤(lbl n).length - (lbl o).length):jn ((lbl n).drop k)=o↔k=(lbl n).length - (lbl o).length:=by
 obtain ⟨hn,ho,hs⟩:=Bs.1 h;have hle:=hs.length_le;rw [En] at hs;obtain ⟨v1,v2⟩:=Lf hn k;constructor
 ·intro e;have:=congrArg (fun x=>(lbl x).length) e;simp only [v2,B3] at this;omega
 ·rintro rfl;rw [←hs];exact (Mj ho).symm
theorem Al9 {o n:List UInt8} (h:under n o=true) {k:Nat} (hk:k<(lbl n).length - (lbl o).length):Wp (jn ((lbl n).drop k))=jn ((lbl n).drop (k+1))∧u7 (jn ((lbl n).drop k))=true:=by
 obtain ⟨hn,ho,hs⟩:=Bs.1 h;obtain ⟨v1,v2⟩:=Lf hn k;have hne:jn ((lbl n).drop k)≠[46]:=by intro e;have:=(W5 v1).2 e;rw [v2] at this;have:=congrArg List.length this;simp at this;omega
 unfold Wp u7;rw [if_pos ⟨v1,hne⟩,v2,Ch];exact ⟨rfl,by simp [v1,hne]⟩
theorem Xv (l:List (List UInt8)) (i j:Nat) (h:i<j) (hj:j≤l.length):(flat (l.drop j)).length<(flat (l.drop i)).length:=by
 have e:l.drop i=(l.drop i).take (j - i)++l.drop j:=by have:=(Bl (j - i) (l.drop i)).symm;rw [Ch,show i+(j - i)=j by omega] at this;exact this
 rw [e,L3,Ac];have:0<(flat ((l.drop i).take (j - i))).length:=by
  cases hc:(l.drop i).take (j - i) with
  |nil=>
   have:=congrArg List.length hc;simp at this;omega
  |cons x r=>simp [flat];omega
 omega
theorem Dy5 {n a b:List UInt8} (ha:under n a=true) (hb:under n b=true):a.length<b.length↔(lbl a).length<(lbl b).length:=by
 have key:∀{a b:List UInt8},under n a=true→under n b=true→(lbl a).length<(lbl b).length→a.length<b.length:=by
  intro a b ha hb hl;obtain ⟨hn,va,sa⟩:=Bs.1 ha;obtain ⟨_,vb,sb⟩:=Bs.1 hb;have la:=sa.length_le;have lb:=sb.length_le;rw [En] at sa sb;rw [Mj va,Mj vb];have hbne:lbl b≠[]:=fun e=>by rw [e] at hl;simp at hl
  have e2:jn (lbl b)=flat (lbl b):=by unfold jn;rw [if_neg hbne]
  rw [e2];by_cases ha0:lbl a=[]
  ·have e1:jn (lbl a)=[46]:=by unfold jn;rw [if_pos ha0]
   rw [e1];have:=Hd (Qg vb) hbne;simp;omega
  ·have e1:jn (lbl a)=flat (lbl a):=by unfold jn;rw [if_neg ha0]
   rw [e1,sa,sb];exact Xv _ _ _ (by omega) (by omega)
 constructor
 ·intro h;rcases Nat.lt_or_ge (lbl a).length (lbl b).length with h1|h1
  ·exact h1
  ·rcases Nat.lt_or_eq_of_le h1 with h2|h2
   ·have:=key hb ha h2;omega
   ·obtain ⟨_,va,sa⟩:=Bs.1 ha;obtain ⟨_,vb,sb⟩:=Bs.1 hb;rw [En] at sa sb;have:a=b:=K5 va vb (by rw [sa,sb,h2]);subst this;omega
 ·exact key ha hb
def Dk (z:Zone) (r:Rec):Bool:=decide (r.typ=2) && D9 r.name z.origin
def fz (z:Zone) (n:List UInt8):List UInt8→List Rec→List UInt8
 |b,[]=>b
 |b,r::rs=>fz z n (if Dk z r && under n r.name && (decide (b=[])||decide ((lbl r.name).length<(lbl b).length)) then r.name else b) rs
def cutN (z:Zone) (n:List UInt8):List UInt8:=fz z n [] z.recs
theorem Px (z:Zone) (n:List UInt8):∀(l:List Rec) (b:List UInt8),(b=[]∨under n b=true)→
  (fz z n b l=[]→b=[]∧∀r∈l,Dk z r=true→under n r.name=false)∧
  (fz z n b l≠[]→under n (fz z n b l)=true∧(fz z n b l=b∨∃r∈l,Dk z r=true∧r.name=fz z n b l)∧(b≠[]→(lbl (fz z n b l)).length≤(lbl b).length)∧∀r∈l,Dk z r=true→under n r.name=true→(lbl (fz z n b l)).length≤(lbl r.name).length)
 |[],b,hb=>by simp only [fz];refine ⟨fun h=>⟨h,fun r hr=>by simp at hr⟩,fun h=>⟨hb.resolve_left h, .inl trivial,fun _=>Af _,fun r hr=>by simp at hr⟩⟩
 |r::rs,b,hb=>by
  simp only [fz];have hne:under n r.name=true→r.name≠[]:=fun h e=>by have:=(Bs.1 h).2.1;rw [e] at this;simp [vld,nm] at this
  by_cases hc:(Dk z r && under n r.name && (decide (b=[])||decide ((lbl r.name).length<(lbl b).length)))=true
  ·rw [if_pos hc];simp only [Aw,Ap,decide_eq_true_eq] at hc;obtain ⟨⟨c1,c2⟩,c3⟩:=hc;obtain ⟨h1,h2⟩:=Px z n rs r.name (.inr c2);refine ⟨fun h=>absurd (h1 h).1 (hne c2),fun h=> ?_⟩;obtain ⟨g1,g2,g3,g4⟩:=h2 h;refine ⟨g1, .inr ?_,fun hb0=> ?_,fun x hx hx1 hx2=> ?_⟩
   ·rcases g2 with g2|⟨x,hx,g2⟩
    ·exact ⟨r, .head _,c1,g2.symm⟩
    ·exact ⟨x, .tail _ hx,g2⟩
   ·have:=g3 (hne c2);rcases c3 with c3|c3
    ·exact absurd c3 hb0
    ·omega
   ·rcases Am.1 hx with rfl|hx
    ·exact g3 (hne c2)
    ·exact g4 x hx hx1 hx2
  ·rw [if_neg hc];obtain ⟨h1,h2⟩:=Px z n rs b hb;have hr:Dk z r=true→under n r.name=true→b≠[]∧(lbl b).length≤(lbl r.name).length:=by intro c1 c2;simp only [c1,c2,Bool.and_self,Gg2,Ap,decide_eq_true_eq,not_or,Nat.not_lt] at hc;exact hc
   refine ⟨fun h=> ?_,fun h=> ?_⟩
   ·obtain ⟨g1,g2⟩:=h1 h;refine ⟨g1,fun x hx hx1=> ?_⟩;rcases Am.1 hx with rfl|hx
    ·rcases Aq (under n x.name) with h3|h3
     ·exact absurd g1 (hr hx1 h3).1
     ·exact h3
    ·exact g2 x hx hx1
   ·obtain ⟨g1,g2,g3,g4⟩:=h2 h;refine ⟨g1,?_,g3,fun x hx hx1 hx2=> ?_⟩
    ·rcases g2 with g2|⟨x,hx,g2⟩
     ·exact .inl g2
     ·exact .inr ⟨x, .tail _ hx,g2⟩
    ·rcases Am.1 hx with rfl|hx
     ·obtain ⟨q1,q2⟩:=hr hx1 hx2;have:=g3 q1;omega
     ·exact g4 x hx hx1 hx2
def Ob (z:Zone) (n:List UInt8):Bool:=z.recs.any fun r=>Dk z r && decide (r.name≠n) && under n r.name
theorem Jw {a b:List UInt8} (h1:under a b=true) (h2:(lbl a).length≤(lbl b).length):a=b:=by obtain ⟨va,vb,s⟩:=Bs.1 h1;exact K5 va vb (s.eq_of_length_le h2).symm
theorem Ft2 (z:Zone) (n:List UInt8):Ob z n=(decide (cutN z n≠[]) && decide (cutN z n≠n)):=by
 obtain ⟨h1,h2⟩:=Px z n z.recs [] (.inl rfl);have e:cutN z n=fz z n [] z.recs:=rfl;rw [←e] at h1 h2;rw [Cn];unfold Ob;simp only [B5,Aw,decide_eq_true_eq];constructor
 ·rintro ⟨r,hr,⟨c1,c2⟩,c3⟩;have hne:cutN z n≠[]:=fun h=>by have:=(h1 h).2 r hr c1;rw [c3] at this;cases this
  refine ⟨hne,fun h=> ?_⟩;obtain ⟨_,_,_,g4⟩:=h2 hne;have:=g4 r hr c1 c3;rw [h] at this;exact c2 (Jw c3 this).symm
 ·rintro ⟨hne,hnn⟩;obtain ⟨g1,g2,_,_⟩:=h2 hne;rcases g2 with g2|⟨r,hr,c1,c2⟩
  ·exact absurd g2 hne
  ·exact ⟨r,hr,⟨c1,by rw [c2];exact hnn⟩,by rw [c2];exact g1⟩
def Gg1 (z:Zone):List (List UInt8):=(z.recs.filter fun r=>under r.name z.origin && !Ob z r.name).flatMap fun r=>upN z.origin r.name
def namesN (z:Zone):List (List UInt8):=setN (Gg1 z)
def Eg6 (z:Zone) (x:List UInt8):Prop:=∃r∈z.recs,under r.name z.origin=true∧Ob z r.name=false∧under r.name x=true∧under x z.origin=true
theorem zd (z:Zone) (x:List UInt8):x∈Gg1 z↔Eg6 z x:=by
 unfold Gg1 Eg6;simp only [List.mem_flatMap,Bp,Aw,A8];constructor
 ·rintro ⟨r,⟨hr,h1,h2⟩,h3⟩;obtain ⟨h4,h5⟩:=(Mg h1).1 h3;exact ⟨r,hr,h1,h2,h4,h5⟩
 ·rintro ⟨r,hr,h1,h2,h4,h5⟩;exact ⟨r,⟨hr,h1,h2⟩,(Mg h1).2 ⟨h4,h5⟩⟩
theorem Dt0 (z:Zone) (l:List (List UInt8)) (h:∀x,x∈l↔Eg6 z x):setN l=namesN z:=
 Zl to_N _ _ (Rb _) (Rb _) fun x=>by rw [Ll,h,namesN,Ll,zd]
theorem Ax6 (z:Zone) (x:List UInt8):x∈namesN z↔Eg6 z x:=by unfold namesN;rw [Ll,zd]
end Go.X.G
