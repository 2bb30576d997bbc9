/- Names: what the reference's functions give. -/
import Derived.Test.YtfkfaliipkpcdaaGreatDoorLookupNegativeG7
import Derived.Test.YtfkfaliipkpcdaaGreatDoorLookupNegativeG8
open Bool renaming eq_false_or_eq_true→Aq,and_eq_true→Aw,false_eq_true→Ad,or_eq_true→An,not_eq_true'→A8,eq_iff_iff→Cp,and_true→O8,true_and→Hz3
open List renaming length_append→Ay,getElem?_eq_getElem→Ab,mem_cons→Am,length_cons→As,append_assoc→A0,pairwise_cons→A5,length_nil→A9,mem_of_getElem?→Bv,length_pos_iff→Bw,mem_filter→Bf,getElem?_map→Bh,getD_eq_getElem?_getD→Bm,take_append_drop→Bp,length_drop→B3,any_eq_true→B6,cons_append→B9,getElem?_range→Cq,nil_append→Cv,drop_eq_getElem_cons→Cz,getElem?_cons_zero→Cb,drop_drop→Cm,take_length→C7,mem_map→Dd,drop_zero→D7,suffix_iff_eq_drop→Et,mem_range→E5,isSuffixOf_iff_suffix→E6,mem_cons_self→Gy,flatMap_cons→G1,getLast_eq_getElem→I2,drop_eq_nil_of_le→J1,cons_prefix_cons→Lp,append_cancel_right→O7,length_mergeSort→jw,count_eq_zero→Ip3
open Nat renaming le_refl→Af,zero_le→Cl
open Option renaming map_eq_some_iff→Ax,map_some→A3
open Option.some renaming injEq→Ak
set_option maxHeartbeats 1000000
set_option linter.unusedVariables false
set_option linter.unusedSimpArgs false
namespace Go.X.G
open Go Go.X
def Uf (c:UInt8):Bool:=decide (97≤(c.toNat:Int)) && decide ((c.toNat:Int)≤122)||decide (48≤(c.toNat:Int)) && decide ((c.toNat:Int)≤57)||decide ((c.toNat:Int)=45)||decide ((c.toNat:Int)=95)
def Mf (s:List UInt8):Bool:=decide (s=[42])||(decide (1≤s.length) && decide (s.length≤63) && s.all Uf)
end Go.X.G
/- Names: what the reference's functions give. -/
namespace Go.X.G
open Go Go.X
def spl (first:Bool) (cur:List UInt8):List UInt8→Option (List (List UInt8))
 |[]=>some []
 |c::r=>if c=46 then (if Mf cur=true∧(cur=[42]→first=true) then (spl false [] r).map (cur::·) else none) else spl first (cur++[c]) r
def nm (n:List UInt8):Option (List (List UInt8)):=
 if n=[46] then some [] else if 2≤n.length∧n.length≤254∧n[n.length - 1]? =some 46 then spl true [] n else none
def lbl (n:List UInt8):List (List UInt8):=(nm n).getD []
def vld (n:List UInt8):Bool:=(nm n).isSome
end Go.X.G
/- Names: what the reference's functions give, ctd. -/
namespace Go.X.G
open Go Go.X
theorem kj:∀(r:List UInt8) (f:Bool) (cur:List UInt8) (l:List (List UInt8)),spl f cur r=some l→l.length≤r.length
 |[],f,cur,l,h=>by simp [spl] at h;simp [←h]
 |c::r,f,cur,l,h=>by
  simp only [spl] at h;split at h
  ·split at h
   ·obtain ⟨m,hm,rfl⟩:=Ax.1 h;have:=kj r _ _ _ hm;simp;omega
   ·cases h
  ·have:=kj r _ _ _ h;simp;omega
theorem Iq0 {n:List UInt8} {l:List (List UInt8)} (h:nm n=some l):l.length≤254:=by
 unfold nm at h;split at h
 ·injection h with h;subst h;simp
 ·split at h
  ·rename_i h2;have:=kj _ _ _ _ h;omega
  ·cases h
theorem Lj (n:List UInt8):(lbl n).length≤254:=by
 unfold lbl;cases h:nm n with
 |none=>simp
 |some l=>exact Iq0 h
def nc {α:Type} [DecidableEq α]:List α→List α→Nat
 |x::xs,y::ys=>if x=y then nc xs ys+1 else 0
 |_,_=>0
def kw (a b:List (List UInt8)):Nat:=nc a.reverse b.reverse
def under (n top:List UInt8):Bool:=vld n && vld top && decide (kw (lbl n) (lbl top)=(lbl top).length)
def cmpS (a b:List UInt8):Int:=if Op.bytesLess a b then -1 else if a=b then 0 else 1
def Jf (a b:List UInt8):Int:=
 if vld a && vld b then
  let k:=kw (lbl a) (lbl b)
  if k<(lbl a).length∧k<(lbl b).length then cmpS ((lbl a).getD ((lbl a).length - 1 - k) []) ((lbl b).getD ((lbl b).length - 1 - k) [])
  else if (lbl a).length<(lbl b).length then -1 else if (lbl b).length<(lbl a).length then 1 else 0
 else if vld a then -1 else if vld b then 1 else cmpS a b
end Go.X.G
/- The library's functions on strings. -/
namespace Go.X.G
open Go Go.X
theorem Gs0 (x:List UInt8) (c:UInt8):S xv 2 [.s x, .i .u8 (c.toNat:Int)]=some [.i .i64 (x.count c:Int)]:=
 Hm2 (args:=[.s x, .i .u8 (c.toNat:Int)]) (by simp [XK.run,Ay3,Lib.countByte])
theorem Gl7 (x:List UInt8) (c:UInt8):S xz 2 [.s x, .i .u8 (c.toNat:Int)]=some [.i .i64 (Lib.indexByte x c)]:=
 Hm4 (args:=[.s x, .i .u8 (c.toNat:Int)]) (by simp [XK.run,Ay3])
theorem Gs1 (x y:List UInt8):S xq 2 [.s x, .s y]=some [.i .i64 (Lib.compareBytes x y)]:=
 Hl4 (args:=[.s x, .s y]) (by simp [XK.run,Ey4])
theorem O2 (x:List UInt8) (c:UInt8):S Vm 2 [.s x, .i .u8 (c.toNat:Int)]=some [.i .i64 (Lib.indexByte x c)]:=by refine Hn7 (N:=1) rfl ?_;simp (disch:=omega) only [Hb7,Gl7,xe,EVP,EV,simprocAttr]
theorem il (x:List UInt8) (c:UInt8):S ed 2 [.s x, .i .u8 (c.toNat:Int)]=some [.i .i64 (Lib.indexByte x c)]:=by refine Hs2 (N:=1) rfl ?_;simp (disch:=omega) only [Hc5,O2,xe,EVP,EV,simprocAttr]
theorem Mr (c:UInt8):∀(x:List UInt8),c∉x→Lib.indexByte x c= -1
 |[],_=>rfl
 |b::l,h=>by have h1:b≠c:=fun e=>h (by simp [e]);have h2:=Mr c l (fun e=>h (by simp [e]));simp [Lib.indexByte,h1,h2]
theorem Jd (c:UInt8) (post:List UInt8):∀(pre:List UInt8),c∉pre→Lib.indexByte (pre++c::post) c=(pre.length:Int)
 |[],_=>by simp [Lib.indexByte]
 |b::l,h=>by
  have h1:b≠c:=fun e=>h (by simp [e]);have h2:=Jd c post l (fun e=>h (by simp [e]));simp only [B9,Lib.indexByte,h2];simp [h1]
  try omega
theorem dot_split (c:UInt8):∀(s:List UInt8),c∉s∨∃pre post,s=pre++c::post∧c∉pre
 |[]=> .inl (by simp)
 |b::l=>by
  by_cases h:b=c
  ·exact .inr ⟨[],l,by simp [h],by simp⟩
  ·rcases dot_split c l with h1|⟨pre,post,rfl,h2⟩
   ·exact .inl (by simp [h1,Ne.symm h])
   ·exact .inr ⟨b::pre,post,by simp,by simp [h2,Ne.symm h]⟩
def pcs (cur:List UInt8):List UInt8→List (List UInt8)
 |[]=>[cur]
 |c::r=>if c=46 then cur::pcs [] r else pcs (cur++[c]) r
def cut (s:List UInt8):List (List UInt8):=pcs [] s
theorem Bg1 (post:List UInt8):∀(pre cur:List UInt8),(46:UInt8)∉pre→pcs cur (pre++46::post)=(cur++pre)::pcs [] post
 |[],cur,_=>by simp [pcs]
 |b::l,cur,h=>by have h1:b≠46:=fun e=>h (by simp [e]);have h2:=Bg1 post l (cur++[b]) (fun e=>h (by simp [e]));simp [pcs,h1,h2]
theorem Xg:∀(s cur:List UInt8),(46:UInt8)∉s→pcs cur s=[cur++s]
 |[],cur,_=>by simp [pcs]
 |b::l,cur,h=>by have h1:b≠46:=fun e=>h (by simp [e]);have h2:=Xg l (cur++[b]) (fun e=>h (by simp [e]));simp [pcs,h1,h2]
theorem Cv3 (s:List UInt8):(cut s).length=s.count 46+1:=by
 have:∀(s cur:List UInt8),(pcs cur s).length=s.count 46+1:=by
  intro s
  induction s with
  |nil=>intro cur;rfl
  |cons c r ih=>
   intro cur;by_cases h:c=46<;>simp [pcs,h,ih]
 exact this s []
theorem An2 (s:List UInt8) (hs:s.length≤9223372036854775807):S dc 2 [.s s, .s [46]]=some [.i .i64 (Lib.indexByte s 46)]:=by
 refine Hm1 (N:=1) rfl ?_;have h1:=O2 s 46;have e:(((46:UInt8).toNat:Nat):Int)=46:=rfl;rw [e] at h1;by_cases h:[46]=s
 ·subst h;simp (disch:=omega) only [Er8,xe,EVP,EV,simprocAttr];rfl
 ·simp (disch:=omega) only [Er8,h,h1,e,xe,EVP,EV,simprocAttr]
theorem ig (s:List UInt8) (hs:s.length≤9223372036854775807):S Vl 2 [.s s, .s [46]]=some [.i .i64 (Lib.indexByte s 46)]:=by refine Hn1 (N:=1) rfl ?_;simp (disch:=omega) only [Hb3,An2,xe,EVP,EV,simprocAttr]
theorem Dp6 (s:List UInt8):S dm 2 [.s s, .s [46]]=some [.i .i64 (s.count 46:Int)]:=by refine Hn2 (N:=1) rfl ?_;have h1:=Gs0 s 46;have e:(((46:UInt8).toNat:Nat):Int)=46:=rfl;rw [e] at h1;simp (disch:=omega) only [Hb4,h1,e,xe,EVP,EV,simprocAttr]
def Cj7 (done rest:List (List UInt8)):Out:=
 .yld 0 [.s ((done++rest).getLastD []),Bg ((done++rest).dropLast++[[]]), .i .i64 (((done++rest).length:Int) - 1)]
theorem mm (s:List UInt8) (N:Nat) (hN:s.length<N) (hs:s.length≤1000000) (p q:PV):
  l9.ev S N [.s s, .s [46], .i .i64 0,p, .i .i64 ((s.count 46:Int)+1)]=some (Cj7 [] (cut s)):=by
 have hc0:s.count 46≤s.length:=List.count_le_length;have key:=Jm (fn:=S) (N:=N) (η:=[.s s, .s [46], .i .i64 0,p, .i .i64 ((s.count 46:Int)+1)]) (id:=1) (init:=[(.v 0),(.rep 1 (.mn (.v 4) (.bin .add (.slen (.v 0)) (.c (.i .i64 (1))))) (.c (.s []))),(.c (.i .i64 (0)))]) (body:=pp) (α:=List (List UInt8)×List UInt8)
  (fun a=>[.s a.2,Bg (a.1++List.replicate (a.2.count 46+1) []), .i .i64 (a.1.length:Int)]) (fun a=>Cj7 a.1 (cut a.2)) (fun a=>a.1.length+a.2.count 46=s.count 46∧a.2.length≤s.length) (fun a=>a.2.length) ([],s) ?_ ⟨by simp,Af _⟩ hN ?_
 ·simpa [l9] using key
 ·have e:((s.count 46:Int)+1).toNat=s.count 46+1:=by omega
  simp (disch:=omega) only [e,xe,EVP,EV,simprocAttr]
 ·rintro ⟨done,rest⟩ ⟨h1,h2⟩;simp only at h1 h2 ⊢;rcases dot_split 46 rest with h|⟨pre,post,rfl,h⟩
  ·right;have c0:rest.count 46=0:=Ip3.2 h;have i0:=Mr 46 rest h;have cu:cut rest=[rest]:=by simpa [cut] using Xg rest [] h
   refine ⟨?_,rfl⟩;rw [c0];rw [c0] at h1;simp (disch:=omega) only [As9,ig,i0,xe,EVP,EV,simprocAttr];simp [Cj7,cu,List.getLastD_eq_getLast?]
  ·left;have c0:(pre++46::post).count 46=post.count 46+1:=by rw [List.count_append,Ip3.2 h];simp
   have i0:=Jd 46 post pre h;have cu:cut (pre++46::post)=pre::cut post:=by simpa [cut] using Bg1 post pre [] h
   have hl:(pre++46::post).length=pre.length+post.length+1:=by simp;omega
   have sl1:List.drop (0:Int).toNat (List.take ((pre.length:Int)+0).toNat (pre++46::post))=pre:=by simp
   have sl2:List.drop ((pre.length:Int)+1).toNat (List.take (pre++46::post).length (pre++46::post))=post:=by
    have:((pre.length:Int)+1).toNat=pre.length+1:=by omega
    rw [this,C7,List.drop_append];simp
   have sl3:(done++[]::[]::List.replicate (post.count 46) ([]:List UInt8)).length=done.length+post.count 46+2:=by simp;omega
   refine ⟨(done++[pre],post),?_,⟨by simp;omega,by simp only;omega⟩,by simp;omega,by simp [Cj7,cu]⟩;rw [c0];rw [c0] at h1;simp (disch:=omega) only [As9,ig,i0,sl1,sl2,xe,EVP,EV,simprocAttr];simp [List.replicate_succ,List.set_append]
theorem mf (s:List UInt8) (hs:s.length≤1000000):S d7 4 [.s s, .s [46], .i .i64 0, .i .i64 (-1)]=some [Bg (cut s)]:=by
 refine Hr1 (N:=s.length+1) rfl ?_;have h1:=Cv3 s;have h2:s.count 46≤s.length:=List.count_le_length;obtain ⟨l,x,hx⟩:∃l x,cut s=l++[x]:=⟨(cut s).dropLast,(cut s).getLast (by intro e;simp [e] at h1),(List.dropLast_concat_getLast _).symm⟩;have h3:l.length=s.count 46:=by rw [hx] at h1;simpa using h1
 have h4:((l.length:Int)+1 - 1)=(l.length:Int):=by omega
 have h5:((l++[([]:List UInt8)]).length:Int)=l.length+1:=by simp
 have h6:((l++[x]).length:Int)=l.length+1:=by simp
 have g1:(l++[([]:List UInt8)])[l.length]? =some []:=by simp
 have g2:(l++[x]).getLastD []=x:=by simp [List.getLastD_eq_getLast?]
 have g3:(l++[([]:List UInt8)]).set l.length x=l++[x]:=by simp
 have hk:=mm s (s.length+1) (by omega) hs (.i .i64 (-1)) .u;rw [hx] at hk ⊢;simp only [Cj7,Cv,List.dropLast_concat] at hk;simp (disch:=omega) only [As9,Dp6,hk,h4,h6,g1,g2,g3,xe,EVP,EV,simprocAttr];have g4:((l.length:Int)+1).toNat=(l++[x]).length:=by simp
 rw [g4,C7];rfl
theorem iz (s:List UInt8) (hs:s.length≤1000000):S Af4 2 [.s s, .s [46]]=some [Bg (cut s)]:=by refine Jk2 (N:=1) rfl ?_;simp (disch:=omega) only [Ip7,mf,xe,EVP,EV,simprocAttr]
theorem O3 (s t:List UInt8) (hs:s.length≤9223372036854775807):S Vt 2 [.s s, .s t]=some [.b (t.isSuffixOf s)]:=by
 refine Hr2 (N:=1) rfl ?_;by_cases h:t.length≤s.length
 ·have e:((s.length:Int) - (t.length:Int)).toNat=s.length - t.length:=by omega
  simp (disch:=omega) only [Es3,e,xe,EVP,EV,simprocAttr];simp only [C7];congr 4;rw [Cp,E6,decide_eq_true_eq];refine ⟨fun h=>h▸List.drop_suffix _ _,fun h=> ?_⟩;obtain ⟨p,rfl⟩:=h;simp
 ·have h2:t.isSuffixOf s=false:=by rw [Bool.eq_false_iff,ne_eq,E6];exact fun h'=>h h'.length_le
  simp (disch:=omega) only [Es3,h2,xe,EVP,EV,simprocAttr]
theorem Lm (s t:List UInt8) (hs:s.length≤9223372036854775807):S Af5 2 [.s s, .s t]=some [.b (t.isSuffixOf s)]:=by refine Jk3 (N:=1) rfl ?_;simp (disch:=omega) only [Ip8,O3,xe,EVP,EV,simprocAttr]
theorem qh (x y:List UInt8):S df 2 [.s x, .s y]=some [.i .i64 (Lib.compareBytes x y)]:=by refine Hm3 (N:=1) rfl ?_;simp (disch:=omega) only [Hb0,Gs1,xe,EVP,EV,simprocAttr]
theorem qd (x y:List UInt8):S Qw 2 [.s x, .s y]=some [.i .i64 (Lib.compareBytes x y)]:=by refine Hn4 (N:=1) rfl ?_;simp (disch:=omega) only [Hb5,qh,xe,EVP,EV,simprocAttr]
end Go.X.G
/- Names and their labels. -/
namespace Go.X.G
open Go Go.X
def flat (l:List (List UInt8)):List UInt8:=l.flatMap fun x=>x++[46]
def jn (l:List (List UInt8)):List UInt8:=if l=[] then [46] else flat l
def Fp (first:Bool):List (List UInt8)→Bool
 |[]=>true
 |p::r=>Mf p && (!decide (p=[42])||first) && Fp false r
theorem Gl0:Uf 46=false:=by decide
theorem Lv {p:List UInt8} (h:Mf p=true):(46:UInt8)∉p:=by
 unfold Mf at h;simp at h;rcases h with rfl|⟨_,h⟩
 ·decide
 ·intro h2;have:=h 46 h2;rw [Gl0] at this;cases this
theorem yx {p:List UInt8} (h:Mf p=true):p≠[]:=by rintro rfl;simp [Mf] at h
theorem Hh {p:List UInt8}:∀{f:Bool} {l:List (List UInt8)},Fp f l=true→p∈l→Mf p=true
 |f,q::r,h,hp=>by
  simp only [Fp,Aw] at h;rcases Am.1 hp with rfl|hp
  ·exact h.1.1
  ·exact Hh h.2 hp
theorem Ag9:∀{l:List (List UInt8)},Fp false l=true→Fp true l=true
 |[],_=>rfl
 |p::r,h=>by simp only [Fp,Aw] at h ⊢;exact ⟨⟨h.1.1,by simp⟩,h.2⟩
theorem Oz:∀{f:Bool} {a b:List (List UInt8)},Fp f (a++b)=(Fp f a && Fp (f && a.isEmpty) b)
 |f,[],b=>by simp [Fp]
 |f,p::r,b=>by simp only [B9,Fp,Oz (a:=r)];simp [Bool.and_assoc]
theorem Ah0 {f:Bool} {l:List (List UInt8)} (h:Fp f l=true) (k:Nat):Fp f (l.drop k)=true:=by
 rw [←Bp k l,Oz,Aw] at h;have h2:=h.2;cases f with
 |false=>simpa using h2
 |true=>
  cases he:(l.take k).isEmpty with
  |true=>rw [he] at h2;exact h2
  |false=>rw [he] at h2;exact Ag9 h2
theorem R9:∀(m:List UInt8) (f:Bool) (cur:List UInt8),spl f cur (m++[46])=if Fp f (pcs cur m)=true then some (pcs cur m) else none
 |[],f,cur=>by simp only [Cv,spl,if_true,pcs,Fp,A3,O8];by_cases h:Mf cur=true<;>by_cases h2:cur=[42]<;>cases f<;>simp [h,h2]
 |c::r,f,cur=>by
  simp only [B9,spl,pcs];by_cases hc:c=46
  ·simp only [if_pos hc];rw [R9 r false []];simp only [Fp];by_cases h:Mf cur=true<;>by_cases h2:cur=[42]<;>cases f<;>by_cases h3:Fp false (pcs [] r)=true<;>simp [h,h2,h3]
  ·simp only [if_neg hc];exact R9 r f (cur++[c])
theorem Sm (b:List UInt8):∀(a cur:List UInt8),pcs cur (a++46::b)=pcs cur a++cut b
 |[],cur=>by simp [pcs,cut]
 |c::r,cur=>by
  simp only [B9,pcs];split
  ·rw [Sm b r []];rfl
  ·exact Sm b r _
theorem Rx:∀(m cur:List UInt8),flat (pcs cur m)=cur++m++[46]
 |[],cur=>by simp [pcs,flat]
 |c::r,cur=>by
  simp only [pcs];split
  ·rename_i h;have:=Rx r [];simp only [flat,G1] at this ⊢;rw [this,h];simp
  ·rw [Rx r (cur++[c])];simp
theorem Mw (a b:List (List UInt8)):flat (a++b)=flat a++flat b:=by simp [flat]
theorem Ij6 (cur m:List UInt8):pcs cur m≠[]:=by
 cases m with
 |nil=>simp [pcs]
 |cons c r=>
  simp only [pcs];split
  ·simp
  ·intro h;have:=Rx r (cur++[c]);rw [h] at this;simp [flat] at this
theorem Rb:∀(l:List (List UInt8)),(∀p∈l,(46:UInt8)∉p)→cut (flat l)=l++[[]]
 |[],_=>rfl
 |p::l,h=>by
  have h1:flat (p::l)=p++46::flat l:=by simp [flat]
  rw [h1];show pcs [] _=_;rw [Sm,Xg p [] (h p (by simp)),Rb l (fun q hq=>h q (by simp [hq]))];simp
theorem Jp:∀(l:List (List UInt8)),l≠[]→∃m,flat l=m++[46]
 |[p],_=>⟨p,by simp [flat]⟩
 |p::q::r,_=>by obtain ⟨m,hm⟩:=Jp (q::r) (by simp);exact ⟨p++[46]++m,by simp only [flat,G1] at hm ⊢;rw [hm];simp⟩
theorem yl {l:List (List UInt8)} (hl:l≠[]) (h:∀p∈l,(46:UInt8)∉p) {m:List UInt8} (hm:flat l=m++[46]):cut m=l:=by
 have h1:=Rb l h;rw [hm] at h1;have h2:cut (m++[46])=cut m++[[]]:=by show pcs [] (m++46::[])=_;rw [Sm];rfl
 rw [h2] at h1;exact O7 h1
theorem Hm {l:List (List UInt8)} (h:Fp true l=true) (hl:l≠[]):2≤(flat l).length:=by
 cases l with
 |nil=>exact absurd rfl hl
 |cons p r=>
  have h1:=yx (Hh h (Gy ..));have:0<p.length:=Bw.2 h1;simp [flat];omega
theorem Gg0 {l:List (List UInt8)} (h:Fp true l=true) (hl:l≠[]) (hlen:(flat l).length≤254):nm (flat l)=some l:=by obtain ⟨m,hm⟩:=Jp l hl;have h1:=yl hl (fun p hp=>Lv (Hh h hp)) hm;have h2:=Hm h hl;unfold nm;rw [if_neg (by intro e;rw [e] at h2;simp at h2),if_pos ⟨h2,hlen,by rw [hm];simp⟩,hm,R9];have:pcs [] m=l:=h1;rw [this,if_pos h]
theorem Gf9 {n:List UInt8} {l:List (List UInt8)} (h:nm n=some l):(n=[46]∧l=[])∨(l≠[]∧Fp true l=true∧n=flat l∧n.length≤254):=by
 unfold nm at h;split at h
 ·rename_i e;injection h with h;exact .inl ⟨e,h.symm⟩
 ·split at h
  ·rename_i h1;right;obtain ⟨h2,h3,h4⟩:=h1;obtain ⟨m,hm⟩:∃m,n=m++[46]:=by
    refine ⟨n.dropLast,?_⟩;have:n≠[]:=by intro e;simp [e] at h2
    have h5:=List.dropLast_concat_getLast this;rw [←h5];congr 1
    ·simp
    ·have h6:n[n.length - 1]? =some (n.getLast this):=by rw [I2];exact Ab _
     rw [h6] at h4;injection h4 with h4;simp [h4]
   rw [hm,R9] at h;split at h
   ·rename_i h5;injection h with h;subst h;refine ⟨Ij6 _ _,h5,?_,by omega⟩;rw [Rx,hm];simp
   ·cases h
  ·cases h
theorem Gy9 {n:List UInt8}:vld n=true↔nm n=some (lbl n):=by unfold vld lbl;cases nm n<;>simp
theorem vld_cases {n:List UInt8} (h:vld n=true):(n=[46]∧lbl n=[])∨(lbl n≠[]∧Fp true (lbl n)=true∧n=flat (lbl n)∧n.length≤254):=Gf9 (Gy9.1 h)
theorem Q8 {n:List UInt8} (h:vld n=true):Fp true (lbl n)=true:=by
 rcases vld_cases h with ⟨_,h⟩|⟨_,h,_⟩
 ·rw [h];rfl
 ·exact h
theorem Mg {n:List UInt8} (h:vld n=true):n=jn (lbl n):=by
 unfold jn;rcases vld_cases h with ⟨h1,h2⟩|⟨h1,_,h2,_⟩
 ·rw [h2,if_pos rfl];exact h1
 ·rw [if_neg h1];exact h2
theorem Jy {n:List UInt8} (h:vld n=true):n.length≤254:=by
 rcases vld_cases h with ⟨h1,_⟩|⟨_,_,_,h⟩
 ·simp [h1]
 ·exact h
theorem Ik:lbl [46]=[]:=rfl
theorem gv {l:List (List UInt8)} (h:Fp true l=true) (hl:l≠[]):flat l≠[46]:=by intro e;have:=Hm h hl;rw [e] at this;simp at this
theorem X6 {n:List UInt8} (h:vld n=true):lbl n=[]↔n=[46]:=by
 rcases vld_cases h with ⟨h1,h2⟩|⟨h1,h2,h3,_⟩
 ·simp [h1,Ik]
 ·constructor
  ·intro e;exact absurd e h1
  ·intro e;rw [h3] at e;exact absurd e (gv h2 h1)
theorem Hf3 {l:List (List UInt8)} (h:Fp true l=true) (hlen:(flat l).length≤254):vld (jn l)=true∧lbl (jn l)=l:=by
 unfold jn;by_cases hl:l=[]
 ·subst hl;exact ⟨rfl,rfl⟩
 ·rw [if_neg hl];have:=Gg0 h hl hlen;exact ⟨by simp [vld,this],by simp [lbl,this]⟩
theorem Lk {a b:List UInt8} (ha:vld a=true) (hb:vld b=true) (h:lbl a=lbl b):a=b:=by rw [Mg ha,Mg hb,h]
theorem Yx (l:List (List UInt8)) (k:Nat):(flat (l.drop k)).length≤(flat l).length:=by
 have:flat l=flat (l.take k)++flat (l.drop k):=by rw [←Mw,Bp]
 rw [this,Ay];omega
theorem Ls {n:List UInt8} (h:vld n=true) (k:Nat):vld (jn ((lbl n).drop k))=true∧lbl (jn ((lbl n).drop k))=(lbl n).drop k:=by
 refine Hf3 (Ah0 (Q8 h) k) ?_;rcases vld_cases h with ⟨_,h1⟩|⟨_,_,h1,h2⟩
 ·rw [h1];simp [flat]
 ·have:=Yx (lbl n) k;rw [←h1] at this;omega
theorem Nm {n:List UInt8} (h:vld n=true):0<n.length:=by
 rcases vld_cases h with ⟨h1,_⟩|⟨h1,h2,h3,_⟩
 ·simp [h1]
 ·have:=Hm h2 h1;rw [h3];omega
end Go.X.G
/- Names: what the program's functions give. -/
namespace Go.X.G
open Go Go.X
def ord (s:List UInt8):Bool:=decide (1≤s.length) && decide (s.length≤63) && s.all Uf
theorem Cj1 (s:List UInt8):Mf s=(decide (s=[42])||ord s):=rfl
theorem Ec1:ord [42]=false:=by decide
theorem lq (s:List UInt8) (N:Nat) (hN:s.length<N) (hs:s.length≤9223372036854775807):
  Fk3.ev S N [.s s]=some (if s.all Uf=true then .yld 0 [] else .ret [.b false]):=by
 refine Fc s (fun i=>[.i .i64 (i:Int)]) (fun i r=>if r.all Uf=true then .yld 0 [] else .ret [.b false]) rfl hN (fun i c r hd hi hc=> ?_) ?_
 ·have key:Dl4.ev S N ([.s s]++[.i .i64 (i:Int)])=some (if Uf c=true then .yld 1 [.i .i64 ((i:Int)+1)] else .ret [.b false]):=by
   simp (disch:=omega) only [Ar4,hc,xe,EVP,EV,simprocAttr];unfold Uf
   grind
  rw [key];rcases Aq (Uf c) with h|h<;>simp [h,Out.goes]
 ·simp (disch:=omega) [Ar4,xe,EVP,EV,simprocAttr,Out.goes]
theorem J6 (s:List UInt8) (hs:s.length≤9223372036854775807):S Bg9 1 [.s s]=some [.b (ord s)]:=by
 refine Jk1 (N:=s.length+1) rfl ?_;unfold ord;by_cases h1:s=[]
 ·subst h1;simp (disch:=omega) [Ar4,xe,EVP,EV,simprocAttr]
 ·have h2:1≤s.length:=Bw.2 h1;by_cases h3:s.length≤63
  ·simp (disch:=omega) only [Ar4,lq,h1,xe,EVP,EV,simprocAttr];cases s.all Uf<;>simp [h2,h3]
  ·simp (disch:=omega) only [Ar4,h1,xe,EVP,EV,simprocAttr];simp [h3]
def okP (i:Nat) (p:List UInt8):Bool:=ord p||(decide (i=0) && decide (p=[42]))
def Ed0:Nat→List (List UInt8)→Bool
 |_,[]=>true
 |i,p::r=>okP i p && Ed0 (i+1) r
theorem c6:∀(l:List (List UInt8)) (i:Nat),Ed0 i l=Fp (decide (i=0)) l
 |[],_=>rfl
 |p::r,i=>by
  have h1:=c6 r (i+1);simp only [Ed0,Fp,h1,okP,Cj1];by_cases h2:p=[42]
  ·subst h2;by_cases h3:i=0<;>simp [Ec1,h3]
  ·simp [h2]
theorem Dn9 (p q:PV) (l:List (List UInt8)) (hl:l.length≤1000000) (hw:∀x∈l,x.length≤9223372036854775807) (N:Nat) (hN:l.length<N):
  Fq1.ev S N [p,q,Bg l]=some (if Ed0 0 l=true then .yld 0 [] else .ret [.b false]):=by
 refine Fc l (fun i=>[.i .i64 (i:Int)]) (fun i r=>if Ed0 i r=true then .yld 0 [] else .ret [.b false]) rfl hN (fun i c r hd hi hc=> ?_) ?_
 ·have hcw:=hw c (Bv hc);have key:Dl6.ev S N ([p,q,Bg l]++[.i .i64 (i:Int)])=some (if okP i c=true then .yld 1 [.i .i64 ((i:Int)+1)] else .ret [.b false]):=by
   rcases Aq (ord c) with h1|h1
   ·simp (disch:=omega) only [W1,J6,hc,h1,xe,EVP,EV,simprocAttr];simp [okP,h1]
   ·by_cases h2:i=0
    ·subst h2;by_cases h3:c=[42]
     ·subst h3;simp (disch:=omega) only [W1,J6,hc,h1,xe,EVP,EV,simprocAttr];simp [okP]
     ·simp (disch:=omega) only [W1,J6,hc,h1,h3,xe,EVP,EV,simprocAttr];simp [okP,h1,h3]
    ·simp (disch:=omega) only [W1,J6,hc,h1,xe,EVP,EV,simprocAttr];simp [okP,h1,h2]
  rw [key];rcases Aq (okP i c) with h|h<;>simp [h,Ed0,Out.goes]
 ·simp (disch:=omega) only [W1,xe,EVP,EV,simprocAttr];simp [Out.goes,Ed0]
theorem Xh:∀(m cur:List UInt8) (x:List UInt8),x∈pcs cur m→x.length≤cur.length+m.length
 |[],cur,x,h=>by simp [pcs] at h;subst h;simp
 |c::r,cur,x,h=>by
  simp only [pcs] at h;split at h
  ·rcases Am.1 h with rfl|h
   ·omega
   ·have:=Xh r [] x h;simp at this ⊢;omega
  ·have:=Xh r _ x h;simp at this ⊢;omega
theorem Em7 (m x:List UInt8) (h:x∈cut m):x.length≤m.length:=by simpa using Xh m [] x h
theorem Ih7 (m:List UInt8):(cut m).length≤m.length+1:=by have:=Cv3 m;have:m.count 46≤m.length:=List.count_le_length;omega
theorem Bj5 (n:List UInt8):([46]:List UInt8).isSuffixOf n=true↔∃m,n=m++[46]:=by rw [E6];exact ⟨fun ⟨m,h⟩=>⟨m,h.symm⟩,fun ⟨m,h⟩=>⟨m,h.symm⟩⟩
theorem Dt1 (m:List UInt8) (hm:m≠[]) (hl:m.length≤253):vld (m++[46])=Ed0 0 (cut m):=by have h1:m++[46]≠[46]:=fun e=>hm (O7 (bs:=[46]) (by simpa using e));have h2:0<m.length:=Bw.2 hm;unfold vld nm;rw [if_neg h1,if_pos ⟨by simp;omega,by simp;omega,by simp⟩,R9,c6];have e:pcs [] m=cut m:=rfl;have e2:Fp (decide ((0:Nat)=0)) (cut m)=Fp true (cut m):=rfl;rw [e,e2];cases Fp true (cut m)<;>rfl
theorem Eg1 (m:List UInt8) (h:vld (m++[46])=true) (hm:m≠[]):lbl (m++[46])=cut m:=by
 rcases vld_cases h with ⟨h1,_⟩|⟨h1,h2,h3,_⟩
 ·exact absurd (O7 (bs:=[46]) (by simpa using h1)) hm
 ·exact (yl h1 (fun p hp=>Lv (Hh h2 hp)) h3.symm).symm
theorem B4 (n:List UInt8) (hn:n.length≤9223372036854775807):S J8 1 [.s n]=some [.b (vld n)]:=by
 refine Jv3 (N:=300) rfl ?_;by_cases h0:n=[46]
 ·subst h0;simp (disch:=omega) only [W1,xe,EVP,EV,simprocAttr];rfl
 ·by_cases h1:255≤n.length
  ·have hv:vld n=false:=by rw [Bool.eq_false_iff];intro h;have:=Jy h;omega
   simp (disch:=omega) only [W1,h0,hv,xe,EVP,EV,simprocAttr]
  ·rcases Aq (([46]:List UInt8).isSuffixOf n) with h2|h2
   ·obtain ⟨m,rfl⟩:=(Bj5 n).1 h2;have hm:m≠[]:=fun e=>h0 (by simp [e]);have hl:(m++[46]).length=m.length+1:=by simp
    have hml:m.length≤1000000:=by omega
    have e:List.drop 0 (List.take (((m++[46]).length:Int) - 1).toNat (m++[46]))=m:=by
     have:(((m++[46]).length:Int) - 1).toNat=m.length:=by omega
     rw [this];simp
    have hc:=Ih7 m;have hv:=Dt1 m hm (by omega);have hk:=Dn9 (.s (m++[46])) (.b true) (cut m) (by omega) (fun x hx=>by have:=Em7 m x hx;omega) 300 (by omega);simp (disch:=omega) only [W1,Lm,iz,e,hk,h0,h2,xe,EVP,EV,simprocAttr];rw [hv];cases Ed0 0 (cut m)<;>simp
   ·have hv:vld n=false:=by
     rw [Bool.eq_false_iff];intro h;rcases vld_cases h with ⟨h3,_⟩|⟨h3,_,h5,_⟩
     ·exact h0 h3
     ·obtain ⟨m,hm⟩:=Jp _ h3;have:=(Bj5 n).2 ⟨m,h5.trans hm⟩;rw [h2] at this;cases this
    simp (disch:=omega) only [W1,Lm,h0,h2,hv,xe,EVP,EV,simprocAttr]
theorem P5 (n:List UInt8) (hn:n.length≤9223372036854775807):S Ss 1 [.s n]=some [Bg (lbl n)]:=by
 refine Hn3 (N:=1) rfl ?_;by_cases h0:n=[46]
 ·subst h0;simp (disch:=omega) only [As5,Ik,xe,EVP,EV,simprocAttr]
 ·rcases Aq (vld n) with h1|h1
  ·obtain ⟨m,hm,rfl⟩:∃m,m≠[]∧n=m++[46]:=by
    rcases vld_cases h1 with ⟨h3,_⟩|⟨h3,_,h5,_⟩
    ·exact absurd h3 h0
    ·obtain ⟨m,hm⟩:=Jp _ h3;exact ⟨m,fun e=>h0 (by rw [h5,hm,e];rfl),h5.trans hm⟩
   have hl:(m++[46]).length=m.length+1:=by simp
   have e:List.drop 0 (List.take (((m++[46]).length:Int) - 1).toNat (m++[46]))=m:=by
    have:(((m++[46]).length:Int) - 1).toNat=m.length:=by omega
    rw [this];simp
   have hl2:=Jy h1;have e2:=Eg1 m h1 hm;simp (disch:=omega) only [As5,B4,iz,e,e2,h0,h1,xe,EVP,EV,simprocAttr]
  ·have e:lbl n=[]:=by
    unfold lbl;unfold vld at h1;cases h:nm n with
    |none=>rfl
    |some l=>rw [h] at h1;cases h1
   simp (disch:=omega) only [As5,B4,h0,h1,e,xe,EVP,EV,simprocAttr]
theorem Od (p:List UInt8) (l:List (List UInt8)):flat (p::l)=p++46::flat l:=by simp [flat]
def Xn (n:List UInt8):List UInt8:=if vld n=true∧n≠[46] then jn ((lbl n).drop 1) else []
def yy (n:List UInt8):Bool:=vld n && !decide (n=[46])
theorem P4 (n:List UInt8) (hn:n.length≤9223372036854775807):S lh 1 [.s n]=some [.s (Xn n), .b (yy n)]:=by
 refine Jq1 (N:=1) rfl ?_;unfold Xn yy;by_cases h0:n=[46]
 ·subst h0;simp (disch:=omega) only [Ds7,xe,EVP,EV,simprocAttr];simp
 ·rcases Aq (vld n) with h1|h1
  ·rcases vld_cases h1 with ⟨h3,_⟩|⟨h3,h4,h5,h6⟩
   ·exact absurd h3 h0
   ·cases hl:lbl n with
    |nil=>exact absurd hl h3
    |cons p r=>
     rw [hl] at h4 h5;have hp:=Lv (Hh h4 (Gy ..));have hi:=il n 46;have hc:(((46:UInt8).toNat:Nat):Int)=46:=rfl;have hx:Lib.indexByte n 46=(p.length:Int):=by rw [h5,Od];exact Jd 46 _ p hp
     rw [hc,hx] at hi;have hlen:n.length=p.length+1+(flat r).length:=by rw [h5,Od];simp;omega
     have e:List.drop ((p.length:Int)+1).toNat (List.take n.length n)=flat r:=by
      have:((p.length:Int)+1).toNat=p.length+1:=by omega
      rw [this,C7,h5,Od];simp
     by_cases h7:r=[]
     ·subst h7;have e2:flat []=[]:=rfl;simp (disch:=omega) only [Ds7,B4,hi,e,e2,h0,h1,xe,EVP,EV,simprocAttr];simp [jn]
     ·have e2:¬flat r=[]:=by obtain ⟨m,hm⟩:=Jp r h7;rw [hm];simp
      simp (disch:=omega) only [Ds7,B4,hi,e,e2,h0,h1,xe,EVP,EV,simprocAttr];simp [jn,h7]
  ·simp (disch:=omega) only [Ds7,B4,h0,h1,xe,EVP,EV,simprocAttr];simp
def Ck9 (n top:List UInt8):Bool:=(decide (top=[46])||decide (n=top))||(46::top).isSuffixOf n
theorem Ck8 (n top:List UInt8) (hn:n.length≤9223372036854775807) (ht:top.length≤1000000):S Af8 2 [.s n, .s top]=some [.b (Ck9 n top)]:=by
 refine Jq3 (N:=1) rfl ?_;unfold Ck9;have h0:([46]:List UInt8).length=1:=rfl;by_cases h1:top=[46]<;>by_cases h2:n=top<;>simp (disch:=omega) only [Ip9,Lm,h1,h2,xe,EVP,EV,simprocAttr]
 all_goals simp
theorem mt {a b:List (List UInt8)} (ha:Fp true a=true) (hb:Fp true b=true) (h:(46::flat b)<:+flat a):b<:+a:=by obtain ⟨p,hp⟩:=h;have h1:=Rb a (fun x hx=>Lv (Hh ha hx));have h2:=Rb b (fun x hx=>Lv (Hh hb hx));rw [←hp] at h1;have h3:cut (p++46::flat b)=cut p++cut (flat b):=Sm (flat b) p [];rw [h3,h2,←A0] at h1;exact ⟨cut p,O7 h1⟩
theorem El8 {n top:List UInt8} (hn:vld n=true) (ht:vld top=true):Ck9 n top=true↔lbl top<:+lbl n:=by
 unfold Ck9;simp only [An,decide_eq_true_eq,E6];constructor
 ·rintro ((rfl|rfl)|h)
  ·rw [Ik];exact List.nil_suffix
  ·exact List.suffix_refl _
  ·rcases vld_cases ht with ⟨h1,h2⟩|⟨h1,h2,h3,_⟩
   ·rw [h2];exact List.nil_suffix
   ·rcases vld_cases hn with ⟨h5,_⟩|⟨h5,h6,h7,_⟩
    ·rw [h5] at h;have h9:=h.length_le;have h8:=Hm h2 h1;rw [←h3] at h8;simp only [As,A9] at h9;omega
    ·rw [h3,h7] at h;exact mt h6 h2 h
 ·intro h;obtain ⟨p,hp⟩:=h;rcases vld_cases ht with ⟨h1,h2⟩|⟨h1,h2,h3,_⟩
  ·exact .inl (.inl h1)
  ·by_cases hp0:p=[]
   ·left;right;subst hp0;exact Lk hn ht hp.symm
   ·right;rcases vld_cases hn with ⟨_,h5⟩|⟨h5,h6,h7,_⟩
    ·rw [h5] at hp;exact absurd (List.append_eq_nil_iff.1 hp).1 hp0
    ·obtain ⟨m,hm⟩:=Jp p hp0;rw [h7,←hp,Mw,hm];exact ⟨m,by rw [A0,←h3];simp⟩
theorem Tr {α:Type} [DecidableEq α]:∀(a b:List α),nc a b=b.length↔b<+:a
 |[],[]=>by simp [nc]
 |[],y::ys=>by simp [nc]
 |x::xs,[]=>by simp [nc]
 |x::xs,y::ys=>by
  have:=Tr xs ys;simp only [nc];split
  ·rename_i h;subst h;simp [this,Lp]
  ·rename_i h;simp [Lp,Ne.symm h]
theorem bf (a b:List (List UInt8)):kw a b=b.length↔b<:+a:=by unfold kw;have:=Tr a.reverse b.reverse;rw [List.length_reverse] at this;rw [this,List.reverse_prefix]
theorem Bt {n top:List UInt8}:under n top=true↔vld n=true∧vld top=true∧lbl top<:+lbl n:=by unfold under;simp [bf,and_assoc]
theorem U3 {n top:List UInt8} (hn:vld n=true) (ht:vld top=true):Ck9 n top=under n top:=by rw [Cp,El8 hn ht,Bt];simp [hn,ht]
theorem F7 (n top:List UInt8) (hn:n.length≤9223372036854775807) (ht:top.length≤9223372036854775807):S M6 2 [.s n, .s top]=some [.b (under n top)]:=by
 refine Jw6 (N:=1) rfl ?_;rcases Aq (vld n) with h1|h1
 ·rcases Aq (vld top) with h2|h2
  ·have h3:=Jy h2;simp (disch:=omega) only [Gy4,B4,Ck8,h1,h2,xe,EVP,EV,simprocAttr];rw [U3 h1 h2]
  ·have h3:under n top=false:=by simp [under,h2]
   simp (disch:=omega) only [Gy4,B4,h1,h2,h3,xe,EVP,EV,simprocAttr]
 ·have h3:under n top=false:=by simp [under,h1]
  simp (disch:=omega) only [Gy4,B4,h1,h3,xe,EVP,EV,simprocAttr]
end Go.X.G
/- Names: order, common ancestors, wildcards. -/
namespace Go.X.G
open Go Go.X
theorem Qg:∀(a:List UInt8),Op.bytesLess a a=false
 |[]=>rfl
 |a::x=>by simp [Op.bytesLess,Qg x]
theorem Ld:∀(a b:List UInt8),Lib.compareBytes a b=cmpS a b
 |[],[]=>rfl
 |[],_::_=>rfl
 |_::_,[]=>rfl
 |a::x,b::y=>by
  have ih:=Ld x y;unfold cmpS at ih ⊢;simp only [Lib.compareBytes,Op.bytesLess,ih];by_cases h1:a<b
  ·simp [h1]
  ·by_cases h2:b<a
   ·have h3:a≠b:=fun e=>by subst e;exact h1 h2
    simp [h1,h2,h3]
   ·have h3:a=b:=UInt8.le_antisymm (UInt8.not_lt.1 h2) (UInt8.not_lt.1 h1);subst h3;simp [h1]
theorem Im {a b:List UInt8}:cmpS a b=0↔a=b:=by
 unfold cmpS;by_cases h:a=b
 ·subst h;simp [Qg]
 ·cases h2:Op.bytesLess a b<;>simp [h]
theorem Ky (x y:List UInt8):S Qw 2 [.s x, .s y]=some [.i .i64 (cmpS x y)]:=by rw [qd,Ld]
def Uk:List (List UInt8)→List (List UInt8)→Option Int
 |x::xs,y::ys=>if x=y then Uk xs ys else some (cmpS x y)
 |_,_=>none
theorem Cv6:∀(a b:List (List UInt8)),Uk a b=if nc a b<a.length∧nc a b<b.length then some (cmpS (a.getD (nc a b) []) (b.getD (nc a b) [])) else none
 |[],b=>by simp [Uk,nc]
 |x::xs,[]=>by simp [Uk,nc]
 |x::xs,y::ys=>by
  have ih:=Cv6 xs ys;simp only [Uk,nc];by_cases h:x=y
  ·simp only [if_pos h,ih];simp
  ·simp [h]
def Al8 (a b:List (List UInt8)):Int:=match Uk a.reverse b.reverse with
 |some c=>c
 |none=>if a.length<b.length then -1 else if b.length<a.length then 1 else 0
theorem yb (a:List (List UInt8)) (k:Nat) (h:k<a.length):a.reverse.getD k []=a.getD (a.length - 1 - k) []:=by simp [Bm,List.getElem?_reverse h]
theorem Y1 {a b:List UInt8} (ha:vld a=true) (hb:vld b=true):Jf a b=Al8 (lbl a) (lbl b):=by
 unfold Jf Al8;rw [Cv6];have e:nc (lbl a).reverse (lbl b).reverse=kw (lbl a) (lbl b):=rfl;rw [e,ha,hb];simp only [List.length_reverse,Bool.and_self,if_true];by_cases h:kw (lbl a) (lbl b)<(lbl a).length∧kw (lbl a) (lbl b)<(lbl b).length
 ·rw [if_pos h,if_pos h,yb _ _ h.1,yb _ _ h.2]
 ·rw [if_neg h,if_neg h]
theorem qg (a b:List (List UInt8)) (p1 p2 p3 p4:PV) (ha:a.length≤1000) (hb:b.length≤1000) (N:Nat) (hN:1001<N):
  mj.ev S N [p1,p2,p3,p4,Bg a,Bg b]=some (match Uk a.reverse b.reverse with|some c=> .ret [.i .i64 c]|none=> .yld 0 []):=by
 have key:=Jm (fn:=S) (N:=N) (η:=[p1,p2,p3,p4,Bg a,Bg b]) (id:=1) (init:=[(.c (.i .i64 (1)))]) (body:=qk) (α:=Nat) (fun k=>[.i .i64 ((k:Int)+1)])
  (fun k=>match Uk (a.reverse.drop k) (b.reverse.drop k) with|some c=> .ret [.i .i64 c]|none=> .yld 0 []) (fun k=>k≤a.length∧k≤b.length) (fun k=>a.length - k) 0 rfl ⟨Cl _,Cl _⟩ (by omega) ?_
 ·simpa [mj] using key
 ·rintro k ⟨h1,h2⟩;by_cases h3:k<a.length
  ·by_cases h4:k<b.length
   ·have e1:((a.length:Int) - ((k:Int)+1)).toNat=a.length - 1 - k:=by omega
    have e2:((b.length:Int) - ((k:Int)+1)).toNat=b.length - 1 - k:=by omega
    have g1:a[a.length - 1 - k]? =some (a[a.length - 1 - k]'(by omega)):=Ab (by omega);have g2:b[b.length - 1 - k]? =some (b[b.length - 1 - k]'(by omega)):=Ab (by omega);have d1:a.reverse.drop k=(a[a.length - 1 - k]'(by omega))::a.reverse.drop (k+1):=by rw [Cz (by simpa using h3)];simp
    have d2:b.reverse.drop k=(b[b.length - 1 - k]'(by omega))::b.reverse.drop (k+1):=by rw [Cz (by simpa using h4)];simp
    rw [d1,d2];generalize (a[a.length - 1 - k]'(by omega))=x at g1;generalize (b[b.length - 1 - k]'(by omega))=y at g2;simp only [Uk];by_cases h:x=y
    ·left;have h5:cmpS x y=0:=Im.2 h;refine ⟨k+1,?_,⟨by omega,by omega⟩,by omega,by rw [if_pos h]⟩;simp (disch:=omega) only [Rs,Ky,e1,e2,g1,g2,h5,xe,EVP,EV,simprocAttr]
    ·right;have h5:¬cmpS x y=0:=fun e=>h (Im.1 e);rw [if_neg h];simp (disch:=omega) only [Rs,Ky,e1,e2,g1,g2,h5,xe,EVP,EV,simprocAttr];simp [Out.goes]
   ·right;have d2:b.reverse.drop k=[]:=J1 (by simp;omega);have z:Uk (a.reverse.drop k) []=none:=by cases a.reverse.drop k<;>rfl
    rw [d2,z];simp (disch:=omega) [Rs,xe,EVP,EV,simprocAttr,Out.goes]
  ·right;have d1:a.reverse.drop k=[]:=J1 (by simp;omega);have z:Uk [] (b.reverse.drop k)=none:=rfl;rw [d1,z];simp (disch:=omega) [Rs,xe,EVP,EV,simprocAttr,Out.goes]
theorem T6 (a b:List UInt8) (hn:a.length≤9223372036854775807) (ht:b.length≤9223372036854775807):S Jl 2 [.s a, .s b]=some [.i .i64 (Jf a b)]:=by
 refine Hr6 (N:=1002) rfl ?_;have h1:=Lj a;have h2:=Lj b;rcases Aq (vld a) with h3|h3<;>rcases Aq (vld b) with h4|h4
 ·rw [Y1 h3 h4];unfold Al8;have hk:=qg (lbl a) (lbl b) (.s a) (.s b) (.b true) (.b true) (by omega) (by omega) 1002 (by omega);cases h5:Uk (lbl a).reverse (lbl b).reverse with
  |some c=>
   rw [h5] at hk;simp (disch:=omega) only [Rs,B4,P5,hk,h3,h4,xe,EVP,EV,simprocAttr]
  |none=>
   rw [h5] at hk;simp (disch:=omega) only [Rs,B4,P5,hk,h3,h4,xe,EVP,EV,simprocAttr]
   grind
 all_goals unfold Jf
 all_goals simp (disch:=omega) only [Rs,B4,Ky,h3,h4,xe,EVP,EV,simprocAttr]
 all_goals simp
theorem yq {n:List UInt8} (h:vld n=true) (k:Nat):(jn ((lbl n).drop k)).length≤254:=Jy (Ls h k).1
def Uw (n:List UInt8):List UInt8:=if n=[46] then [42,46] else [42,46]++n
def N0 (n:List UInt8):Bool:=vld n && !decide ((lbl n)[0]? =some [42]) && vld (Uw n)
def starN (n:List UInt8):List UInt8:=if N0 n=true then Uw n else []
theorem Pf {n:List UInt8} (h:vld n=true):(n[0]? =some 42↔(lbl n)[0]? =some [42]):=by
 rcases vld_cases h with ⟨h1,h2⟩|⟨h1,h2,h3,_⟩
 ·subst h1;simp [Ik]
 ·cases hl:lbl n with
  |nil=>exact absurd hl h1
  |cons p r=>
   rw [hl] at h2 h3;have hp:=Hh h2 (Gy ..);have hne:=yx hp;cases p with
   |nil=>exact absurd rfl hne
   |cons c q=>
    rw [h3,Od];simp only [B9,Cb,Ak];constructor
    ·rintro rfl;unfold Mf at hp;simp at hp;rcases hp with h|h
     ·rw [h]
     ·exfalso;have:Uf 42=false:=by decide
      rw [this] at h;simp at h
    ·intro h;injection h
theorem Ep8 (n:List UInt8) (hn:n.length≤1000000):S Bh1 1 [.s n]=some [.s (starN n), .b (N0 n)]:=by
 refine Jk5 (N:=1) rfl ?_;have h0:([42,46]:List UInt8).length=2:=rfl;have hl:(Uw n).length≤9223372036854775807:=by
  unfold Uw;split
  ·simp
  ·rw [Ay,h0];omega
 unfold starN N0;have tail:T.ev S 1 Cx7 [.s n, .s (Uw n)]=some (.ret [.s (starN n), .b (N0 n)]):=by
  unfold starN N0;rcases Aq (vld n) with h3|h3
  ·have h4:=Pf h3;have h5:=Ab (Nm h3);have h6:=It1 (n[0]'(Nm h3)) 42 (by omega);by_cases h7:(lbl n)[0]? =some [42]
   ·have h8:=h4.2 h7;rw [h5] at h8;injection h8 with h8;have h9:((n[0]'(Nm h3)).toNat:Int)=42:=h6.2 h8;simp (disch:=omega) only [Ds5,B4,h3,h5,xe,EVP,EV,simprocAttr];simp [h7]
   ·have h8:¬n[0]? =some 42:=fun e=>h7 (h4.1 e);rw [h5] at h8;have h9:¬((n[0]'(Nm h3)).toNat:Int)=42:=fun e=>h8 (by rw [h6.1 e];rfl);rcases Aq (vld (Uw n)) with ha|ha<;>simp (disch:=omega) only [Ds5,B4,h3,h5,ha,xe,EVP,EV,simprocAttr]<;>simp [h7]
  ·simp (disch:=omega) only [Ds5,B4,h3,xe,EVP,EV,simprocAttr];simp
 unfold starN N0 at tail;obtain ⟨y0,y1,y2,y3,y4,y5,y6,y7,yt⟩:=Ds5;by_cases h4:n=[46]
 ·have e:Uw n=[42,46]:=by simp [Uw,h4]
  rw [e] at tail ⊢;subst h4;simp (disch:=omega) only [y0,y1,y2,yt,xe,EVP,EV,simprocAttr];rw [tail];simp
 ·have e:Uw n=42::46::n:=by simp [Uw,h4]
  rw [e] at tail ⊢;simp (disch:=omega) only [y0,y1,y2,yt,h4,xe,EVP,EV,simprocAttr];rw [tail];simp
end Go.X.G
/- The canonical order of names is a total order. -/
namespace Go.X.G
open Go Go.X
structure TO {α:Type} (lt:α→α→Prop):Prop where
 irr:∀a,¬lt a a
 tr:∀a b c,lt a b→lt b c→lt a c
 tri:∀a b,lt a b∨a=b∨lt b a
theorem TO.asym {α:Type} {lt:α→α→Prop} (h:TO lt) {a b:α} (h1:lt a b):¬lt b a:=fun h2=>h.irr a (h.tr _ _ _ h1 h2)
theorem TO.ntr {α:Type} {lt:α→α→Prop} (h:TO lt) {a b c:α} (h1:¬lt a b) (h2:¬lt b c):¬lt a c:=by
 intro h3;rcases h.tri b a with h4|h4|h4
 ·exact h2 (h.tr _ _ _ h4 h3)
 ·subst h4;exact h2 h3
 ·exact h1 h4
def lex {α:Type} (lt:α→α→Prop):List α→List α→Prop
 |[],[]=>False
 |[],_::_=>True
 |_::_,[]=>False
 |a::x,b::y=>lt a b∨(a=b∧lex lt x y)
theorem Bp0 {α:Type} {lt:α→α→Prop} (h:TO lt):∀x:List α,¬lex lt x x
 |[]=>by simp [lex]
 |a::x=>by simp only [lex,true_and,not_or];exact ⟨h.irr a,Bp0 h x⟩
theorem Fk0 {α:Type} {lt:α→α→Prop} (h:TO lt):∀x y z:List α,lex lt x y→lex lt y z→lex lt x z
 |[],[],_,h1,_=>by simp [lex] at h1
 |[],_::_,[],_,h2=>by simp [lex] at h2
 |[],_::_,_::_,_,_=>by simp [lex]
 |_::_,[],_,h1,_=>by simp [lex] at h1
 |_::_,_::_,[],_,h2=>by simp [lex] at h2
 |a::x,b::y,c::z,h1,h2=>by
  simp only [lex] at h1 h2 ⊢;rcases h1 with h1|⟨rfl,h1⟩
  ·rcases h2 with h2|⟨rfl,h2⟩
   ·exact .inl (h.tr _ _ _ h1 h2)
   ·exact .inl h1
  ·rcases h2 with h2|⟨rfl,h2⟩
   ·exact .inl h2
   ·exact .inr ⟨rfl,Fk0 h x y z h1 h2⟩
theorem lex_tri {α:Type} {lt:α→α→Prop} (h:TO lt):∀x y:List α,lex lt x y∨x=y∨lex lt y x
 |[],[]=> .inr (.inl rfl)
 |[],_::_=> .inl (by simp [lex])
 |_::_,[]=> .inr (.inr (by simp [lex]))
 |a::x,b::y=>by
  simp only [lex];rcases h.tri a b with h1|rfl|h1
  ·exact .inl (.inl h1)
  ·rcases lex_tri h x y with h2|rfl|h2
   ·exact .inl (.inr ⟨rfl,h2⟩)
   ·exact .inr (.inl rfl)
   ·exact .inr (.inr (.inr ⟨rfl,h2⟩))
  ·exact .inr (.inr (.inl h1))
theorem TO.lex {α:Type} {lt:α→α→Prop} (h:TO lt):TO (G.lex lt):=⟨Bp0 h,Fk0 h,lex_tri h⟩
theorem It2:TO (fun a b:UInt8=>a<b):=⟨fun a=>UInt8.lt_irrefl a,fun a b c h1 h2=>UInt8.lt_trans h1 h2,fun a b=>by
 rcases UInt8.lt_or_le a b with h|h
 ·exact .inl h
 ·rcases UInt8.lt_or_le b a with h2|h2
  ·exact .inr (.inr h2)
  ·exact .inr (.inl (UInt8.le_antisymm h2 h))⟩
abbrev ltB:List UInt8→List UInt8→Prop:=lex fun a b:UInt8=>a<b
theorem Dr2:TO ltB:=It2.lex
theorem T1:∀a b:List UInt8,Op.bytesLess a b=true↔ltB a b
 |[],[]=>by simp [Op.bytesLess,lex]
 |[],_::_=>by simp [Op.bytesLess,lex]
 |_::_,[]=>by simp [Op.bytesLess,lex]
 |a::x,b::y=>by have ih:=T1 x y;simp only [Op.bytesLess,An,decide_eq_true_eq,Aw,beq_iff_eq,lex];rw [ih]
theorem Rc (a b:List UInt8):cmpS a b<0↔ltB a b:=by
 rw [←T1];unfold cmpS;cases h:Op.bytesLess a b
 ·simp only [Ad,if_false,iff_false];split<;>omega
 ·simp
abbrev ltL:List (List UInt8)→List (List UInt8)→Prop:=lex ltB
theorem to_L:TO ltL:=Dr2.lex
def Al9 (a b:List (List UInt8)):Int:=match Uk a b with
 |some c=>c
 |none=>if a.length<b.length then -1 else if b.length<a.length then 1 else 0
theorem zq:∀a b:List (List UInt8),Al9 a b<0↔ltL a b
 |[],[]=>by simp [Al9,Uk,lex]
 |[],_::_=>by simp [Al9,Uk,lex]
 |_::_,[]=>by simp [Al9,Uk,lex]
 |x::xs,y::ys=>by
  have ih:=zq xs ys;simp only [Al9,Uk,lex] at ih ⊢;by_cases h:x=y
  ·subst h;rw [if_pos rfl];simp only [As,Nat.add_lt_add_iff_right,true_and];rw [ih];constructor
   ·exact fun h=> .inr h
   ·rintro (h|h)
    ·exact absurd h (Dr2.irr x)
    ·exact h
  ·rw [if_neg h];simp only;rw [Rc];simp [h]
theorem ng (a b:List (List UInt8)):Al8 a b=Al9 a.reverse b.reverse:=by unfold Al8 Al9;cases Uk a.reverse b.reverse<;>simp
theorem Cv5 (a b:List (List UInt8)):Al8 a b<0↔ltL a.reverse b.reverse:=by rw [←zq,ng]
def ltN (a b:List UInt8):Prop:=if vld a=true then (if vld b=true then ltL (lbl a).reverse (lbl b).reverse else True) else (if vld b=true then False else ltB a b)
theorem Fz (a b:List UInt8):Jf a b<0↔ltN a b:=by
 unfold ltN;rcases Aq (vld a) with ha|ha
 ·rcases Aq (vld b) with hb|hb
  ·rw [Y1 ha hb,Cv5,if_pos ha,if_pos hb]
  ·unfold Jf;simp [ha,hb]
 ·rcases Aq (vld b) with hb|hb
  ·unfold Jf;simp [ha,hb]
  ·have e:Jf a b=cmpS a b:=by unfold Jf;simp [ha,hb]
   rw [e,Rc];simp [ha,hb]
theorem to_N:TO ltN:=by
 refine ⟨fun a h=> ?_,fun a b c h1 h2=> ?_,fun a b=> ?_⟩
 ·unfold ltN at h;split at h
  ·exact to_L.irr _ h
  ·exact Dr2.irr _ h
 ·unfold ltN at*;rcases Aq (vld a) with ha|ha<;>rcases Aq (vld b) with hb|hb<;>rcases Aq (vld c) with hc|hc<;>
   simp only [ha,hb,hc,if_true,Ad,if_false] at h1 h2 ⊢
  ·exact to_L.tr _ _ _ h1 h2
  ·exact Dr2.tr _ _ _ h1 h2
 ·unfold ltN;rcases Aq (vld a) with ha|ha<;>rcases Aq (vld b) with hb|hb<;>simp only [ha,hb,if_true,Ad,if_false]
  ·rcases to_L.tri (lbl a).reverse (lbl b).reverse with h|h|h
   ·exact .inl h
   ·exact .inr (.inl (Lk ha hb (List.reverse_inj.1 h)))
   ·exact .inr (.inr h)
  ·simp
  ·simp
  ·exact Dr2.tri a b
theorem Hs {a b:List UInt8}:Jf a b=0↔a=b:=by
 constructor
 ·intro h;rcases Aq (vld a) with ha|ha
  ·rcases Aq (vld b) with hb|hb
   ·rw [Y1 ha hb] at h;have key:∀x y:List (List UInt8),Al9 x y=0→x=y:=by
     intro x
     induction x with
     |nil=>intro y hy;cases y with
      |nil=>rfl
      |cons=>simp [Al9,Uk] at hy
     |cons x xs ih=>intro y hy;cases y with
      |nil=>simp [Al9,Uk] at hy
      |cons y ys=>
       simp only [Al9,Uk] at hy ih;by_cases e:x=y
       ·subst e;rw [if_pos rfl] at hy;simp only [As,Nat.add_lt_add_iff_right] at hy;rw [ih ys hy]
       ·rw [if_neg e] at hy;exact absurd (Im.1 hy) e
    rw [ng] at h;exact Lk ha hb (List.reverse_inj.1 (key _ _ h))
   ·unfold Jf at h;simp [ha,hb] at h
  ·rcases Aq (vld b) with hb|hb
   ·unfold Jf at h;simp [ha,hb] at h
   ·have e:Jf a b=cmpS a b:=by unfold Jf;simp [ha,hb]
    rw [e] at h;exact Im.1 h
 ·rintro rfl;have h1:=Fz a a;have h2:¬Jf a a<0:=fun h=>to_N.irr a (h1.1 h);have key:∀x:List (List UInt8),Al9 x x=0:=by
   intro x
   induction x with
   |nil=>rfl
   |cons x xs ih=>
    simp only [Al9,Uk] at ih ⊢;simp only [if_true,As,Nat.add_lt_add_iff_right];exact ih
  rcases Aq (vld a) with ha|ha
  ·rw [Y1 ha ha];rw [ng];exact key _
  ·have e:Jf a a=cmpS a a:=by unfold Jf;simp [ha]
   rw [e];exact Im.2 rfl
end Go.X.G
/- Sorted lists of names, each once. -/
namespace Go.X.G
open Go Go.X
def Q3 {α:Type} (e:α→α→Bool):α→List α→List α
 |_,[]=>[]
 |p,c::r=>if e c p=true then Q3 e c r else c::Q3 e c r
def cpt {α:Type} (e:α→α→Bool):List α→List α
 |[]=>[]
 |x::r=>x::Q3 e x r
theorem gt {α:Type} (e:α→α→Bool) (c:α):∀(r:List α) (p:α),Q3 e p (r++[c])=Q3 e p r++(if e c ((p::r).getLast (by simp))=true then [] else [c])
 |[],p=>by simp only [Cv,Q3,List.getLast_singleton];rfl
 |x::r,p=>by
  have ih:=gt e c r x;simp only [B9,Q3,List.getLast_cons_cons];split
  ·exact ih
  ·rw [ih];rfl
theorem My {α:Type} (e:α→α→Bool) (c:α) (l:List α) (h:l≠[]):cpt e (l++[c])=cpt e l++(if e c (l.getLast h)=true then [] else [c]):=by
 cases l with
 |nil=>exact absurd rfl h
 |cons x r=>
  show x::Q3 e x (r++[c])=_;rw [gt];rfl
theorem ym {α:Type} (e:α→α→Bool):∀(r:List α) (p:α),(Q3 e p r).length≤r.length
 |[],_=>by simp [Q3]
 |c::r,p=>by have:=ym e r c;simp only [Q3];split<;>simp<;>omega
theorem Ys {α:Type} (e:α→α→Bool) (l:List α):(cpt e l).length≤l.length:=by
 cases l with
 |nil=>simp [cpt]
 |cons x r=>have:=ym e r x;simp [cpt];exact this
theorem Yt {α:Type} (e:α→α→Bool):∀(r:List α) (p:α),∀x∈Q3 e p r,x∈r
 |[],_,x,h=>by simp [Q3] at h
 |c::r,p,x,h=>by
  simp only [Q3] at h;split at h
  ·exact .tail _ (Yt e r c x h)
  ·rcases Am.1 h with rfl|h
   ·exact .head _
   ·exact .tail _ (Yt e r c x h)
theorem Gr8 {α:Type} (e:α→α→Bool) (l:List α):∀x∈cpt e l,x∈l:=by
 cases l with
 |nil=>intro x h;simp [cpt] at h
 |cons y r=>
  intro x h;rcases Am.1 (show x∈y::Q3 e y r from h) with rfl|h
  ·exact .head _
  ·exact .tail _ (Yt e r y x h)
abbrev eqs {α:Type} [DecidableEq α]:α→α→Bool:=fun a b=>decide (a=b)
theorem cptG_mem {α:Type} [DecidableEq α]:∀(r:List α) (p x:α),x∈r→x=p∨x∈Q3 eqs p r
 |[],_,x,h=>by simp at h
 |c::r,p,x,h=>by
  simp only [Q3];by_cases hc:c=p
  ·subst hc;rw [if_pos (by simp [eqs])];rcases Am.1 h with rfl|h
   ·exact .inl rfl
   ·exact cptG_mem r c x h
  ·rw [if_neg (by simp [eqs,hc])];right;rcases Am.1 h with rfl|h
   ·exact .head _
   ·rcases cptG_mem r c x h with rfl|h
    ·exact .head _
    ·exact .tail _ h
theorem Gr9 {α:Type} [DecidableEq α] (l:List α) (x:α):x∈cpt eqs l↔x∈l:=by
 refine ⟨Gr8 _ l x,fun h=> ?_⟩;cases l with
 |nil=>simp at h
 |cons y r=>
  rcases Am.1 h with rfl|h
  ·exact .head _
  ·rcases cptG_mem r y x h with rfl|h
   ·exact .head _
   ·exact .tail _ h
theorem Tp {α:Type} [DecidableEq α] {lt:α→α→Prop} (ht:TO lt):∀(r:List α) (p:α),(p::r).Pairwise (fun a b=>¬lt b a)→(p::Q3 eqs p r).Pairwise lt
 |[],p,_=>by simp [Q3]
 |c::r,p,h=>by
  rw [A5] at h;have ih:=Tp ht r c h.2;simp only [Q3];by_cases hc:c=p
  ·subst hc;rw [if_pos (by simp [eqs])];exact ih
  ·rw [if_neg (by simp [eqs,hc])];rw [A5];refine ⟨fun x hx=> ?_,ih⟩;have hpc:lt p c:=by
    rcases ht.tri p c with h1|h1|h1
    ·exact h1
    ·exact absurd h1.symm hc
    ·exact absurd h1 (h.1 c (.head _))
   rcases Am.1 hx with rfl|hx
   ·exact hpc
   ·exact ht.tr _ _ _ hpc ((A5.1 ih).1 x hx)
theorem Al5 {α:Type} [DecidableEq α] {lt:α→α→Prop} (ht:TO lt) (l:List α) (h:l.Pairwise (fun a b=>¬lt b a)):(cpt eqs l).Pairwise lt:=by
 cases l with
 |nil=>simp [cpt]
 |cons x r=>exact Tp ht r x h
theorem bl {α:Type} {lt:α→α→Prop} (ht:TO lt):∀(a b:List α),a.Pairwise lt→b.Pairwise lt→(∀x,x∈a↔x∈b)→a=b
 |[],[],_,_,_=>rfl
 |[],y::b,_,_,h=>absurd ((h y).2 (.head _)) (by simp)
 |x::a,[],_,_,h=>absurd ((h x).1 (.head _)) (by simp)
 |x::a,y::b,ha,hb,h=>by
  rw [A5] at ha hb;have hxy:x=y:=by
   rcases Am.1 ((h x).1 (.head _)) with h1|h1
   ·exact h1
   ·rcases Am.1 ((h y).2 (.head _)) with h2|h2
    ·exact h2.symm
    ·exact absurd (hb.1 x h1) (ht.asym (ha.1 y h2))
  subst hxy;rw [bl ht a b ha.2 hb.2 fun z=> ?_];constructor
  ·intro hz;rcases Am.1 ((h z).1 (.tail _ hz)) with rfl|h1
   ·exact absurd (ha.1 z hz) (ht.irr z)
   ·exact h1
  ·intro hz;rcases Am.1 ((h z).2 (.tail _ hz)) with rfl|h1
   ·exact absurd (hb.1 z hz) (ht.irr z)
   ·exact h1
def setN (l:List (List UInt8)):List (List UInt8):=cpt eqs (l.mergeSort fun x y=> !decide (Jf y x<0))
theorem Gg6 (l:List (List UInt8)):(l.mergeSort fun x y=> !decide (Jf y x<0)).Pairwise (fun a b=>¬ltN b a):=by
 have:=List.pairwise_mergeSort (le:=fun x y:List UInt8=> !decide (Jf y x<0)) (fun a b c h1 h2=>by
  simp only [A8,decide_eq_false_iff_not,Fz] at h1 h2 ⊢;exact to_N.ntr h2 h1) (fun a b=>by
  simp only [An,A8,decide_eq_false_iff_not,Fz];rcases to_N.tri a b with h|h|h
  ·exact .inl (to_N.asym h)
  ·subst h;exact .inl (to_N.irr a)
  ·exact .inr (to_N.asym h)) l
 refine this.imp fun {a b} h=> ?_;simpa only [A8,decide_eq_false_iff_not,Fz] using h
theorem Sk (l:List (List UInt8)):(setN l).Pairwise ltN:=Al5 to_N _ (Gg6 l)
theorem L1 (l:List (List UInt8)) (x:List UInt8):x∈setN l↔x∈l:=by unfold setN;rw [Gr9];exact (List.mergeSort_perm _ _).mem_iff
theorem Xq (l:List (List UInt8)):(setN l).length≤l.length:=by have:=Ys eqs (l.mergeSort fun x y=> !decide (Jf y x<0));rw [jw] at this;exact this
end Go.X.G
/- Data of records: what the reference's functions give. -/
namespace Go.X.G
open Go Go.X
theorem t15 (t:Int):t=1∨t=2∨t=5∨t=6∨t=12∨t=15∨t=16∨t=28∨t=33∨t=39∨t=43∨t=46∨t=47∨t=48∨(t≠1∧t≠2∧t≠5∧t≠6∧t≠12∧t≠15∧t≠16∧t≠28∧t≠33∧t≠39∧t≠43∧t≠46∧t≠47∧t≠48):=by omega
def knw (t:Int):Bool:=decide (t=1)||decide (t=2)||decide (t=5)||decide (t=6)||decide (t=12)||decide (t=15)||decide (t=16)||decide (t=28)||decide (t=33)||decide (t=39)||decide (t=43)||decide (t=46)||decide (t=47)||decide (t=48)
def Ej (d:Dat):Bool:=d.v6||(decide (d.hi=0) && decide (d.lo<4294967296))
def inB (n most:Int):Bool:=decide (0≤n) && decide (n≤most)
def Is (s:List UInt8):Bool:=decide (1≤s.length) && decide (s.length≤255)
def Hg (n:List UInt8):Bool:=vld n && decide (n[0]? ≠some 42)
def bit (set:Int) (t:Nat):Int:=set / 2 ^ t % 2
theorem Jm5 (x:Int):IntKind.u64.wrap ((BitVec.ofInt IntKind.u64.bits x &&& BitVec.ofInt IntKind.u64.bits 1).toNat:Int)=x % 2:=by
 have h2:(BitVec.ofInt 64 x &&& BitVec.ofInt 64 1).toNat=(BitVec.ofInt 64 x).toNat % 2:=by rw [BitVec.toNat_and];show (BitVec.ofInt 64 x).toNat &&& 1=_;exact Nat.and_one_is_mod _
 show IntKind.u64.wrap (((BitVec.ofInt 64 x &&& BitVec.ofInt 64 1).toNat:Nat):Int)=_;rw [h2,BitVec.toNat_ofInt];rw [Ir7]<;>omega
end Go.X.G
/- Data of records: bytes. -/
namespace Go.X.G
open Go Go.X
def Hx2 (set:Int) (i:Nat):Nat→Bool
 |0=>true
 |k+1=>(!decide (bit set i=1)||knw (i:Int)) && Hx2 set (i+1) k
def be (v:Int):Nat→List UInt8
 |0=>[]
 |n+1=>UInt8.ofNat (v / 256 ^ n % 256).toNat::be v n
theorem Ed (v:Int):∀n,(be v n).length=n
 |0=>rfl
 |n+1=>by simp [be,Ed v n]
theorem Bg7 (z:Int) (h1:0≤z) (h2:z<256):((UInt8.ofNat z.toNat).toNat:Int)=z:=by simp;omega
theorem Gr6 (v:Int) (j:Nat):v / 256 ^ j / 256=v / 256 ^ (j+1):=by rw [Int.pow_succ,Int.ediv_ediv_of_nonneg (Int.le_of_lt (Int.pow_pos (by decide)))]
theorem Ih3 (v:Int) (j:Nat) (h:0≤v):0≤v / 256 ^ j:=Int.ediv_nonneg h (Int.le_of_lt (Int.pow_pos (by decide)))
theorem Ih4 (v:Int) (j:Nat) (h:0≤v):v / 256 ^ j≤v:=Int.ediv_le_self _ h
end Go.X.G
/- Data of records: the wire form. -/
namespace Go.X.G
open Go Go.X
theorem fh {s:List UInt8} (h:Mf s=true):s.length≤63:=by
 unfold Mf at h;simp at h;rcases h with h|h
 ·simp [h]
 ·omega
theorem W9:∀(r:List UInt8) (f:Bool) (cur:List UInt8) (l:List (List UInt8)),spl f cur r=some l→∀x∈l,Mf x=true
 |[],f,cur,l,h=>by simp [spl] at h;subst h;simp
 |c::r,f,cur,l,h=>by
  simp only [spl] at h;split at h
  ·split at h
   ·rename_i h2;obtain ⟨m,hm,rfl⟩:=Ax.1 h;intro x hx;simp at hx;rcases hx with rfl|hx
    ·exact h2.1
    ·exact W9 r _ _ _ hm x hx
   ·cases h
  ·exact W9 r _ _ _ h
theorem X7 (n:List UInt8):∀x∈lbl n,Mf x=true:=by
 unfold lbl nm;split
 ·simp
 ·split
  ·cases h:spl true [] n with
   |none=>simp
   |some l=>simpa using W9 _ _ _ _ h
  ·simp
def wireL (l:List (List UInt8)):List UInt8:=l.flatMap fun x=>be (x.length:Int) 1++x
def Ig (n:List UInt8):List UInt8:=wireL (lbl n)++be 0 1
theorem Rt:∀(l:List (List UInt8)),(∀x∈l,Mf x=true)→(wireL l).length≤64*l.length
 |[],_=>by simp [wireL]
 |x::l,h=>by have h1:=fh (h x (by simp));have h2:=Rt l (fun y hy=>h y (by simp [hy]));simp only [wireL,G1,Ay,Ed,As] at h2 ⊢;omega
theorem Z7 (n:List UInt8):(Ig n).length≤20000:=by have h1:=Rt (lbl n) (X7 n);have h2:=Lj n;simp only [Ig,Ay,Ed];omega
def bmV (set:Int) (i:Nat):Nat→Int
 |0=>0
 |j+1=>bmV set i j*2+bit set (i*8+j)
theorem Gv7 (set:Int) (t:Nat):0≤bit set t∧bit set t≤1:=by unfold bit;omega
theorem Av5 (set:Int) (i:Nat):∀j,0≤bmV set i j∧bmV set i j<2 ^ j
 |0=>by simp [bmV]
 |j+1=>by have h1:=Av5 set i j;have h2:=Gv7 set (i*8+j);simp only [bmV,Int.pow_succ];omega
def bmB (set:Int) (i:Nat):UInt8:=UInt8.ofNat (bmV set i 8).toNat
def bmL (set:Int):Nat→Nat
 |0=>0
 |i+1=>if bmV set i 8≠0 then i+1 else bmL set i
theorem Gv5 (set:Int):∀i,bmL set i≤i
 |0=>Af _
 |i+1=>by have:=Gv5 set i;simp only [bmL];split<;>omega
def bmap (set:Int):List UInt8:=((List.range 8).map (bmB set)).take (bmL set 8)
theorem Av4 (set:Int):(bmap set).length≤8:=by simp [bmap];omega
def Qn (d:Dat):List UInt8:=if d.v6 then be d.hi 8++be d.lo 8 else be d.lo 4
def usd (t:Int) (d:Dat):Dat:=
 if t=1∨t=28 then ⟨d.v6,d.hi,d.lo,[],[],[],0,0,0,0,0,0,0⟩
 else if t=2∨t=5∨t=12∨t=39 then ⟨false,0,0,d.host,[],[],0,0,0,0,0,0,0⟩
 else if t=6 then ⟨false,0,0,d.host,d.mail,[],d.a,d.b,d.c,d.d,d.e,0,0⟩
 else if t=15 then ⟨false,0,0,d.host,[],[],d.a,0,0,0,0,0,0⟩
 else if t=16 then ⟨false,0,0,[],[],d.text,0,0,0,0,0,0,0⟩
 else if t=33 then ⟨false,0,0,d.host,[],[],d.a,d.b,d.c,0,0,0,0⟩
 else if t=43∨t=48 then ⟨false,0,0,[],[],d.text,d.a,d.b,d.c,0,0,0,0⟩
 else if t=46 then ⟨false,0,0,d.host,[],d.text,d.a,d.b,d.c,d.d,d.e,d.f,0⟩
 else ⟨false,0,0,d.host,[],[],0,0,0,0,0,0,d.bits⟩
end Go.X.G
/- Data of records: which are valid. -/
namespace Go.X.G
open Go Go.X
def Dz (t:Int) (d:Dat):Bool:=
 if t=1 then Ej d && !d.v6
 else if t=28 then d.v6
 else if t=6 then Hg d.host && Hg d.mail && inB d.a 4294967295 && inB d.b 2147483647 && inB d.c 2147483647 && inB d.d 2147483647 && inB d.e 2147483647
 else if t=15 then Hg d.host && inB d.a 65535
 else if t=16 then decide (d.text.length≤255)
 else if t=33 then Hg d.host && inB d.a 65535 && inB d.b 65535 && inB d.c 65535
 else if t=43 then inB d.a 65535 && inB d.b 255 && inB d.c 255 && Is d.text
 else if t=46 then knw d.a && decide (d.a≠46) && inB d.b 127 && inB d.c 2147483647 && inB d.d 4294967295 && inB d.e 4294967295 && inB d.f 65535 && Hg d.host && Is d.text
 else if t=47 then vld d.host && decide (d.bits≠0) && Hx2 d.bits 0 64
 else if t=48 then (decide (d.a=256)||decide (d.a=257)) && decide (d.b=3) && inB d.c 255 && Is d.text
 else Hg d.host
def Ew (t:Int) (d:Dat):Bool:=knw t && decide (usd t d=d) && Dz t d
def J3 (t:Int) (d:Dat):List UInt8:=
 if t=1∨t=28 then Qn d
 else if t=6 then Ig d.host++Ig d.mail++be d.a 4++be d.b 4++be d.c 4++be d.d 4++be d.e 4
 else if t=15 then be d.a 2++Ig d.host
 else if t=16 then be (d.text.length:Int) 1++d.text
 else if t=33 then be d.a 2++be d.b 2++be d.c 2++Ig d.host
 else if t=43∨t=48 then be d.a 2++be d.b 1++be d.c 1++d.text
 else if t=46 then be d.a 2++be 253 1++be d.b 1++be d.c 4++be d.d 4++be d.e 4++be d.f 2++Ig d.host++d.text
 else if t=47 then Ig d.host++be 0 1++be ((bmap d.bits).length:Int) 1++bmap d.bits
 else Ig d.host
theorem knw_cases {t:Int} (h:knw t=true):t=1∨t=2∨t=5∨t=6∨t=12∨t=15∨t=16∨t=28∨t=33∨t=39∨t=43∨t=46∨t=47∨t=48:=by simp [knw] at h;omega
def En0 (t:Int) (a b:Dat):Int:=
 if Ew t a && Ew t b then cmpS (J3 t a) (J3 t b) else if Ew t a then -1 else if Ew t b then 1 else 0
end Go.X.G
/- Lists of records: what the reference's functions give. -/
namespace Go.X.G
open Go Go.X
def Pj (r:Rec):Bool:=vld r.name && knw r.typ && decide (0≤r.ttl) && decide (r.ttl≤2147483647) && Ew r.typ r.data
def zj (a b:Int):Int:=if a<b then -1 else if b<a then 1 else 0
def Uq (a b:Rec):Int:=
 if Jf a.name b.name≠0 then Jf a.name b.name else if zj a.typ b.typ≠0 then zj a.typ b.typ else En0 a.typ a.data b.data
def isK (n:List UInt8) (t:Int) (r:Rec):Bool:=decide (r.name=n) && decide (r.typ=t)
def findR (l:List Rec) (n:List UInt8) (t:Int):List Rec:=l.filter (isK n t)
theorem Aw8 (l:List Rec) (n:List UInt8) (t:Int) (hl:l.length≤1000000):S Bh5 3 [Ag l, .s n, .i .i64 t]=some [Ag (findR l n t)]:=by
 refine Jq2 (N:=l.length+1) rfl ?_;have key:Fk7.ev S (l.length+1) [Ag l, .s n, .i .i64 t]=some (.yld 0 [Ag ([]++findR l n t)]):=by
  refine Fx l (fun i (g:List Rec)=>[Ag g, .i .i64 (i:Int)]) (fun i g r=> .yld 0 [Ag (g++findR r n t)]) (fun i g=>g.length≤i) [] rfl (Cl _) (by omega) (fun i g c r hd hi hc hI=> ?_) (fun g hI=> ?_)
  ·left;by_cases h:isK n t c=true
   ·refine ⟨g++[c],?_,by simp;omega,by simp [findR,h]⟩;simp [isK] at h;simp (disch:=omega) only [Ar7,hc,h.1,h.2,xe,EVP,EV,simprocAttr]
   ·refine ⟨g,?_,by omega,by simp [findR,h]⟩;simp [isK] at h;by_cases h1:c.name=n
    ·simp (disch:=omega) only [Ar7,hc,h1,h h1,xe,EVP,EV,simprocAttr]
    ·by_cases h2:c.typ=t<;>simp (disch:=omega) only [Ar7,hc,h1,h2,xe,EVP,EV,simprocAttr]
  ·simp (disch:=omega) only [Ar7,xe,EVP,EV,simprocAttr];simp [findR,Out.goes]
 simp (disch:=omega) only [Ar7,key,xe,EVP,EV,simprocAttr]
def i9 (x:Rec):List Rec→List Rec
 |[]=>[x]
 |y::r=>if Uq y x<0 then y::i9 x r else if Uq y x=0 then (if x.ttl<y.ttl then x::r else y::r) else x::y::r
def sortR (l:List Rec):List Rec:=l.foldl (fun acc x=>i9 x acc) []
theorem insR_mem (x:Rec):∀(l:List Rec) (y:Rec),y∈i9 x l→y=x∨y∈l
 |[],y,h=>by simp [i9] at h;exact .inl h
 |z::r,y,h=>by
  simp only [i9] at h;split at h
  ·simp at h;rcases h with h|h
   ·exact .inr (by simp [h])
   ·rcases insR_mem x r y h with h|h
    ·exact .inl h
    ·exact .inr (by simp [h])
  ·split at h
   ·split at h
    ·simp at h;rcases h with h|h
     ·exact .inl h
     ·exact .inr (by simp [h])
    ·exact .inr h
   ·simp at h;rcases h with h|h
    ·exact .inl h
    ·exact .inr (by simpa using h)
end Go.X.G
/- Zones: what the reference's check gives. -/
namespace Go.X.G
open Go Go.X
def Ev (n top:List UInt8):Bool:=decide (n≠top) && under n top
def f5 (l:List Rec) (n:List UInt8) (t:Int):Bool:=decide (0<(findR l n t).length)
def Or (r x:Rec):Bool:=
 !decide (x.name=r.name)||(!(decide (x.typ=r.typ) && decide (r.typ≠46) && decide (x.ttl≠r.ttl)) && !(decide (x.typ=r.typ) && (decide (r.typ=6)||decide (r.typ=5)||decide (r.typ=39)) && decide (x≠r)) &&
  !(decide (r.typ=5) && decide (x.typ≠5) && decide (x.typ≠46) && decide (x.typ≠47)))
def Zj (z:Zone) (r:Rec):Bool:=z.recs.all (Or r)
def N5 (z:Zone) (r x:Rec):Bool:=
 !(decide (x.typ=39) && Ev r.name x.name) && !(decide (x.typ=2) && Ev x.name z.origin && Ev r.name x.name && decide (r.typ≠1) && decide (r.typ≠28))
def Xd (t:Int):Bool:=decide (t=2)||decide (t=43)||decide (t=47)||decide (t=46)||decide (t=1)||decide (t=28)
def Xf (z:Zone) (r:Rec):Bool:=
 if (lbl r.name)[0]? =some [42]∧(r.typ=2∨r.typ=39) then false
 else z.recs.all (N5 z r) && (if Ev r.name z.origin && f5 z.recs r.name 2 then Xd r.typ else decide (r.typ≠43))
def Sg (z:Zone) (r:Rec):Bool:=under r.name z.origin && !(decide (r.typ=6) && decide (r.name≠z.origin)) && Zj z r && Xf z r
def Wz (z:Zone):Int:=
 if vld z.origin=false then 2
 else if 2048<z.recs.length then 9
 else if z.recs.all (fun r=>decide ((findR z.recs r.name r.typ).length≤64))=false then 9
 else if z.recs.all Pj=false then 5
 else if z.recs≠sortR z.recs then 7
 else if (findR z.recs z.origin 6).length≠1∨f5 z.recs z.origin 2=false then 13
 else if z.recs.all (Sg z)=false then 13
 else 0
end Go.X.G
/- Names on the way up; delegations above a name. -/
namespace Go.X.G
open Go Go.X
def upN (o n:List UInt8):List (List UInt8):=(List.range ((lbl n).length - (lbl o).length+1)).map fun k=>jn ((lbl n).drop k)
theorem M3 {o n x:List UInt8} (h:under n o=true):x∈upN o n↔under n x=true∧under x o=true:=by
 obtain ⟨hn,ho,hs⟩:=Bt.1 h;have hle:=hs.length_le;rw [Et] at hs;unfold upN;rw [Dd];constructor
 ·rintro ⟨k,hk,rfl⟩;rw [E5] at hk;obtain ⟨v1,v2⟩:=Ls hn k;refine ⟨Bt.2 ⟨hn,v1,by rw [v2];exact List.drop_suffix _ _⟩,Bt.2 ⟨v1,ho,?_⟩⟩;rw [v2,hs];have:(lbl n).length - (lbl o).length=k+((lbl n).length - (lbl o).length - k):=by omega
  rw [this,←Cm];exact List.drop_suffix _ _
 ·rintro ⟨h1,h2⟩;obtain ⟨_,hx,h3⟩:=Bt.1 h1;obtain ⟨_,_,h4⟩:=Bt.1 h2;have l1:=h3.length_le;have l2:=h4.length_le;rw [Et] at h3;refine ⟨(lbl n).length - (lbl x).length,?_,?_⟩
  ·rw [E5];omega
  ·rw [←h3];exact (Mg hx).symm
theorem jm (o n:List UInt8):(upN o n).length≤256:=by have:=Lj n;simp [upN];omega
theorem Pk {o n:List UInt8} {k:Nat} (hk:k≤(lbl n).length - (lbl o).length):(upN o n)[k]? =some (jn ((lbl n).drop k)):=by unfold upN;rw [Bh,Cq (by omega)];rfl
theorem mw {n:List UInt8} (h:vld n=true):jn ((lbl n).drop 0)=n:=by rw [D7];exact (Mg h).symm
theorem U1 {o n:List UInt8} (h:under n o=true) {k:Nat} (hk:k≤(lbl n).length - (lbl o).length):jn ((lbl n).drop k)=o↔k=(lbl n).length - (lbl o).length:=by
 obtain ⟨hn,ho,hs⟩:=Bt.1 h;have hle:=hs.length_le;rw [Et] at hs;obtain ⟨v1,v2⟩:=Ls hn k;constructor
 ·intro e;have:=congrArg (fun x=>(lbl x).length) e;simp only [v2,B3] at this;omega
 ·rintro rfl;rw [←hs];exact (Mg ho).symm
theorem At4 {o n:List UInt8} (h:under n o=true) {k:Nat} (hk:k<(lbl n).length - (lbl o).length):Xn (jn ((lbl n).drop k))=jn ((lbl n).drop (k+1))∧yy (jn ((lbl n).drop k))=true:=by
 obtain ⟨hn,ho,hs⟩:=Bt.1 h;obtain ⟨v1,v2⟩:=Ls hn k;have hne:jn ((lbl n).drop k)≠[46]:=by intro e;have:=(X6 v1).2 e;rw [v2] at this;have:=congrArg List.length this;simp at this;omega
 unfold Xn yy;rw [if_pos ⟨v1,hne⟩,v2,Cm];exact ⟨rfl,by simp [v1,hne]⟩
theorem Yz (l:List (List UInt8)) (i j:Nat) (h:i<j) (hj:j≤l.length):(flat (l.drop j)).length<(flat (l.drop i)).length:=by
 have e:l.drop i=(l.drop i).take (j - i)++l.drop j:=by have:=(Bp (j - i) (l.drop i)).symm;rw [Cm,show i+(j - i)=j by omega] at this;exact this
 rw [e,Mw,Ay];have:0<(flat ((l.drop i).take (j - i))).length:=by
  cases hc:(l.drop i).take (j - i) with
  |nil=>
   have:=congrArg List.length hc;simp at this;omega
  |cons x r=>simp [flat];omega
 omega
theorem Dn7 {n a b:List UInt8} (ha:under n a=true) (hb:under n b=true):a.length<b.length↔(lbl a).length<(lbl b).length:=by
 have key:∀{a b:List UInt8},under n a=true→under n b=true→(lbl a).length<(lbl b).length→a.length<b.length:=by
  intro a b ha hb hl;obtain ⟨hn,va,sa⟩:=Bt.1 ha;obtain ⟨_,vb,sb⟩:=Bt.1 hb;have la:=sa.length_le;have lb:=sb.length_le;rw [Et] at sa sb;rw [Mg va,Mg vb];have hbne:lbl b≠[]:=fun e=>by rw [e] at hl;simp at hl
  have e2:jn (lbl b)=flat (lbl b):=by unfold jn;rw [if_neg hbne]
  rw [e2];by_cases ha0:lbl a=[]
  ·have e1:jn (lbl a)=[46]:=by unfold jn;rw [if_pos ha0]
   rw [e1];have:=Hm (Q8 vb) hbne;simp;omega
  ·have e1:jn (lbl a)=flat (lbl a):=by unfold jn;rw [if_neg ha0]
   rw [e1,sa,sb];exact Yz _ _ _ (by omega) (by omega)
 constructor
 ·intro h;rcases Nat.lt_or_ge (lbl a).length (lbl b).length with h1|h1
  ·exact h1
  ·rcases Nat.lt_or_eq_of_le h1 with h2|h2
   ·have:=key hb ha h2;omega
   ·obtain ⟨_,va,sa⟩:=Bt.1 ha;obtain ⟨_,vb,sb⟩:=Bt.1 hb;rw [Et] at sa sb;have:a=b:=Lk va vb (by rw [sa,sb,h2]);subst this;omega
 ·exact key ha hb
def Dq (z:Zone) (r:Rec):Bool:=decide (r.typ=2) && Ev r.name z.origin
def jq (z:Zone) (n:List UInt8):List UInt8→List Rec→List UInt8
 |b,[]=>b
 |b,r::rs=>jq z n (if Dq z r && under n r.name && (decide (b=[])||decide ((lbl r.name).length<(lbl b).length)) then r.name else b) rs
def cutN (z:Zone) (n:List UInt8):List UInt8:=jq z n [] z.recs
theorem P1 (z:Zone) (n:List UInt8):∀(l:List Rec) (b:List UInt8),(b=[]∨under n b=true)→
  (jq z n b l=[]→b=[]∧∀r∈l,Dq z r=true→under n r.name=false)∧
  (jq z n b l≠[]→under n (jq z n b l)=true∧(jq z n b l=b∨∃r∈l,Dq z r=true∧r.name=jq z n b l)∧(b≠[]→(lbl (jq z n b l)).length≤(lbl b).length)∧∀r∈l,Dq z r=true→under n r.name=true→(lbl (jq z n b l)).length≤(lbl r.name).length)
 |[],b,hb=>by simp only [jq];refine ⟨fun h=>⟨h,fun r hr=>by simp at hr⟩,fun h=>⟨hb.resolve_left h, .inl trivial,fun _=>Af _,fun r hr=>by simp at hr⟩⟩
 |r::rs,b,hb=>by
  simp only [jq];have hne:under n r.name=true→r.name≠[]:=fun h e=>by have:=(Bt.1 h).2.1;rw [e] at this;simp [vld,nm] at this
  by_cases hc:(Dq z r && under n r.name && (decide (b=[])||decide ((lbl r.name).length<(lbl b).length)))=true
  ·rw [if_pos hc];simp only [Aw,An,decide_eq_true_eq] at hc;obtain ⟨⟨c1,c2⟩,c3⟩:=hc;obtain ⟨h1,h2⟩:=P1 z n rs r.name (.inr c2);refine ⟨fun h=>absurd (h1 h).1 (hne c2),fun h=> ?_⟩;obtain ⟨g1,g2,g3,g4⟩:=h2 h;refine ⟨g1, .inr ?_,fun hb0=> ?_,fun x hx hx1 hx2=> ?_⟩
   ·rcases g2 with g2|⟨x,hx,g2⟩
    ·exact ⟨r, .head _,c1,g2.symm⟩
    ·exact ⟨x, .tail _ hx,g2⟩
   ·have:=g3 (hne c2);rcases c3 with c3|c3
    ·exact absurd c3 hb0
    ·omega
   ·rcases Am.1 hx with rfl|hx
    ·exact g3 (hne c2)
    ·exact g4 x hx hx1 hx2
  ·rw [if_neg hc];obtain ⟨h1,h2⟩:=P1 z n rs b hb;have hr:Dq z r=true→under n r.name=true→b≠[]∧(lbl b).length≤(lbl r.name).length:=by intro c1 c2;simp only [c1,c2,Bool.and_self,Hz3,An,decide_eq_true_eq,not_or,Nat.not_lt] at hc;exact hc
   refine ⟨fun h=> ?_,fun h=> ?_⟩
   ·obtain ⟨g1,g2⟩:=h1 h;refine ⟨g1,fun x hx hx1=> ?_⟩;rcases Am.1 hx with rfl|hx
    ·rcases Aq (under n x.name) with h3|h3
     ·exact absurd g1 (hr hx1 h3).1
     ·exact h3
    ·exact g2 x hx hx1
   ·obtain ⟨g1,g2,g3,g4⟩:=h2 h;refine ⟨g1,?_,g3,fun x hx hx1 hx2=> ?_⟩
    ·rcases g2 with g2|⟨x,hx,g2⟩
     ·exact .inl g2
     ·exact .inr ⟨x, .tail _ hx,g2⟩
    ·rcases Am.1 hx with rfl|hx
     ·obtain ⟨q1,q2⟩:=hr hx1 hx2;have:=g3 q1;omega
     ·exact g4 x hx hx1 hx2
def O5 (z:Zone) (n:List UInt8):Bool:=z.recs.any fun r=>Dq z r && decide (r.name≠n) && under n r.name
theorem Jg {a b:List UInt8} (h1:under a b=true) (h2:(lbl a).length≤(lbl b).length):a=b:=by obtain ⟨va,vb,s⟩:=Bt.1 h1;exact Lk va vb (s.eq_of_length_le h2).symm
theorem Gl8 (z:Zone) (n:List UInt8):O5 z n=(decide (cutN z n≠[]) && decide (cutN z n≠n)):=by
 obtain ⟨h1,h2⟩:=P1 z n z.recs [] (.inl rfl);have e:cutN z n=jq z n [] z.recs:=rfl;rw [←e] at h1 h2;rw [Cp];unfold O5;simp only [B6,Aw,decide_eq_true_eq];constructor
 ·rintro ⟨r,hr,⟨c1,c2⟩,c3⟩;have hne:cutN z n≠[]:=fun h=>by have:=(h1 h).2 r hr c1;rw [c3] at this;cases this
  refine ⟨hne,fun h=> ?_⟩;obtain ⟨_,_,_,g4⟩:=h2 hne;have:=g4 r hr c1 c3;rw [h] at this;exact c2 (Jg c3 this).symm
 ·rintro ⟨hne,hnn⟩;obtain ⟨g1,g2,_,_⟩:=h2 hne;rcases g2 with g2|⟨r,hr,c1,c2⟩
  ·exact absurd g2 hne
  ·exact ⟨r,hr,⟨c1,by rw [c2];exact hnn⟩,by rw [c2];exact g1⟩
def Hz1 (z:Zone):List (List UInt8):=(z.recs.filter fun r=>under r.name z.origin && !O5 z r.name).flatMap fun r=>upN z.origin r.name
def namesN (z:Zone):List (List UInt8):=setN (Hz1 z)
def Fv3 (z:Zone) (x:List UInt8):Prop:=∃r∈z.recs,under r.name z.origin=true∧O5 z r.name=false∧under r.name x=true∧under x z.origin=true
theorem Aw2 (z:Zone) (x:List UInt8):x∈Hz1 z↔Fv3 z x:=by
 unfold Hz1 Fv3;simp only [List.mem_flatMap,Bf,Aw,A8];constructor
 ·rintro ⟨r,⟨hr,h1,h2⟩,h3⟩;obtain ⟨h4,h5⟩:=(M3 h1).1 h3;exact ⟨r,hr,h1,h2,h4,h5⟩
 ·rintro ⟨r,hr,h1,h2,h4,h5⟩;exact ⟨r,⟨hr,h1,h2⟩,(M3 h1).2 ⟨h4,h5⟩⟩
theorem Ed4 (z:Zone) (l:List (List UInt8)) (h:∀x,x∈l↔Fv3 z x):setN l=namesN z:=
 bl to_N _ _ (Sk _) (Sk _) fun x=>by rw [L1,h,namesN,L1,Aw2]
theorem Af1 (z:Zone) (x:List UInt8):x∈namesN z↔Fv3 z x:=by unfold namesN;rw [L1,Aw2]
end Go.X.G
