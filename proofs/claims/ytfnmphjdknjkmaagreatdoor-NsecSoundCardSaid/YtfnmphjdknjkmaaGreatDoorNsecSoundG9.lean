/- Names: what the reference's functions give. -/
import Derived.Test.YtfnmphjdknjkmaaGreatDoorNsecSoundG7
import Derived.Test.YtfnmphjdknjkmaaGreatDoorNsecSoundG8
open Bool renaming eq_false_or_eq_true→Ak,and_eq_true→Av,or_eq_true→An,not_eq_true'→A5,eq_iff_iff→Cp,eq_false_iff→Ef,and_true→Qg
open List renaming getElem?_eq_getElem→Ay,length_append→Ac,mem_cons→Am,append_assoc→As,mem_of_getElem?→A4,length_cons→A6,length_pos_iff→Bb,length_nil→Bh,getD_eq_getElem?_getD→Bp,take_append_drop→Br,cons_append→B7,getElem?_cons_zero→Cv,drop_drop→Cd,nil_append→Cg,drop_eq_getElem_cons→Ch,take_length→Dj,drop_zero→Ey,isSuffixOf_iff_suffix→Fg,mem_cons_self→Gr,cons_prefix_cons→H4,getLast_eq_getElem→Jn,flatMap_cons→Jr,append_cancel_right→Qd,drop_eq_nil_of_le→Zj,take_succ_cons→Ec9,reverse_prefix→Ed0,count_eq_zero→Gt6
open Nat renaming le_refl→Af,zero_le→Cs
open Option renaming map_eq_some_iff→Ax,map_some→A7
open Option.some renaming injEq→Aq
set_option maxHeartbeats 1000000
set_option linter.defProp false
set_option linter.unusedVariables false
set_option linter.unusedSimpArgs false
namespace Go.X.G
open Go Go.X
def Wm (c:UInt8):Bool:=decide (97≤(c.toNat:Int)) && decide ((c.toNat:Int)≤122)||decide (48≤(c.toNat:Int)) && decide ((c.toNat:Int)≤57)||decide ((c.toNat:Int)=45)||decide ((c.toNat:Int)=95)
def N1 (s:List UInt8):Bool:=decide (s=[42])||(decide (1≤s.length) && decide (s.length≤63) && s.all Wm)
end Go.X.G
/- Names: what the reference's functions give. -/
namespace Go.X.G
open Go Go.X
def spl (first:Bool) (cur:List UInt8):List UInt8→Option (List (List UInt8))
 |[]=>some []
 |c::r=>if c=46 then (if N1 cur=true∧(cur=[42]→first=true) then (spl false [] r).map (cur::·) else none) else spl first (cur++[c]) r
def nm (n:List UInt8):Option (List (List UInt8)):=
 if n=[46] then some [] else if 2≤n.length∧n.length≤254∧n[n.length - 1]? =some 46 then spl true [] n else none
def lbl (n:List UInt8):List (List UInt8):=(nm n).getD []
def vld (n:List UInt8):Bool:=(nm n).isSome
end Go.X.G
/- Names: what the reference's functions give, ctd. -/
namespace Go.X.G
open Go Go.X
def qc:∀(r:List UInt8) (f:Bool) (cur:List UInt8) (l:List (List UInt8)),spl f cur r=some l→l.length≤r.length
 |[],f,cur,l,h=>by simp [spl] at h;simp [←h]
 |c::r,f,cur,l,h=>by
  simp only [spl] at h;split at h
  ·split at h
   ·obtain ⟨m,hm,rfl⟩:=Ax.1 h;have:=qc r _ _ _ hm;simp;omega
   ·cases h
  ·have:=qc r _ _ _ h;simp;omega
def Gv8 {n:List UInt8} {l:List (List UInt8)} (h:nm n=some l):l.length≤254:=by
 unfold nm at h;split at h
 ·injection h with h;subst h;simp
 ·split at h
  ·rename_i h2;have:=qc _ _ _ _ h;omega
  ·cases h
def Lq (n:List UInt8):(lbl n).length≤254:=by
 unfold lbl;cases h:nm n with
 |none=>simp
 |some l=>exact Gv8 h
def Vr {α:Type} [DecidableEq α]:List α→List α→Nat
 |x::xs,y::ys=>if x=y then Vr xs ys+1 else 0
 |_,_=>0
def Kz (a b:List (List UInt8)):Nat:=Vr a.reverse b.reverse
def Cl1 {α:Type} [DecidableEq α]:∀(a b:List α),Vr a b≤a.length∧Vr a b≤b.length
 |[],b=>by simp [Vr]
 |x::xs,[]=>by simp [Vr]
 |x::xs,y::ys=>by have:=Cl1 xs ys;simp only [Vr];split<;>simp<;>omega
def Dc0 (a b:List (List UInt8)):Kz a b≤a.length∧Kz a b≤b.length:=by have:=Cl1 a.reverse b.reverse;simpa [Kz] using this
def under (n top:List UInt8):Bool:=vld n && vld top && decide (Kz (lbl n) (lbl top)=(lbl top).length)
def cmpS (a b:List UInt8):Int:=if Op.bytesLess a b then -1 else if a=b then 0 else 1
def Ix (a b:List UInt8):Int:=
 if vld a && vld b then
  let k:=Kz (lbl a) (lbl b)
  if k<(lbl a).length∧k<(lbl b).length then cmpS ((lbl a).getD ((lbl a).length - 1 - k) []) ((lbl b).getD ((lbl b).length - 1 - k) [])
  else if (lbl a).length<(lbl b).length then -1 else if (lbl b).length<(lbl a).length then 1 else 0
 else if vld a then -1 else if vld b then 1 else cmpS a b
end Go.X.G
/- The library's functions on strings. -/
namespace Go.X.G
open Go Go.X
def Fq8 (x:List UInt8) (c:UInt8):S Az1 2 [.s x, .i .u8 (c.toNat:Int)]=some [.i .i64 (x.count c:Int)]:=
 Fm7 (args:=[.s x, .i .u8 (c.toNat:Int)]) (by simp [XK.run,Am9,Lib.countByte])
def Es8 (x:List UInt8) (c:UInt8):S Az4 2 [.s x, .i .u8 (c.toNat:Int)]=some [.i .i64 (Lib.indexByte x c)]:=
 Fm8 (args:=[.s x, .i .u8 (c.toNat:Int)]) (by simp [XK.run,Am9])
def Fq9 (x y:List UInt8):S Az5 2 [.s x, .s y]=some [.i .i64 (Lib.compareBytes x y)]:=
 Fn9 (args:=[.s x, .s y]) (by simp [XK.run,Dc1])
def Qw (x:List UInt8) (c:UInt8):S Xp 2 [.s x, .i .u8 (c.toNat:Int)]=some [.i .i64 (Lib.indexByte x c)]:=by refine Fn8 (N:=1) rfl ?_;simp (disch:=omega) only [Fb9,Es8,xe,EVP,EV,simprocAttr]
def ov (x:List UInt8) (c:UInt8):S kf 2 [.s x, .i .u8 (c.toNat:Int)]=some [.i .i64 (Lib.indexByte x c)]:=by refine Fr7 (N:=1) rfl ?_;simp (disch:=omega) only [Fc6,Qw,xe,EVP,EV,simprocAttr]
def Oj (c:UInt8):∀(x:List UInt8),c∉x→Lib.indexByte x c= -1
 |[],_=>rfl
 |b::l,h=>by have h1:b≠c:=fun e=>h (by simp [e]);have h2:=Oj c l (fun e=>h (by simp [e]));simp [Lib.indexByte,h1,h2]
def Kx (c:UInt8) (post:List UInt8):∀(pre:List UInt8),c∉pre→Lib.indexByte (pre++c::post) c=(pre.length:Int)
 |[],_=>by simp [Lib.indexByte]
 |b::l,h=>by
  have h1:b≠c:=fun e=>h (by simp [e]);have h2:=Kx c post l (fun e=>h (by simp [e]));simp only [B7,Lib.indexByte,h2];simp [h1]
  try omega
def dot_split (c:UInt8):∀(s:List UInt8),c∉s∨∃pre post,s=pre++c::post∧c∉pre
 |[]=> .inl (by simp)
 |b::l=>by
  by_cases h:b=c
  ·exact .inr ⟨[],l,by simp [h],by simp⟩
  ·rcases dot_split c l with h1|⟨pre,post,rfl,h2⟩
   ·exact .inl (by simp [h1,Ne.symm h])
   ·exact .inr ⟨b::pre,post,by simp,by simp [h2,Ne.symm h]⟩
def pcs (cur:List UInt8):List UInt8→List (List UInt8)
 |[]=>[cur]
 |c::r=>if c=46 then cur::pcs [] r else pcs (cur++[c]) r
def cut (s:List UInt8):List (List UInt8):=pcs [] s
def Ck4 (post:List UInt8):∀(pre cur:List UInt8),(46:UInt8)∉pre→pcs cur (pre++46::post)=(cur++pre)::pcs [] post
 |[],cur,_=>by simp [pcs]
 |b::l,cur,h=>by have h1:b≠46:=fun e=>h (by simp [e]);have h2:=Ck4 post l (cur++[b]) (fun e=>h (by simp [e]));simp [pcs,h1,h2]
def Z6:∀(s cur:List UInt8),(46:UInt8)∉s→pcs cur s=[cur++s]
 |[],cur,_=>by simp [pcs]
 |b::l,cur,h=>by have h1:b≠46:=fun e=>h (by simp [e]);have h2:=Z6 l (cur++[b]) (fun e=>h (by simp [e]));simp [pcs,h1,h2]
def Cl0 (s:List UInt8):(cut s).length=s.count 46+1:=by
 have:∀(s cur:List UInt8),(pcs cur s).length=s.count 46+1:=by
  intro s
  induction s with
  |nil=>intro cur;rfl
  |cons c r ih=>
   intro cur;by_cases h:c=46<;>simp [pcs,h,ih]
 exact this s []
def Bx2 (s:List UInt8) (hs:s.length≤9223372036854775807):S jt 2 [.s s, .s [46]]=some [.i .i64 (Lib.indexByte s 46)]:=by
 refine Fm6 (N:=1) rfl ?_;have h1:=Qw s 46;have e:(((46:UInt8).toNat:Nat):Int)=46:=rfl;rw [e] at h1;by_cases h:[46]=s
 ·subst h;simp (disch:=omega) only [Ej3,xe,EVP,EV,simprocAttr];rfl
 ·simp (disch:=omega) only [Ej3,h,h1,e,xe,EVP,EV,simprocAttr]
def oq (s:List UInt8) (hs:s.length≤9223372036854775807):S Xm 2 [.s s, .s [46]]=some [.i .i64 (Lib.indexByte s 46)]:=by refine Fn5 (N:=1) rfl ?_;simp (disch:=omega) only [Fb7,Bx2,xe,EVP,EV,simprocAttr]
def Cs4 (s:List UInt8):S j8 2 [.s s, .s [46]]=some [.i .i64 (s.count 46:Int)]:=by refine Fn6 (N:=1) rfl ?_;have h1:=Fq8 s 46;have e:(((46:UInt8).toNat:Nat):Int)=46:=rfl;rw [e] at h1;simp (disch:=omega) only [Fb8,h1,e,xe,EVP,EV,simprocAttr]
def Cf6 (done rest:List (List UInt8)):Out:=
 .yld 0 [.s ((done++rest).getLastD []),Bm ((done++rest).dropLast++[[]]), .i .i64 (((done++rest).length:Int) - 1)]
def tt (s:List UInt8) (N:Nat) (hN:s.length<N) (hs:s.length≤1000000) (p q:PV):
  tj.ev S N [.s s, .s [46], .i .i64 0,p, .i .i64 ((s.count 46:Int)+1)]=some (Cf6 [] (cut s)):=by
 have hc0:s.count 46≤s.length:=List.count_le_length;have key:=Kc (fn:=S) (N:=N) (η:=[.s s, .s [46], .i .i64 0,p, .i .i64 ((s.count 46:Int)+1)]) (id:=1) (init:=[(.v 0),(.rep 1 (.mn (.v 4) (.bin .add (.slen (.v 0)) (.c (.i .i64 (1))))) (.c (.s []))),(.c (.i .i64 (0)))]) (body:=xz) (α:=List (List UInt8)×List UInt8)
  (fun a=>[.s a.2,Bm (a.1++List.replicate (a.2.count 46+1) []), .i .i64 (a.1.length:Int)]) (fun a=>Cf6 a.1 (cut a.2)) (fun a=>a.1.length+a.2.count 46=s.count 46∧a.2.length≤s.length) (fun a=>a.2.length) ([],s) ?_ ⟨by simp,Af _⟩ hN ?_
 ·simpa [tj] using key
 ·have e:((s.count 46:Int)+1).toNat=s.count 46+1:=by omega
  simp (disch:=omega) only [e,xe,EVP,EV,simprocAttr]
 ·rintro ⟨done,rest⟩ ⟨h1,h2⟩;simp only at h1 h2 ⊢;rcases dot_split 46 rest with h|⟨pre,post,rfl,h⟩
  ·right;have c0:rest.count 46=0:=Gt6.2 h;have i0:=Oj 46 rest h;have cu:cut rest=[rest]:=by simpa [cut] using Z6 rest [] h
   refine ⟨?_,rfl⟩;rw [c0];rw [c0] at h1;simp (disch:=omega) only [Bc3,oq,i0,xe,EVP,EV,simprocAttr];simp [Cf6,cu,List.getLastD_eq_getLast?]
  ·left;have c0:(pre++46::post).count 46=post.count 46+1:=by rw [List.count_append,Gt6.2 h];simp
   have i0:=Kx 46 post pre h;have cu:cut (pre++46::post)=pre::cut post:=by simpa [cut] using Ck4 post pre [] h
   have hl:(pre++46::post).length=pre.length+post.length+1:=by simp;omega
   have sl1:List.drop (0:Int).toNat (List.take ((pre.length:Int)+0).toNat (pre++46::post))=pre:=by simp
   have sl2:List.drop ((pre.length:Int)+1).toNat (List.take (pre++46::post).length (pre++46::post))=post:=by
    have:((pre.length:Int)+1).toNat=pre.length+1:=by omega
    rw [this,Dj,List.drop_append];simp
   have sl3:(done++[]::[]::List.replicate (post.count 46) ([]:List UInt8)).length=done.length+post.count 46+2:=by simp;omega
   refine ⟨(done++[pre],post),?_,⟨by simp;omega,by simp only;omega⟩,by simp;omega,by simp [Cf6,cu]⟩;rw [c0];rw [c0] at h1;simp (disch:=omega) only [Bc3,oq,i0,sl1,sl2,xe,EVP,EV,simprocAttr];simp [List.replicate_succ,List.set_append]
def tp (s:List UInt8) (hs:s.length≤1000000):S kz 4 [.s s, .s [46], .i .i64 0, .i .i64 (-1)]=some [Bm (cut s)]:=by
 refine Fr4 (N:=s.length+1) rfl ?_;have h1:=Cl0 s;have h2:s.count 46≤s.length:=List.count_le_length;obtain ⟨l,x,hx⟩:∃l x,cut s=l++[x]:=⟨(cut s).dropLast,(cut s).getLast (by intro e;simp [e] at h1),(List.dropLast_concat_getLast _).symm⟩;have h3:l.length=s.count 46:=by rw [hx] at h1;simpa using h1
 have h4:((l.length:Int)+1 - 1)=(l.length:Int):=by omega
 have h5:((l++[([]:List UInt8)]).length:Int)=l.length+1:=by simp
 have h6:((l++[x]).length:Int)=l.length+1:=by simp
 have g1:(l++[([]:List UInt8)])[l.length]? =some []:=by simp
 have g2:(l++[x]).getLastD []=x:=by simp [List.getLastD_eq_getLast?]
 have g3:(l++[([]:List UInt8)]).set l.length x=l++[x]:=by simp
 have hk:=tt s (s.length+1) (by omega) hs (.i .i64 (-1)) .u;rw [hx] at hk ⊢;simp only [Cf6,Cg,List.dropLast_concat] at hk;simp (disch:=omega) only [Bc3,Cs4,hk,h4,h6,g1,g2,g3,xe,EVP,EV,simprocAttr];have g4:((l.length:Int)+1).toNat=(l++[x]).length:=by simp
 rw [g4,Dj];rfl
def nr (s:List UInt8) (hs:s.length≤1000000):S Yk 2 [.s s, .s [46]]=some [Bm (cut s)]:=by refine Ft5 (N:=1) rfl ?_;simp (disch:=omega) only [Fd3,tp,xe,EVP,EV,simprocAttr]
def Qx (s t:List UInt8) (hs:s.length≤9223372036854775807):S X1 2 [.s s, .s t]=some [.b (t.isSuffixOf s)]:=by
 refine Fr5 (N:=1) rfl ?_;by_cases h:t.length≤s.length
 ·have e:((s.length:Int) - (t.length:Int)).toNat=s.length - t.length:=by omega
  simp (disch:=omega) only [Ej8,e,xe,EVP,EV,simprocAttr];simp only [Dj];congr 4;rw [Cp,Fg,decide_eq_true_eq];refine ⟨fun h=>h▸List.drop_suffix _ _,fun h=> ?_⟩;obtain ⟨p,rfl⟩:=h;simp
 ·have h2:t.isSuffixOf s=false:=by rw [Ef,ne_eq,Fg];exact fun h'=>h h'.length_le
  simp (disch:=omega) only [Ej8,h2,xe,EVP,EV,simprocAttr]
def M5 (s t:List UInt8) (hs:s.length≤9223372036854775807):S Yq 2 [.s s, .s t]=some [.b (t.isSuffixOf s)]:=by refine Ft6 (N:=1) rfl ?_;simp (disch:=omega) only [Fd4,Qx,xe,EVP,EV,simprocAttr]
def yw (x y:List UInt8):S kg 2 [.s x, .s y]=some [.i .i64 (Lib.compareBytes x y)]:=by refine Fs0 (N:=1) rfl ?_;simp (disch:=omega) only [Fc7,Fq9,xe,EVP,EV,simprocAttr]
def yj (x y:List UInt8):S jf 2 [.s x, .s y]=some [.i .i64 (Lib.compareBytes x y)]:=by refine Hx3 (N:=1) rfl ?_;simp (disch:=omega) only [Hj0,yw,xe,EVP,EV,simprocAttr]
end Go.X.G
/- Names and their labels. -/
namespace Go.X.G
open Go Go.X
def flat (l:List (List UInt8)):List UInt8:=l.flatMap fun x=>x++[46]
def jn (l:List (List UInt8)):List UInt8:=if l=[] then [46] else flat l
def F8 (first:Bool):List (List UInt8)→Bool
 |[]=>true
 |p::r=>N1 p && (!decide (p=[42])||first) && F8 false r
def Es0:Wm 46=false:=by decide
def Md {p:List UInt8} (h:N1 p=true):(46:UInt8)∉p:=by
 unfold N1 at h;simp at h;rcases h with rfl|⟨_,h⟩
 ·decide
 ·intro h2;have:=h 46 h2;rw [Es0] at this;cases this
def Ab9 {p:List UInt8} (h:N1 p=true):p≠[]:=by rintro rfl;simp [N1] at h
def Ij {p:List UInt8}:∀{f:Bool} {l:List (List UInt8)},F8 f l=true→p∈l→N1 p=true
 |f,q::r,h,hp=>by
  simp only [F8,Av] at h;rcases Am.1 hp with rfl|hp
  ·exact h.1.1
  ·exact Ij h.2 hp
def Bk7:∀{l:List (List UInt8)},F8 false l=true→F8 true l=true
 |[],_=>rfl
 |p::r,h=>by simp only [F8,Av] at h ⊢;exact ⟨⟨h.1.1,by simp⟩,h.2⟩
def P1:∀{f:Bool} {a b:List (List UInt8)},F8 f (a++b)=(F8 f a && F8 (f && a.isEmpty) b)
 |f,[],b=>by simp [F8]
 |f,p::r,b=>by simp only [B7,F8,P1 (a:=r)];simp [Bool.and_assoc]
def Bk8 {f:Bool} {l:List (List UInt8)} (h:F8 f l=true) (k:Nat):F8 f (l.drop k)=true:=by
 rw [←Br k l,P1,Av] at h;have h2:=h.2;cases f with
 |false=>simpa using h2
 |true=>
  cases he:(l.take k).isEmpty with
  |true=>rw [he] at h2;exact h2
  |false=>rw [he] at h2;exact Bk7 h2
def T6:∀(m:List UInt8) (f:Bool) (cur:List UInt8),spl f cur (m++[46])=if F8 f (pcs cur m)=true then some (pcs cur m) else none
 |[],f,cur=>by simp only [Cg,spl,if_true,pcs,F8,A7,Qg];by_cases h:N1 cur=true<;>by_cases h2:cur=[42]<;>cases f<;>simp [h,h2]
 |c::r,f,cur=>by
  simp only [B7,spl,pcs];by_cases hc:c=46
  ·simp only [if_pos hc];rw [T6 r false []];simp only [F8];by_cases h:N1 cur=true<;>by_cases h2:cur=[42]<;>cases f<;>by_cases h3:F8 false (pcs [] r)=true<;>simp [h,h2,h3]
  ·simp only [if_neg hc];exact T6 r f (cur++[c])
def Ub (b:List UInt8):∀(a cur:List UInt8),pcs cur (a++46::b)=pcs cur a++cut b
 |[],cur=>by simp [pcs,cut]
 |c::r,cur=>by
  simp only [B7,pcs];split
  ·rw [Ub b r []];rfl
  ·exact Ub b r _
def Tv:∀(m cur:List UInt8),flat (pcs cur m)=cur++m++[46]
 |[],cur=>by simp [pcs,flat]
 |c::r,cur=>by
  simp only [pcs];split
  ·rename_i h;have:=Tv r [];simp only [flat,Jr] at this ⊢;rw [this,h];simp
  ·rw [Tv r (cur++[c])];simp
def Nh (a b:List (List UInt8)):flat (a++b)=flat a++flat b:=by simp [flat]
def Gk8 (cur m:List UInt8):pcs cur m≠[]:=by
 cases m with
 |nil=>simp [pcs]
 |cons c r=>
  simp only [pcs];split
  ·simp
  ·intro h;have:=Tv r (cur++[c]);rw [h] at this;simp [flat] at this
def Tz:∀(l:List (List UInt8)),(∀p∈l,(46:UInt8)∉p)→cut (flat l)=l++[[]]
 |[],_=>rfl
 |p::l,h=>by
  have h1:flat (p::l)=p++46::flat l:=by simp [flat]
  rw [h1];show pcs [] _=_;rw [Ub,Z6 p [] (h p (by simp)),Tz l (fun q hq=>h q (by simp [hq]))];simp
def Kg:∀(l:List (List UInt8)),l≠[]→∃m,flat l=m++[46]
 |[p],_=>⟨p,by simp [flat]⟩
 |p::q::r,_=>by obtain ⟨m,hm⟩:=Kg (q::r) (by simp);exact ⟨p++[46]++m,by simp only [flat,Jr] at hm ⊢;rw [hm];simp⟩
def Ad2 {l:List (List UInt8)} (hl:l≠[]) (h:∀p∈l,(46:UInt8)∉p) {m:List UInt8} (hm:flat l=m++[46]):cut m=l:=by
 have h1:=Tz l h;rw [hm] at h1;have h2:cut (m++[46])=cut m++[[]]:=by show pcs [] (m++46::[])=_;rw [Ub];rfl
 rw [h2] at h1;exact Qd h1
def Hw {l:List (List UInt8)} (h:F8 true l=true) (hl:l≠[]):2≤(flat l).length:=by
 cases l with
 |nil=>exact absurd rfl hl
 |cons p r=>
  have h1:=Ab9 (Ij h (Gr ..));have:0<p.length:=Bb.2 h1;simp [flat];omega
def Ep1 {l:List (List UInt8)} (h:F8 true l=true) (hl:l≠[]) (hlen:(flat l).length≤254):nm (flat l)=some l:=by obtain ⟨m,hm⟩:=Kg l hl;have h1:=Ad2 hl (fun p hp=>Md (Ij h hp)) hm;have h2:=Hw h hl;unfold nm;rw [if_neg (by intro e;rw [e] at h2;simp at h2),if_pos ⟨h2,hlen,by rw [hm];simp⟩,hm,T6];have:pcs [] m=l:=h1;rw [this,if_pos h]
def Ep0 {n:List UInt8} {l:List (List UInt8)} (h:nm n=some l):(n=[46]∧l=[])∨(l≠[]∧F8 true l=true∧n=flat l∧n.length≤254):=by
 unfold nm at h;split at h
 ·rename_i e;injection h with h;exact .inl ⟨e,h.symm⟩
 ·split at h
  ·rename_i h1;right;obtain ⟨h2,h3,h4⟩:=h1;obtain ⟨m,hm⟩:∃m,n=m++[46]:=by
    refine ⟨n.dropLast,?_⟩;have:n≠[]:=by intro e;simp [e] at h2
    have h5:=List.dropLast_concat_getLast this;rw [←h5];congr 1
    ·simp
    ·have h6:n[n.length - 1]? =some (n.getLast this):=by rw [Jn];exact Ay _
     rw [h6] at h4;injection h4 with h4;simp [h4]
   rw [hm,T6] at h;split at h
   ·rename_i h5;injection h with h;subst h;refine ⟨Gk8 _ _,h5,?_,by omega⟩;rw [Tv,hm];simp
   ·cases h
  ·cases h
def Ef6 {n:List UInt8}:vld n=true↔nm n=some (lbl n):=by unfold vld lbl;cases nm n<;>simp
def vld_cases {n:List UInt8} (h:vld n=true):(n=[46]∧lbl n=[])∨(lbl n≠[]∧F8 true (lbl n)=true∧n=flat (lbl n)∧n.length≤254):=Ep0 (Ef6.1 h)
def S4 {n:List UInt8} (h:vld n=true):F8 true (lbl n)=true:=by
 rcases vld_cases h with ⟨_,h⟩|⟨_,h,_⟩
 ·rw [h];rfl
 ·exact h
def L5 {n:List UInt8} (h:vld n=true):n=jn (lbl n):=by
 unfold jn;rcases vld_cases h with ⟨h1,h2⟩|⟨h1,_,h2,_⟩
 ·rw [h2,if_pos rfl];exact h1
 ·rw [if_neg h1];exact h2
def Gs {n:List UInt8} (h:vld n=true):n.length≤254:=by
 rcases vld_cases h with ⟨h1,_⟩|⟨_,_,_,h⟩
 ·simp [h1]
 ·exact h
def It:lbl [46]=[]:=rfl
def mr {l:List (List UInt8)} (h:F8 true l=true) (hl:l≠[]):flat l≠[46]:=by intro e;have:=Hw h hl;rw [e] at this;simp at this
def U1 {n:List UInt8} (h:vld n=true):lbl n=[]↔n=[46]:=by
 rcases vld_cases h with ⟨h1,h2⟩|⟨h1,h2,h3,_⟩
 ·simp [h1,It]
 ·constructor
  ·intro e;exact absurd e h1
  ·intro e;rw [h3] at e;exact absurd e (mr h2 h1)
def Ff9 {l:List (List UInt8)} (h:F8 true l=true) (hlen:(flat l).length≤254):vld (jn l)=true∧lbl (jn l)=l:=by
 unfold jn;by_cases hl:l=[]
 ·subst hl;exact ⟨rfl,rfl⟩
 ·rw [if_neg hl];have:=Ep1 h hl hlen;exact ⟨by simp [vld,this],by simp [lbl,this]⟩
def Mb {a b:List UInt8} (ha:vld a=true) (hb:vld b=true) (h:lbl a=lbl b):a=b:=by rw [L5 ha,L5 hb,h]
def cq (l:List (List UInt8)) (k:Nat):(flat (l.drop k)).length≤(flat l).length:=by
 have:flat l=flat (l.take k)++flat (l.drop k):=by rw [←Nh,Br]
 rw [this,Ac];omega
def Ir {n:List UInt8} (h:vld n=true) (k:Nat):vld (jn ((lbl n).drop k))=true∧lbl (jn ((lbl n).drop k))=(lbl n).drop k:=by
 refine Ff9 (Bk8 (S4 h) k) ?_;rcases vld_cases h with ⟨_,h1⟩|⟨_,_,h1,h2⟩
 ·rw [h1];simp [flat]
 ·have:=cq (lbl n) k;rw [←h1] at this;omega
def O8 {n:List UInt8} (h:vld n=true):0<n.length:=by
 rcases vld_cases h with ⟨h1,_⟩|⟨h1,h2,h3,_⟩
 ·simp [h1]
 ·have:=Hw h2 h1;rw [h3];omega
end Go.X.G
/- Names: what the program's functions give. -/
namespace Go.X.G
open Go Go.X
def ord (s:List UInt8):Bool:=decide (1≤s.length) && decide (s.length≤63) && s.all Wm
def Cd8 (s:List UInt8):N1 s=(decide (s=[42])||ord s):=rfl
def Dg0:ord [42]=false:=by decide
def rk (s:List UInt8) (N:Nat) (hN:s.length<N) (hs:s.length≤9223372036854775807):
  Cc7.ev S N [.s s]=some (if s.all Wm=true then .yld 0 [] else .ret [.b false]):=by
 refine E9 s (fun i=>[.i .i64 (i:Int)]) (fun i r=>if r.all Wm=true then .yld 0 [] else .ret [.b false]) rfl hN (fun i c r hd hi hc=> ?_) ?_
 ·have key:xl.ev S N ([.s s]++[.i .i64 (i:Int)])=some (if Wm c=true then .yld 1 [.i .i64 ((i:Int)+1)] else .ret [.b false]):=by
   simp (disch:=omega) only [fh,hc,xe,EVP,EV,simprocAttr];unfold Wm
   grind
  rw [key];rcases Ak (Wm c) with h|h<;>simp [h,Out.goes]
 ·simp (disch:=omega) [fh,xe,EVP,EV,simprocAttr,Out.goes]
def K7 (s:List UInt8) (hs:s.length≤9223372036854775807):S lz 1 [.s s]=some [.b (ord s)]:=by
 refine Ft4 (N:=s.length+1) rfl ?_;unfold ord;by_cases h1:s=[]
 ·subst h1;simp (disch:=omega) [fh,xe,EVP,EV,simprocAttr]
 ·have h2:1≤s.length:=Bb.2 h1;by_cases h3:s.length≤63
  ·simp (disch:=omega) only [fh,rk,h1,xe,EVP,EV,simprocAttr];cases s.all Wm<;>simp [h2,h3]
  ·simp (disch:=omega) only [fh,h1,xe,EVP,EV,simprocAttr];simp [h3]
def okP (i:Nat) (p:List UInt8):Bool:=ord p||(decide (i=0) && decide (p=[42]))
def Dg9:Nat→List (List UInt8)→Bool
 |_,[]=>true
 |i,p::r=>okP i p && Dg9 (i+1) r
def jw:∀(l:List (List UInt8)) (i:Nat),Dg9 i l=F8 (decide (i=0)) l
 |[],_=>rfl
 |p::r,i=>by
  have h1:=jw r (i+1);simp only [Dg9,F8,h1,okP,Cd8];by_cases h2:p=[42]
  ·subst h2;by_cases h3:i=0<;>simp [Dg0,h3]
  ·simp [h2]
def Cr5 (p q:PV) (l:List (List UInt8)) (hl:l.length≤1000000) (hw:∀x∈l,x.length≤9223372036854775807) (N:Nat) (hN:l.length<N):
  Ex9.ev S N [p,q,Bm l]=some (if Dg9 0 l=true then .yld 0 [] else .ret [.b false]):=by
 refine E9 l (fun i=>[.i .i64 (i:Int)]) (fun i r=>if Dg9 i r=true then .yld 0 [] else .ret [.b false]) rfl hN (fun i c r hd hi hc=> ?_) ?_
 ·have hcw:=hw c (A4 hc);have key:Cp8.ev S N ([p,q,Bm l]++[.i .i64 (i:Int)])=some (if okP i c=true then .yld 1 [.i .i64 ((i:Int)+1)] else .ret [.b false]):=by
   rcases Ak (ord c) with h1|h1
   ·simp (disch:=omega) only [Zb,K7,hc,h1,xe,EVP,EV,simprocAttr];simp [okP,h1]
   ·by_cases h2:i=0
    ·subst h2;by_cases h3:c=[42]
     ·subst h3;simp (disch:=omega) only [Zb,K7,hc,h1,xe,EVP,EV,simprocAttr];simp [okP]
     ·simp (disch:=omega) only [Zb,K7,hc,h1,h3,xe,EVP,EV,simprocAttr];simp [okP,h1,h3]
    ·simp (disch:=omega) only [Zb,K7,hc,h1,xe,EVP,EV,simprocAttr];simp [okP,h1,h2]
  rw [key];rcases Ak (okP i c) with h|h<;>simp [h,Dg9,Out.goes]
 ·simp (disch:=omega) only [Zb,xe,EVP,EV,simprocAttr];simp [Out.goes,Dg9]
def Z7:∀(m cur:List UInt8) (x:List UInt8),x∈pcs cur m→x.length≤cur.length+m.length
 |[],cur,x,h=>by simp [pcs] at h;subst h;simp
 |c::r,cur,x,h=>by
  simp only [pcs] at h;split at h
  ·rcases Am.1 h with rfl|h
   ·omega
   ·have:=Z7 r [] x h;simp at this ⊢;omega
  ·have:=Z7 r _ x h;simp at this ⊢;omega
def Dr4 (m x:List UInt8) (h:x∈cut m):x.length≤m.length:=by simpa using Z7 m [] x h
def Gn8 (m:List UInt8):(cut m).length≤m.length+1:=by have:=Cl0 m;have:m.count 46≤m.length:=List.count_le_length;omega
def Bf0 (n:List UInt8):([46]:List UInt8).isSuffixOf n=true↔∃m,n=m++[46]:=by rw [Fg];exact ⟨fun ⟨m,h⟩=>⟨m,h.symm⟩,fun ⟨m,h⟩=>⟨m,h.symm⟩⟩
def Dk1 (m:List UInt8) (hm:m≠[]) (hl:m.length≤253):vld (m++[46])=Dg9 0 (cut m):=by have h1:m++[46]≠[46]:=fun e=>hm (Qd (bs:=[46]) (by simpa using e));have h2:0<m.length:=Bb.2 hm;unfold vld nm;rw [if_neg h1,if_pos ⟨by simp;omega,by simp;omega,by simp⟩,T6,jw];have e:pcs [] m=cut m:=rfl;have e2:F8 (decide ((0:Nat)=0)) (cut m)=F8 true (cut m):=rfl;rw [e,e2];cases F8 true (cut m)<;>rfl
def Dm0 (m:List UInt8) (h:vld (m++[46])=true) (hm:m≠[]):lbl (m++[46])=cut m:=by
 rcases vld_cases h with ⟨h1,_⟩|⟨h1,h2,h3,_⟩
 ·exact absurd (Qd (bs:=[46]) (by simpa using h1)) hm
 ·exact (Ad2 h1 (fun p hp=>Md (Ij h2 hp)) h3.symm).symm
def B3 (n:List UInt8) (hn:n.length≤9223372036854775807):S Jh 1 [.s n]=some [.b (vld n)]:=by
 refine Hz3 (N:=300) rfl ?_;by_cases h0:n=[46]
 ·subst h0;simp (disch:=omega) only [Zb,xe,EVP,EV,simprocAttr];rfl
 ·by_cases h1:255≤n.length
  ·have hv:vld n=false:=by rw [Ef];intro h;have:=Gs h;omega
   simp (disch:=omega) only [Zb,h0,hv,xe,EVP,EV,simprocAttr]
  ·rcases Ak (([46]:List UInt8).isSuffixOf n) with h2|h2
   ·obtain ⟨m,rfl⟩:=(Bf0 n).1 h2;have hm:m≠[]:=fun e=>h0 (by simp [e]);have hl:(m++[46]).length=m.length+1:=by simp
    have hml:m.length≤1000000:=by omega
    have e:List.drop 0 (List.take (((m++[46]).length:Int) - 1).toNat (m++[46]))=m:=by
     have:(((m++[46]).length:Int) - 1).toNat=m.length:=by omega
     rw [this];simp
    have hc:=Gn8 m;have hv:=Dk1 m hm (by omega);have hk:=Cr5 (.s (m++[46])) (.b true) (cut m) (by omega) (fun x hx=>by have:=Dr4 m x hx;omega) 300 (by omega);simp (disch:=omega) only [Zb,M5,nr,e,hk,h0,h2,xe,EVP,EV,simprocAttr];rw [hv];cases Dg9 0 (cut m)<;>simp
   ·have hv:vld n=false:=by
     rw [Ef];intro h;rcases vld_cases h with ⟨h3,_⟩|⟨h3,_,h5,_⟩
     ·exact h0 h3
     ·obtain ⟨m,hm⟩:=Kg _ h3;have:=(Bf0 n).2 ⟨m,h5.trans hm⟩;rw [h2] at this;cases this
    simp (disch:=omega) only [Zb,M5,h0,h2,hv,xe,EVP,EV,simprocAttr]
def Rb (n:List UInt8) (hn:n.length≤9223372036854775807):S rh 1 [.s n]=some [Bm (lbl n)]:=by
 refine Hx2 (N:=1) rfl ?_;by_cases h0:n=[46]
 ·subst h0;simp (disch:=omega) only [Ed8,It,xe,EVP,EV,simprocAttr]
 ·rcases Ak (vld n) with h1|h1
  ·obtain ⟨m,hm,rfl⟩:∃m,m≠[]∧n=m++[46]:=by
    rcases vld_cases h1 with ⟨h3,_⟩|⟨h3,_,h5,_⟩
    ·exact absurd h3 h0
    ·obtain ⟨m,hm⟩:=Kg _ h3;exact ⟨m,fun e=>h0 (by rw [h5,hm,e];rfl),h5.trans hm⟩
   have hl:(m++[46]).length=m.length+1:=by simp
   have e:List.drop 0 (List.take (((m++[46]).length:Int) - 1).toNat (m++[46]))=m:=by
    have:(((m++[46]).length:Int) - 1).toNat=m.length:=by omega
    rw [this];simp
   have hl2:=Gs h1;have e2:=Dm0 m h1 hm;simp (disch:=omega) only [Ed8,B3,nr,e,e2,h0,h1,xe,EVP,EV,simprocAttr]
  ·have e:lbl n=[]:=by
    unfold lbl;unfold vld at h1;cases h:nm n with
    |none=>rfl
    |some l=>rw [h] at h1;cases h1
   simp (disch:=omega) only [Ed8,B3,h0,h1,e,xe,EVP,EV,simprocAttr]
def P5 (p:List UInt8) (l:List (List UInt8)):flat (p::l)=p++46::flat l:=by simp [flat]
def Q5 (n:List UInt8):List UInt8:=if vld n=true∧n≠[46] then jn ((lbl n).drop 1) else []
def Ac0 (n:List UInt8):Bool:=vld n && !decide (n=[46])
def N0 (n:List UInt8) (hn:n.length≤9223372036854775807):S R5 1 [.s n]=some [.s (Q5 n), .b (Ac0 n)]:=by
 refine Ft8 (N:=1) rfl ?_;unfold Q5 Ac0;by_cases h0:n=[46]
 ·subst h0;simp (disch:=omega) only [yr,xe,EVP,EV,simprocAttr];simp
 ·rcases Ak (vld n) with h1|h1
  ·rcases vld_cases h1 with ⟨h3,_⟩|⟨h3,h4,h5,h6⟩
   ·exact absurd h3 h0
   ·cases hl:lbl n with
    |nil=>exact absurd hl h3
    |cons p r=>
     rw [hl] at h4 h5;have hp:=Md (Ij h4 (Gr ..));have hi:=ov n 46;have hc:(((46:UInt8).toNat:Nat):Int)=46:=rfl;have hx:Lib.indexByte n 46=(p.length:Int):=by rw [h5,P5];exact Kx 46 _ p hp
     rw [hc,hx] at hi;have hlen:n.length=p.length+1+(flat r).length:=by rw [h5,P5];simp;omega
     have e:List.drop ((p.length:Int)+1).toNat (List.take n.length n)=flat r:=by
      have:((p.length:Int)+1).toNat=p.length+1:=by omega
      rw [this,Dj,h5,P5];simp
     by_cases h7:r=[]
     ·subst h7;have e2:flat []=[]:=rfl;simp (disch:=omega) only [yr,B3,hi,e,e2,h0,h1,xe,EVP,EV,simprocAttr];simp [jn]
     ·have e2:¬flat r=[]:=by obtain ⟨m,hm⟩:=Kg r h7;rw [hm];simp
      simp (disch:=omega) only [yr,B3,hi,e,e2,h0,h1,xe,EVP,EV,simprocAttr];simp [jn,h7]
  ·simp (disch:=omega) only [yr,B3,h0,h1,xe,EVP,EV,simprocAttr];simp
def uv (n top:List UInt8):Bool:=(decide (top=[46])||decide (n=top))||(46::top).isSuffixOf n
def cm (n top:List UInt8) (hn:n.length≤9223372036854775807) (ht:top.length≤1000000):S rl 2 [.s n, .s top]=some [.b (uv n top)]:=by
 refine Hx4 (N:=1) rfl ?_;unfold uv;have h0:([46]:List UInt8).length=1:=rfl;by_cases h1:top=[46]<;>by_cases h2:n=top<;>simp (disch:=omega) only [Hj1,M5,h1,h2,xe,EVP,EV,simprocAttr]
 all_goals simp
def uj {a b:List (List UInt8)} (ha:F8 true a=true) (hb:F8 true b=true) (h:(46::flat b)<:+flat a):b<:+a:=by obtain ⟨p,hp⟩:=h;have h1:=Tz a (fun x hx=>Md (Ij ha hx));have h2:=Tz b (fun x hx=>Md (Ij hb hx));rw [←hp] at h1;have h3:cut (p++46::flat b)=cut p++cut (flat b):=Ub (flat b) p [];rw [h3,h2,←As] at h1;exact ⟨cut p,Qd h1⟩
def Ac7 {n top:List UInt8} (hn:vld n=true) (ht:vld top=true):uv n top=true↔lbl top<:+lbl n:=by
 unfold uv;simp only [An,decide_eq_true_eq,Fg];constructor
 ·rintro ((rfl|rfl)|h)
  ·rw [It];exact List.nil_suffix
  ·exact List.suffix_refl _
  ·rcases vld_cases ht with ⟨h1,h2⟩|⟨h1,h2,h3,_⟩
   ·rw [h2];exact List.nil_suffix
   ·rcases vld_cases hn with ⟨h5,_⟩|⟨h5,h6,h7,_⟩
    ·rw [h5] at h;have h9:=h.length_le;have h8:=Hw h2 h1;rw [←h3] at h8;simp only [A6,Bh] at h9;omega
    ·rw [h3,h7] at h;exact uj h6 h2 h
 ·intro h;obtain ⟨p,hp⟩:=h;rcases vld_cases ht with ⟨h1,h2⟩|⟨h1,h2,h3,_⟩
  ·exact .inl (.inl h1)
  ·by_cases hp0:p=[]
   ·left;right;subst hp0;exact Mb hn ht hp.symm
   ·right;rcases vld_cases hn with ⟨_,h5⟩|⟨h5,h6,h7,_⟩
    ·rw [h5] at hp;exact absurd (List.append_eq_nil_iff.1 hp).1 hp0
    ·obtain ⟨m,hm⟩:=Kg p hp0;rw [h7,←hp,Nh,hm];exact ⟨m,by rw [As,←h3];simp⟩
def Vp {α:Type} [DecidableEq α]:∀(a b:List α),Vr a b=b.length↔b<+:a
 |[],[]=>by simp [Vr]
 |[],y::ys=>by simp [Vr]
 |x::xs,[]=>by simp [Vr]
 |x::xs,y::ys=>by
  have:=Vp xs ys;simp only [Vr];split
  ·rename_i h;subst h;simp [this,H4]
  ·rename_i h;simp [H4,Ne.symm h]
def iy (a b:List (List UInt8)):Kz a b=b.length↔b<:+a:=by unfold Kz;have:=Vp a.reverse b.reverse;rw [List.length_reverse] at this;rw [this,Ed0]
def By {n top:List UInt8}:under n top=true↔vld n=true∧vld top=true∧lbl top<:+lbl n:=by unfold under;simp [iy,and_assoc]
def W5 {n top:List UInt8} (hn:vld n=true) (ht:vld top=true):uv n top=under n top:=by rw [Cp,Ac7 hn ht,By];simp [hn,ht]
def Ec (n top:List UInt8) (hn:n.length≤9223372036854775807) (ht:top.length≤9223372036854775807):S Mw 2 [.s n, .s top]=some [.b (under n top)]:=by
 refine Hb9 (N:=1) rfl ?_;rcases Ak (vld n) with h1|h1
 ·rcases Ak (vld top) with h2|h2
  ·have h3:=Gs h2;simp (disch:=omega) only [Ef0,B3,cm,h1,h2,xe,EVP,EV,simprocAttr];rw [W5 h1 h2]
  ·have h3:under n top=false:=by simp [under,h2]
   simp (disch:=omega) only [Ef0,B3,h1,h2,h3,xe,EVP,EV,simprocAttr]
 ·have h3:under n top=false:=by simp [under,h1]
  simp (disch:=omega) only [Ef0,B3,h1,h3,xe,EVP,EV,simprocAttr]
end Go.X.G
/- Names: order, common ancestors, wildcards. -/
namespace Go.X.G
open Go Go.X
def Sw:∀(a:List UInt8),Op.bytesLess a a=false
 |[]=>rfl
 |a::x=>by simp [Op.bytesLess,Sw x]
def Ms:∀(a b:List UInt8),Lib.compareBytes a b=cmpS a b
 |[],[]=>rfl
 |[],_::_=>rfl
 |_::_,[]=>rfl
 |a::x,b::y=>by
  have ih:=Ms x y;unfold cmpS at ih ⊢;simp only [Lib.compareBytes,Op.bytesLess,ih];by_cases h1:a<b
  ·simp [h1]
  ·by_cases h2:b<a
   ·have h3:a≠b:=fun e=>by subst e;exact h1 h2
    simp [h1,h2,h3]
   ·have h3:a=b:=UInt8.le_antisymm (UInt8.not_lt.1 h2) (UInt8.not_lt.1 h1);subst h3;simp [h1]
def Jc {a b:List UInt8}:cmpS a b=0↔a=b:=by
 unfold cmpS;by_cases h:a=b
 ·subst h;simp [Sw]
 ·cases h2:Op.bytesLess a b<;>simp [h]
def Ld (x y:List UInt8):S jf 2 [.s x, .s y]=some [.i .i64 (cmpS x y)]:=by rw [yj,Ms]
def Wx:List (List UInt8)→List (List UInt8)→Option Int
 |x::xs,y::ys=>if x=y then Wx xs ys else some (cmpS x y)
 |_,_=>none
def Cl4:∀(a b:List (List UInt8)),Wx a b=if Vr a b<a.length∧Vr a b<b.length then some (cmpS (a.getD (Vr a b) []) (b.getD (Vr a b) [])) else none
 |[],b=>by simp [Wx,Vr]
 |x::xs,[]=>by simp [Wx,Vr]
 |x::xs,y::ys=>by
  have ih:=Cl4 xs ys;simp only [Wx,Vr];by_cases h:x=y
  ·simp only [if_pos h,ih];simp
  ·simp [h]
def Bv6 (a b:List (List UInt8)):Int:=match Wx a.reverse b.reverse with
 |some c=>c
 |none=>if a.length<b.length then -1 else if b.length<a.length then 1 else 0
def Ac2 (a:List (List UInt8)) (k:Nat) (h:k<a.length):a.reverse.getD k []=a.getD (a.length - 1 - k) []:=by simp [Bp,List.getElem?_reverse h]
def dw {a b:List UInt8} (ha:vld a=true) (hb:vld b=true):Ix a b=Bv6 (lbl a) (lbl b):=by
 unfold Ix Bv6;rw [Cl4];have e:Vr (lbl a).reverse (lbl b).reverse=Kz (lbl a) (lbl b):=rfl;rw [e,ha,hb];simp only [List.length_reverse,Bool.and_self,if_true];by_cases h:Kz (lbl a) (lbl b)<(lbl a).length∧Kz (lbl a) (lbl b)<(lbl b).length
 ·rw [if_pos h,if_pos h,Ac2 _ _ h.1,Ac2 _ _ h.2]
 ·rw [if_neg h,if_neg h]
def yv (a b:List (List UInt8)) (p1 p2 p3 p4:PV) (ha:a.length≤1000) (hb:b.length≤1000) (N:Nat) (hN:1001<N):
  Cb1.ev S N [p1,p2,p3,p4,Bm a,Bm b]=some (match Wx a.reverse b.reverse with|some c=> .ret [.i .i64 c]|none=> .yld 0 []):=by
 have key:=Kc (fn:=S) (N:=N) (η:=[p1,p2,p3,p4,Bm a,Bm b]) (id:=1) (init:=[(.c (.i .i64 (1)))]) (body:=Cp9) (α:=Nat) (fun k=>[.i .i64 ((k:Int)+1)])
  (fun k=>match Wx (a.reverse.drop k) (b.reverse.drop k) with|some c=> .ret [.i .i64 c]|none=> .yld 0 []) (fun k=>k≤a.length∧k≤b.length) (fun k=>a.length - k) 0 rfl ⟨Cs _,Cs _⟩ (by omega) ?_
 ·simpa [Cb1] using key
 ·rintro k ⟨h1,h2⟩;by_cases h3:k<a.length
  ·by_cases h4:k<b.length
   ·have e1:((a.length:Int) - ((k:Int)+1)).toNat=a.length - 1 - k:=by omega
    have e2:((b.length:Int) - ((k:Int)+1)).toNat=b.length - 1 - k:=by omega
    have g1:a[a.length - 1 - k]? =some (a[a.length - 1 - k]'(by omega)):=Ay (by omega);have g2:b[b.length - 1 - k]? =some (b[b.length - 1 - k]'(by omega)):=Ay (by omega);have d1:a.reverse.drop k=(a[a.length - 1 - k]'(by omega))::a.reverse.drop (k+1):=by rw [Ch (by simpa using h3)];simp
    have d2:b.reverse.drop k=(b[b.length - 1 - k]'(by omega))::b.reverse.drop (k+1):=by rw [Ch (by simpa using h4)];simp
    rw [d1,d2];generalize (a[a.length - 1 - k]'(by omega))=x at g1;generalize (b[b.length - 1 - k]'(by omega))=y at g2;simp only [Wx];by_cases h:x=y
    ·left;have h5:cmpS x y=0:=Jc.2 h;refine ⟨k+1,?_,⟨by omega,by omega⟩,by omega,by rw [if_pos h]⟩;simp (disch:=omega) only [pq,Ld,e1,e2,g1,g2,h5,xe,EVP,EV,simprocAttr]
    ·right;have h5:¬cmpS x y=0:=fun e=>h (Jc.1 e);rw [if_neg h];simp (disch:=omega) only [pq,Ld,e1,e2,g1,g2,h5,xe,EVP,EV,simprocAttr];simp [Out.goes]
   ·right;have d2:b.reverse.drop k=[]:=Zj (by simp;omega);have z:Wx (a.reverse.drop k) []=none:=by cases a.reverse.drop k<;>rfl
    rw [d2,z];simp (disch:=omega) [pq,xe,EVP,EV,simprocAttr,Out.goes]
  ·right;have d1:a.reverse.drop k=[]:=Zj (by simp;omega);have z:Wx [] (b.reverse.drop k)=none:=rfl;rw [d1,z];simp (disch:=omega) [pq,xe,EVP,EV,simprocAttr,Out.goes]
def H2 (a b:List UInt8) (hn:a.length≤9223372036854775807) (ht:b.length≤9223372036854775807):S Oc 2 [.s a, .s b]=some [.i .i64 (Ix a b)]:=by
 refine Hb8 (N:=1002) rfl ?_;have h1:=Lq a;have h2:=Lq b;rcases Ak (vld a) with h3|h3<;>rcases Ak (vld b) with h4|h4
 ·rw [dw h3 h4];unfold Bv6;have hk:=yv (lbl a) (lbl b) (.s a) (.s b) (.b true) (.b true) (by omega) (by omega) 1002 (by omega);cases h5:Wx (lbl a).reverse (lbl b).reverse with
  |some c=>
   rw [h5] at hk;simp (disch:=omega) only [pq,B3,Rb,hk,h3,h4,xe,EVP,EV,simprocAttr]
  |none=>
   rw [h5] at hk;simp (disch:=omega) only [pq,B3,Rb,hk,h3,h4,xe,EVP,EV,simprocAttr]
   grind
 all_goals unfold Ix
 all_goals simp (disch:=omega) only [pq,B3,Ld,h3,h4,xe,EVP,EV,simprocAttr]
 all_goals simp
def Eb (a b:List UInt8):List UInt8:=if vld a=true∧vld b=true then jn ((lbl a).drop ((lbl a).length - Kz (lbl a) (lbl b))) else []
def gk {α:Type} [DecidableEq α]:∀(a b:List α) (j:Nat),j≤a.length→(a.take j<+:b↔j≤Vr a b)
 |_,_,0,_=>by simp
 |[],_,j+1,h=>by simp at h
 |x::xs,[],j+1,h=>by simp [Vr]
 |x::xs,y::ys,j+1,h=>by
  have:=gk xs ys j (by simpa using h);simp only [Ec9,Vr,H4];by_cases hxy:x=y
  ·simp [hxy,this]
  ·simp [hxy]
def Vl (a b:List (List UInt8)) (k:Nat) (h:k≤a.length):a.drop k<:+b↔a.length - k≤Kz a b:=by unfold Kz;rw [←gk _ _ _ (by simp),←Ed0,List.reverse_drop]
def Yz {n:List UInt8} (h:vld n=true) (k:Nat):(jn ((lbl n).drop k)).length≤254:=Gs (Ir h k).1
def Cs5 (a b:List UInt8) (p1 p2 p3 p4:PV) (ha:vld a=true) (hb:vld b=true) (N:Nat) (hN:300<N) (hp1:p1= .s a) (hp2:p2= .s b):
  tq.ev S N [p1,p2,p3,p4]=some (.yld 0 [.s (Eb a b)]):=by
 subst hp1;subst hp2;have hl:=Lq a;have hs:=Dc0 (lbl a) (lbl b);have hla:=Gs ha;have hlb:=Gs hb;have ec:Eb a b=jn ((lbl a).drop ((lbl a).length - Kz (lbl a) (lbl b))):=by unfold Eb;rw [if_pos ⟨ha,hb⟩]
 have key:=Kc (fn:=S) (N:=N) (η:=[.s a, .s b,p3,p4]) (id:=1) (init:=[(.v 0)]) (body:=xf) (α:=Nat) (fun k=>[.s (jn ((lbl a).drop k))])
  (fun k=> .yld 0 [.s (Eb a b)]) (fun k=>k+Kz (lbl a) (lbl b)≤(lbl a).length) (fun k=>(lbl a).length - k) 0 (by
   have:jn ((lbl a).drop 0)=a:=by rw [Ey];exact (L5 ha).symm
   rw [this];rfl) (by omega) (by omega) ?_
 ·simpa [tq] using key
 ·intro k hk;obtain ⟨hv,hlk⟩:=Ir ha k;have hlen:=Yz ha k;have he:uv b (jn ((lbl a).drop k))=true↔(lbl a).length - k≤Kz (lbl a) (lbl b):=by rw [Ac7 hb hv,hlk,Vl _ _ _ (by omega)]
  by_cases h:(lbl a).length - k≤Kz (lbl a) (lbl b)
  ·right;have h1:=he.2 h;have h2:(lbl a).length - Kz (lbl a) (lbl b)=k:=by omega
   simp (disch:=omega) only [fc,cm,h1,xe,EVP,EV,simprocAttr];rw [ec,h2];simp [Out.goes]
  ·left;have h1:uv b (jn ((lbl a).drop k))=false:=by rw [Ef];intro h2;exact h (he.1 h2)
   have h2:Q5 (jn ((lbl a).drop k))=jn ((lbl a).drop (k+1)):=by
    unfold Q5;have h3:jn ((lbl a).drop k)≠[46]:=by intro e;have:=(U1 hv).2 e;rw [hlk] at this;have:=congrArg List.length this;simp at this;omega
    rw [if_pos ⟨hv,h3⟩,hlk,Cd]
   refine ⟨k+1,?_,by omega,by omega,rfl⟩;simp (disch:=omega) only [fc,cm,N0,h1,h2,xe,EVP,EV,simprocAttr]
def Bx3 (a b:List UInt8) (ha:a.length≤9223372036854775807) (hb:b.length≤9223372036854775807):S X4 2 [.s a, .s b]=some [.s (Eb a b)]:=by
 refine Fr9 (N:=301) rfl ?_;rcases Ak (vld a) with h3|h3
 ·rcases Ak (vld b) with h4|h4
  ·have hk:=Cs5 a b (.s a) (.s b) (.b true) (.b true) h3 h4 301 (by omega) rfl rfl;simp (disch:=omega) only [fc,B3,hk,h3,h4,xe,EVP,EV,simprocAttr]
  ·simp (disch:=omega) only [fc,B3,h3,h4,xe,EVP,EV,simprocAttr];simp [Eb,h4]
 ·simp (disch:=omega) only [fc,B3,h3,xe,EVP,EV,simprocAttr];simp [Eb,h3]
def Cy6 (n:List UInt8):Int:=if n=[46] then 1 else if vld n=true then (n.length:Int)+1 else 0
def Cr9 (n:List UInt8) (hn:n.length≤9223372036854775807):S X3 1 [.s n]=some [.i .i64 (Cy6 n)]:=by
 refine Fr8 (N:=1) rfl ?_;unfold Cy6;by_cases h:n=[46]
 ·simp (disch:=omega) only [Bc4,h,xe,EVP,EV,simprocAttr]
 ·rcases Ak (vld n) with h3|h3
  ·have:=Gs h3;simp (disch:=omega) only [Bc4,B3,h,h3,xe,EVP,EV,simprocAttr]
  ·simp (disch:=omega) only [Bc4,B3,h,h3,xe,EVP,EV,simprocAttr]
def Wz (n:List UInt8):List UInt8:=if n=[46] then [42,46] else [42,46]++n
def starOk (n:List UInt8):Bool:=vld n && !decide ((lbl n)[0]? =some [42]) && vld (Wz n)
def starN (n:List UInt8):List UInt8:=if starOk n=true then Wz n else []
def Qt {n:List UInt8} (h:vld n=true):(n[0]? =some 42↔(lbl n)[0]? =some [42]):=by
 rcases vld_cases h with ⟨h1,h2⟩|⟨h1,h2,h3,_⟩
 ·subst h1;simp [It]
 ·cases hl:lbl n with
  |nil=>exact absurd hl h1
  |cons p r=>
   rw [hl] at h2 h3;have hp:=Ij h2 (Gr ..);have hne:=Ab9 hp;cases p with
   |nil=>exact absurd rfl hne
   |cons c q=>
    rw [h3,P5];simp only [B7,Cv,Aq];constructor
    ·rintro rfl;unfold N1 at hp;simp at hp;rcases hp with h|h
     ·rw [h]
     ·exfalso;have:Wm 42=false:=by decide
      rw [this] at h;simp at h
    ·intro h;injection h
def Tf (n:List UInt8) (hn:n.length≤1000000):S rm 1 [.s n]=some [.s (starN n), .b (starOk n)]:=by
 refine Hy3 (N:=1) rfl ?_;have h0:([42,46]:List UInt8).length=2:=rfl;have hl:(Wz n).length≤9223372036854775807:=by
  unfold Wz;split
  ·simp
  ·rw [Ac,h0];omega
 unfold starN starOk;have tail:T.ev S 1 Cm2 [.s n, .s (Wz n)]=some (.ret [.s (starN n), .b (starOk n)]):=by
  unfold starN starOk;rcases Ak (vld n) with h3|h3
  ·have h4:=Qt h3;have h5:=Ay (O8 h3);have h6:=Hv1 (n[0]'(O8 h3)) 42 (by omega);by_cases h7:(lbl n)[0]? =some [42]
   ·have h8:=h4.2 h7;rw [h5] at h8;injection h8 with h8;have h9:((n[0]'(O8 h3)).toNat:Int)=42:=h6.2 h8;simp (disch:=omega) only [Dj8,B3,h3,h5,xe,EVP,EV,simprocAttr];simp [h7]
   ·have h8:¬n[0]? =some 42:=fun e=>h7 (h4.1 e);rw [h5] at h8;have h9:¬((n[0]'(O8 h3)).toNat:Int)=42:=fun e=>h8 (by rw [h6.1 e];rfl);rcases Ak (vld (Wz n)) with ha|ha<;>simp (disch:=omega) only [Dj8,B3,h3,h5,ha,xe,EVP,EV,simprocAttr]<;>simp [h7]
  ·simp (disch:=omega) only [Dj8,B3,h3,xe,EVP,EV,simprocAttr];simp
 unfold starN starOk at tail;obtain ⟨y0,y1,y2,y3,y4,y5,y6,y7,yt⟩:=Dj8;by_cases h4:n=[46]
 ·have e:Wz n=[42,46]:=by simp [Wz,h4]
  rw [e] at tail ⊢;subst h4;simp (disch:=omega) only [y0,y1,y2,yt,xe,EVP,EV,simprocAttr];rw [tail];simp
 ·have e:Wz n=42::46::n:=by simp [Wz,h4]
  rw [e] at tail ⊢;simp (disch:=omega) only [y0,y1,y2,yt,h4,xe,EVP,EV,simprocAttr];rw [tail];simp
end Go.X.G
/- Data of records: what the reference's functions give. -/
namespace Go.X.G
open Go Go.X
def t15 (t:Int):t=1∨t=2∨t=5∨t=6∨t=12∨t=15∨t=16∨t=28∨t=33∨t=39∨t=43∨t=46∨t=47∨t=48∨(t≠1∧t≠2∧t≠5∧t≠6∧t≠12∧t≠15∧t≠16∧t≠28∧t≠33∧t≠39∧t≠43∧t≠46∧t≠47∧t≠48):=by omega
def knw (t:Int):Bool:=decide (t=1)||decide (t=2)||decide (t=5)||decide (t=6)||decide (t=12)||decide (t=15)||decide (t=16)||decide (t=28)||decide (t=33)||decide (t=39)||decide (t=43)||decide (t=46)||decide (t=47)||decide (t=48)
def Em (d:Dat):Bool:=d.v6||(decide (d.hi=0) && decide (d.lo<4294967296))
def inB (n most:Int):Bool:=decide (0≤n) && decide (n≤most)
def Jf (s:List UInt8):Bool:=decide (1≤s.length) && decide (s.length≤255)
def H9 (n:List UInt8):Bool:=vld n && decide (n[0]? ≠some 42)
def bit (set:Int) (t:Nat):Int:=set / 2 ^ t % 2
def Ht5 (x:Int):IntKind.u64.wrap ((BitVec.ofInt IntKind.u64.bits x &&& BitVec.ofInt IntKind.u64.bits 1).toNat:Int)=x % 2:=by
 have h2:(BitVec.ofInt 64 x &&& BitVec.ofInt 64 1).toNat=(BitVec.ofInt 64 x).toNat % 2:=by rw [BitVec.toNat_and];show (BitVec.ofInt 64 x).toNat &&& 1=_;exact Nat.and_one_is_mod _
 show IntKind.u64.wrap (((BitVec.ofInt 64 x &&& BitVec.ofInt 64 1).toNat:Nat):Int)=_;rw [h2,BitVec.toNat_ofInt];rw [Fy5]<;>omega
end Go.X.G
/- NSEC records: what they show. -/
namespace Go.X.G
open Go Go.X
def Qc (r:Rec) (t:Int):Bool:=decide (0≤t) && decide (t≤63) && decide (bit r.data.bits t.toNat=1)
def Kb (r:Rec) (t:Int):S Sg 2 [r.pv, .i .i64 t]=some [.b (Qc r t)]:=by
 refine Hx1 (N:=1) rfl ?_;unfold Qc;by_cases h1:0≤t
 ·by_cases h2:t≤63
  ·obtain ⟨n,rfl⟩:∃n:Nat,t=(n:Int):=⟨t.toNat,by omega⟩;have hb:IntKind.u64.bits=64:=rfl;have h3:X.bin .shr (.i .u64 r.data.bits) (.i .i64 (n:Int))=some (.i .u64 (r.data.bits / 2 ^ n)):=Bg2 _ _ _ _ (by rw [hb];omega);have h4:r.data.bits / 2 ^ n % 2=bit r.data.bits n:=rfl;simp (disch:=omega) only [Ed7,dm,Ht5,h3,h4,xe,EVP,EV,simprocAttr]
   try simp
   try omega
  ·simp (disch:=omega) only [Ed7,xe,EVP,EV,simprocAttr]
   try simp [h2]
 ·simp (disch:=omega) only [Ed7,xe,EVP,EV,simprocAttr]
  try simp [h1]
def F7 (n top:List UInt8):Bool:=decide (n≠top) && under n top
def Hq (n top:List UInt8) (hn:n.length≤9223372036854775807) (ht:top.length≤9223372036854775807):S sj 2 [.s n, .s top]=some [.b (F7 n top)]:=by
 refine Hb7 (N:=1) rfl ?_;unfold F7;by_cases h:n=top
 ·simp (disch:=omega) only [Fb3,h,xe,EVP,EV,simprocAttr]
  try simp
 ·simp (disch:=omega) only [Fb3,Ec,h,xe,EVP,EV,simprocAttr]
  try simp
def Iz (r:Rec):Bool:=Qc r 39||(Qc r 2 && !Qc r 6)
def Af2 (r:Rec):S Cv9 1 [r.pv]=some [.b (Iz r)]:=by refine Hb6 (N:=1) rfl ?_;unfold Iz;rcases Ak (Qc r 39) with h1|h1<;>rcases Ak (Qc r 2) with h2|h2<;>rcases Ak (Qc r 6) with h3|h3<;>simp (disch:=omega) only [Hk3,Kb,h1,h2,h3,xe,EVP,EV,simprocAttr]<;>rfl
def G2 (r:Rec) (zone name:List UInt8):Bool:=
 decide (r.typ=47) && under name zone && decide (0<Ix name r.name) && !(decide (r.data.host≠zone) && decide (0≤Ix name r.data.host)) && (!F7 name r.name|| !Iz r)
def M6 (r:Rec) (zone name:List UInt8) (hr:r.wf) (hz:zone.length≤9223372036854775807) (hn:name.length≤9223372036854775807):S bk 3 [r.pv, .s zone, .s name]=some [.b (G2 r zone name)]:=by
 refine Hd0 (N:=1) rfl ?_;have g1:=hr.name;have g2:=hr.data.host;unfold Pq at g1 g2;unfold G2;by_cases h1:r.typ=47
 ·rcases Ak (under name zone) with h2|h2
  ·by_cases h3:0<Ix name r.name
   ·by_cases h4:r.data.host=zone
    ·rcases Ak (F7 name r.name) with h6|h6<;>rcases Ak (Iz r) with h7|h7<;>simp (disch:=omega) only [Al6,Ec,H2,Hq,Af2,h1,h2,h4,h6,h7,xe,EVP,EV,simprocAttr]<;>simp [h3]
    ·by_cases h5:0≤Ix name r.data.host
     ·simp (disch:=omega) only [Al6,Ec,H2,h1,h2,h4,xe,EVP,EV,simprocAttr]
      try simp [h4,h5]
     ·rcases Ak (F7 name r.name) with h6|h6<;>rcases Ak (Iz r) with h7|h7<;>simp (disch:=omega) only [Al6,Ec,H2,Hq,Af2,h1,h2,h4,h6,h7,xe,EVP,EV,simprocAttr]<;>simp [h3,h5]
   ·simp (disch:=omega) only [Al6,Ec,H2,h1,h2,xe,EVP,EV,simprocAttr]
    try simp [h3]
  ·simp (disch:=omega) only [Al6,Ec,h1,h2,xe,EVP,EV,simprocAttr]
   try simp
 ·simp (disch:=omega) only [Al6,h1,xe,EVP,EV,simprocAttr]
  try simp
def cp (r:Rec) (name:List UInt8):List UInt8:=if Cy6 (Eb name r.name)<Cy6 (Eb name r.data.host) then Eb name r.data.host else Eb name r.name
def Lc (a b:List UInt8):(Eb a b).length≤254:=by
 unfold Eb;split
 ·rename_i h;exact Yz h.1 _
 ·simp
def Ug (r:Rec) (name:List UInt8) (hr:r.wf) (hn:name.length≤9223372036854775807):S Cq4 2 [r.pv, .s name]=some [.s (cp r name)]:=by refine Hw9 (N:=1) rfl ?_;have g1:=hr.name;have g2:=hr.data.host;unfold Pq at g1 g2;have h1:=Lc name r.name;have h2:=Lc name r.data.host;unfold cp;by_cases h:Cy6 (Eb name r.name)<Cy6 (Eb name r.data.host)<;>simp (disch:=omega) only [Gt9,Bx3,Cr9,h,xe,EVP,EV,simprocAttr]
def Cg9 (r:Rec) (name:List UInt8):(cp r name).length≤254:=by
 unfold cp;split
 ·exact Lc _ _
 ·exact Lc _ _
def T4 (zone name:List UInt8) (r:Rec):Option (List UInt8):=
 if G2 r zone name && !F7 r.data.host name && starOk (cp r name) then some (starN (cp r name)) else none
def starsN (l:List Rec) (zone name:List UInt8):List (List UInt8):=l.filterMap (T4 zone name)
def Ax2 (l:List Rec) (zone name:List UInt8) (hw:∀r∈l,r.wf) (hl:l.length≤1000000) (hz:zone.length≤9223372036854775807) (hn:name.length≤9223372036854775807):
  S Bj5 3 [Ag l, .s zone, .s name]=some [Bm (starsN l zone name)]:=by
 refine Hb4 (N:=l.length+1) rfl ?_;have key:Ey3.ev S (l.length+1) [Ag l, .s zone, .s name]=some (.yld 0 [Bm ([]++starsN l zone name)]):=by
  refine Fj l (fun i (g:List (List UInt8))=>[Bm g, .i .i64 (i:Int)]) (fun i g r=> .yld 0 [Bm (g++starsN r zone name)]) (fun i g=>g.length≤i) [] rfl (Af _) (by omega) (fun i g c r hd hi hc hI=> ?_) (fun g hI=> ?_)
  ·left;have hcw:=hw c (A4 hc);have g2:=hcw.data.host;unfold Pq at g2;have h1:=M6 c zone name hcw hz hn;have h2:=Ug c name hcw hn;have h3:=Cg9 c name;cases h:T4 zone name c with
   |some s=>
    refine ⟨g++[s],?_,by simp;omega,by simp [starsN,h]⟩;unfold T4 at h;split at h
    ·rename_i hc2;injection h with h;subst h;simp only [Av,A5] at hc2;obtain ⟨⟨k1,k2⟩,k3⟩:=hc2;simp (disch:=omega) only [Al5,hc,h1,h2,Hq,Tf,k1,k2,k3,xe,EVP,EV,simprocAttr]
    ·cases h
   |none=>
    refine ⟨g,?_,by omega,by simp [starsN,h]⟩;unfold T4 at h;split at h
    ·cases h
    ·rename_i hc2;rcases ch3 (G2 c zone name) (!F7 c.data.host name) (starOk (cp c name)) with e0|⟨e0,e1⟩|⟨e0,e1,e2⟩|⟨e0,e1,e2⟩
     ·simp (disch:=omega) only [Al5,hc,h1,e0,xe,EVP,EV,simprocAttr]
     ·simp only [Bool.not_eq_false'] at e1;simp (disch:=omega) only [Al5,hc,h1,Hq,e0,e1,xe,EVP,EV,simprocAttr]
     ·simp only [A5] at e1;simp (disch:=omega) only [Al5,hc,h1,h2,Hq,Tf,e0,e1,e2,xe,EVP,EV,simprocAttr]
     ·exact absurd (by simp [e0,e1,e2]) hc2
  ·simp (disch:=omega) only [Al5,xe,EVP,EV,simprocAttr]
   try simp [starsN,Out.goes]
 simp (disch:=omega) only [Al5,key,xe,EVP,EV,simprocAttr]
def Kf (v:List UInt8):List (List UInt8)→Nat→Int
 |[],_=> -1
 |x::r,i=>if v=x then (i:Int) else Kf v r (i+1)
def my (v:List UInt8):∀(l:List (List UInt8)) (i:Nat),decide (0≤Kf v l i)=decide (v∈l)
 |[],i=>by simp [Kf]
 |x::r,i=>by
  simp only [Kf];by_cases h:v=x
  ·simp [h]
  ·simp only [if_neg h,my v r (i+1)];simp [h]
def Bh2 (l:List (List UInt8)) (v:List UInt8) (hl:l.length≤1000000):S Yv 2 [Bm l, .s v]=some [.i .i64 (Kf v l 0)]:=by
 refine Eq9 (N:=l.length+1) rfl ?_;have key:tv.ev S (l.length+1) [Bm l, .s v]=some (if Kf v l 0= -1 then .yld 0 [] else .ret [.i .i64 (Kf v l 0)]):=by
  refine E9 l (fun i=>[.i .i64 (i:Int)]) (fun i r=>if Kf v r i= -1 then .yld 0 [] else .ret [.i .i64 (Kf v r i)]) rfl (by omega) (fun i c r hd hi hc=> ?_) ?_
  ·by_cases h:v=c
   ·right;simp (disch:=omega) only [N3,hc,h,xe,EVP,EV,simprocAttr];have:¬((i:Int)= -1):=by omega
    simp [Kf,this,Out.goes]
   ·left;simp (disch:=omega) only [N3,hc,h,xe,EVP,EV,simprocAttr]
    try simp [Kf,h]
  ·simp (disch:=omega) only [N3,xe,EVP,EV,simprocAttr]
   try simp [Kf,Out.goes]
 by_cases h:Kf v l 0= -1
 ·rw [if_pos h] at key;simp (disch:=omega) only [N3,key,h,xe,EVP,EV,simprocAttr]
 ·rw [if_neg h] at key;simp (disch:=omega) only [N3,key,xe,EVP,EV,simprocAttr]
def Rr (l:List (List UInt8)) (v:List UInt8) (hl:l.length≤1000000):S Wl 2 [Bm l, .s v]=some [.b (decide (v∈l))]:=by refine Fl5 (N:=1) rfl ?_;rw [←my v l 0];simp (disch:=omega) only [Fb1,Bh2,xe,EVP,EV,simprocAttr]
def expandedN (l:List Rec) (zone name star:List UInt8):Bool:=decide (star∈starsN l zone name)
def Xj (l:List Rec) (zone name:List UInt8):(starsN l zone name).length≤l.length:=List.length_filterMap_le _ _
def V9 (l:List Rec) (zone name star:List UInt8) (hw:∀r∈l,r.wf) (hl:l.length≤1000000) (hz:zone.length≤9223372036854775807) (hn:name.length≤9223372036854775807):
  S Bj7 4 [Ag l, .s zone, .s name, .s star]=some [.b (expandedN l zone name star)]:=by
 refine Hc0 (N:=1) rfl ?_;have h1:=Xj l zone name;simp (disch:=omega) only [Hk4,Ax2 l zone name hw hl hz hn,Rr,expandedN,xe,EVP,EV,simprocAttr]
end Go.X.G
