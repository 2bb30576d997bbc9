/- Names: what the reference's functions give. -/
import Derived.Test.YtfnmphjdknjkmaaGreatDoorNsecCompleteG7
import Derived.Test.YtfnmphjdknjkmaaGreatDoorNsecCompleteG8
open Bool renaming eq_false_or_eq_true→Ak,and_eq_true→Av,or_eq_true→An,not_eq_true'→A6,eq_iff_iff→Cr,eq_false_iff→C5,and_true→Qt
open List renaming getElem?_eq_getElem→Ay,length_append→Ab,mem_cons→Am,append_assoc→As,mem_of_getElem?→A4,length_cons→A5,length_pos_iff→Bc,length_nil→Bf,take_append_drop→Bh,getD_eq_getElem?_getD→Br,getElem?_cons_zero→B6,cons_append→B8,drop_drop→Cf,nil_append→Ch,drop_eq_getElem_cons→Cl,take_length→Dq,drop_zero→Ey,isSuffixOf_iff_suffix→Fb,mem_cons_self→G0,cons_prefix_cons→H6,getLast_eq_getElem→Jn,flatMap_cons→Jr,append_cancel_right→Qr,drop_eq_nil_of_le→Zf,take_succ_cons→Ef6,reverse_prefix→Ef7,count_eq_zero→Hj8
open Nat renaming le_refl→Af,zero_le→Ct
open Option renaming map_eq_some_iff→Ax,map_some→A7
open Option.some renaming injEq→Aq
set_option maxHeartbeats 1000000
set_option linter.defProp false
set_option linter.unusedVariables false
set_option linter.unusedSimpArgs false
namespace Go.X.G
open Go Go.X
def W5 (c:UInt8):Bool:=decide (97≤(c.toNat:Int)) && decide ((c.toNat:Int)≤122)||decide (48≤(c.toNat:Int)) && decide ((c.toNat:Int)≤57)||decide ((c.toNat:Int)=45)||decide ((c.toNat:Int)=95)
def L1 (s:List UInt8):Bool:=decide (s=[42])||(decide (1≤s.length) && decide (s.length≤63) && s.all W5)
end Go.X.G
/- Names: what the reference's functions give. -/
namespace Go.X.G
open Go Go.X
def spl (first:Bool) (cur:List UInt8):List UInt8→Option (List (List UInt8))
 |[]=>some []
 |c::r=>if c=46 then (if L1 cur=true∧(cur=[42]→first=true) then (spl false [] r).map (cur::·) else none) else spl first (cur++[c]) r
def nm (n:List UInt8):Option (List (List UInt8)):=
 if n=[46] then some [] else if 2≤n.length∧n.length≤254∧n[n.length - 1]? =some 46 then spl true [] n else none
def lbl (n:List UInt8):List (List UInt8):=(nm n).getD []
def vld (n:List UInt8):Bool:=(nm n).isSome
end Go.X.G
/- Names: what the reference's functions give, ctd. -/
namespace Go.X.G
open Go Go.X
def rx:∀(r:List UInt8) (f:Bool) (cur:List UInt8) (l:List (List UInt8)),spl f cur r=some l→l.length≤r.length
 |[],f,cur,l,h=>by simp [spl] at h;simp [←h]
 |c::r,f,cur,l,h=>by
  simp only [spl] at h;split at h
  ·split at h
   ·obtain ⟨m,hm,rfl⟩:=Ax.1 h;have:=rx r _ _ _ hm;simp;omega
   ·cases h
  ·have:=rx r _ _ _ h;simp;omega
def Gx3 {n:List UInt8} {l:List (List UInt8)} (h:nm n=some l):l.length≤254:=by
 unfold nm at h;split at h
 ·injection h with h;subst h;simp
 ·split at h
  ·rename_i h2;have:=rx _ _ _ _ h;omega
  ·cases h
def Lk (n:List UInt8):(lbl n).length≤254:=by
 unfold lbl;cases h:nm n with
 |none=>simp
 |some l=>exact Gx3 h
def V7 {α:Type} [DecidableEq α]:List α→List α→Nat
 |x::xs,y::ys=>if x=y then V7 xs ys+1 else 0
 |_,_=>0
def Ky (a b:List (List UInt8)):Nat:=V7 a.reverse b.reverse
def Cm5 {α:Type} [DecidableEq α]:∀(a b:List α),V7 a b≤a.length∧V7 a b≤b.length
 |[],b=>by simp [V7]
 |x::xs,[]=>by simp [V7]
 |x::xs,y::ys=>by have:=Cm5 xs ys;simp only [V7];split<;>simp<;>omega
def Dd7 (a b:List (List UInt8)):Ky a b≤a.length∧Ky a b≤b.length:=by have:=Cm5 a.reverse b.reverse;simpa [Ky] using this
def under (n top:List UInt8):Bool:=vld n && vld top && decide (Ky (lbl n) (lbl top)=(lbl top).length)
def cmpS (a b:List UInt8):Int:=if Op.bytesLess a b then -1 else if a=b then 0 else 1
def Iy (a b:List UInt8):Int:=
 if vld a && vld b then
  let k:=Ky (lbl a) (lbl b)
  if k<(lbl a).length∧k<(lbl b).length then cmpS ((lbl a).getD ((lbl a).length - 1 - k) []) ((lbl b).getD ((lbl b).length - 1 - k) [])
  else if (lbl a).length<(lbl b).length then -1 else if (lbl b).length<(lbl a).length then 1 else 0
 else if vld a then -1 else if vld b then 1 else cmpS a b
end Go.X.G
/- The library's functions on strings. -/
namespace Go.X.G
open Go Go.X
def Fw7 (x:List UInt8) (c:UInt8):S Ab2 2 [.s x, .i .u8 (c.toNat:Int)]=some [.i .i64 (x.count c:Int)]:=
 Fp5 (args:=[.s x, .i .u8 (c.toNat:Int)]) (by simp [XK.run,Ap2,Lib.countByte])
def Fj1 (x:List UInt8) (c:UInt8):S Ab5 2 [.s x, .i .u8 (c.toNat:Int)]=some [.i .i64 (Lib.indexByte x c)]:=
 Fp6 (args:=[.s x, .i .u8 (c.toNat:Int)]) (by simp [XK.run,Ap2])
def Fw8 (x y:List UInt8):S Ab6 2 [.s x, .s y]=some [.i .i64 (Lib.compareBytes x y)]:=
 Fr7 (args:=[.s x, .s y]) (by simp [XK.run,Dd8])
def Qg (x:List UInt8) (c:UInt8):S X6 2 [.s x, .i .u8 (c.toNat:Int)]=some [.i .i64 (Lib.indexByte x c)]:=by refine Fr6 (N:=1) rfl ?_;simp (disch:=omega) only [Fd8,Fj1,xe,EVP,EV,simprocAttr]
def o3 (x:List UInt8) (c:UInt8):S lf 2 [.s x, .i .u8 (c.toNat:Int)]=some [.i .i64 (Lib.indexByte x c)]:=by refine Ft5 (N:=1) rfl ?_;simp (disch:=omega) only [Ff5,Qg,xe,EVP,EV,simprocAttr]
def N9 (c:UInt8):∀(x:List UInt8),c∉x→Lib.indexByte x c= -1
 |[],_=>rfl
 |b::l,h=>by have h1:b≠c:=fun e=>h (by simp [e]);have h2:=N9 c l (fun e=>h (by simp [e]));simp [Lib.indexByte,h1,h2]
def Kw (c:UInt8) (post:List UInt8):∀(pre:List UInt8),c∉pre→Lib.indexByte (pre++c::post) c=(pre.length:Int)
 |[],_=>by simp [Lib.indexByte]
 |b::l,h=>by
  have h1:b≠c:=fun e=>h (by simp [e]);have h2:=Kw c post l (fun e=>h (by simp [e]));simp only [B8,Lib.indexByte,h2];simp [h1]
  try omega
def dot_split (c:UInt8):∀(s:List UInt8),c∉s∨∃pre post,s=pre++c::post∧c∉pre
 |[]=> .inl (by simp)
 |b::l=>by
  by_cases h:b=c
  ·exact .inr ⟨[],l,by simp [h],by simp⟩
  ·rcases dot_split c l with h1|⟨pre,post,rfl,h2⟩
   ·exact .inl (by simp [h1,Ne.symm h])
   ·exact .inr ⟨b::pre,post,by simp,by simp [h2,Ne.symm h]⟩
def pcs (cur:List UInt8):List UInt8→List (List UInt8)
 |[]=>[cur]
 |c::r=>if c=46 then cur::pcs [] r else pcs (cur++[c]) r
def cut (s:List UInt8):List (List UInt8):=pcs [] s
def Cv1 (post:List UInt8):∀(pre cur:List UInt8),(46:UInt8)∉pre→pcs cur (pre++46::post)=(cur++pre)::pcs [] post
 |[],cur,_=>by simp [pcs]
 |b::l,cur,h=>by have h1:b≠46:=fun e=>h (by simp [e]);have h2:=Cv1 post l (cur++[b]) (fun e=>h (by simp [e]));simp [pcs,h1,h2]
def az:∀(s cur:List UInt8),(46:UInt8)∉s→pcs cur s=[cur++s]
 |[],cur,_=>by simp [pcs]
 |b::l,cur,h=>by have h1:b≠46:=fun e=>h (by simp [e]);have h2:=az l (cur++[b]) (fun e=>h (by simp [e]));simp [pcs,h1,h2]
def Cm4 (s:List UInt8):(cut s).length=s.count 46+1:=by
 have:∀(s cur:List UInt8),(pcs cur s).length=s.count 46+1:=by
  intro s
  induction s with
  |nil=>intro cur;rfl
  |cons c r ih=>
   intro cur;by_cases h:c=46<;>simp [pcs,h,ih]
 exact this s []
def By7 (s:List UInt8) (hs:s.length≤9223372036854775807):S kw 2 [.s s, .s [46]]=some [.i .i64 (Lib.indexByte s 46)]:=by
 refine Fp4 (N:=1) rfl ?_;have h1:=Qg s 46;have e:(((46:UInt8).toNat:Nat):Int)=46:=rfl;rw [e] at h1;by_cases h:[46]=s
 ·subst h;simp (disch:=omega) only [Eq1,xe,EVP,EV,simprocAttr];rfl
 ·simp (disch:=omega) only [Eq1,h,h1,e,xe,EVP,EV,simprocAttr]
def o0 (s:List UInt8) (hs:s.length≤9223372036854775807):S X4 2 [.s s, .s [46]]=some [.i .i64 (Lib.indexByte s 46)]:=by refine Fr3 (N:=1) rfl ?_;simp (disch:=omega) only [Fd6,By7,xe,EVP,EV,simprocAttr]
def Dj1 (s:List UInt8):S kf 2 [.s s, .s [46]]=some [.i .i64 (s.count 46:Int)]:=by refine Fr4 (N:=1) rfl ?_;have h1:=Fw7 s 46;have e:(((46:UInt8).toNat:Nat):Int)=46:=rfl;rw [e] at h1;simp (disch:=omega) only [Fd7,h1,e,xe,EVP,EV,simprocAttr]
def Ch0 (done rest:List (List UInt8)):Out:=
 .yld 0 [.s ((done++rest).getLastD []),Bn ((done++rest).dropLast++[[]]), .i .i64 (((done++rest).length:Int) - 1)]
def uh (s:List UInt8) (N:Nat) (hN:s.length<N) (hs:s.length≤1000000) (p q:PV):
  uj.ev S N [.s s, .s [46], .i .i64 0,p, .i .i64 ((s.count 46:Int)+1)]=some (Ch0 [] (cut s)):=by
 have hc0:s.count 46≤s.length:=List.count_le_length;have key:=Kb (fn:=S) (N:=N) (η:=[.s s, .s [46], .i .i64 0,p, .i .i64 ((s.count 46:Int)+1)]) (id:=1) (init:=[(.v 0),(.rep 1 (.mn (.v 4) (.bin .add (.slen (.v 0)) (.c (.i .i64 (1))))) (.c (.s []))),(.c (.i .i64 (0)))]) (body:=yw) (α:=List (List UInt8)×List UInt8)
  (fun a=>[.s a.2,Bn (a.1++List.replicate (a.2.count 46+1) []), .i .i64 (a.1.length:Int)]) (fun a=>Ch0 a.1 (cut a.2)) (fun a=>a.1.length+a.2.count 46=s.count 46∧a.2.length≤s.length) (fun a=>a.2.length) ([],s) ?_ ⟨by simp,Af _⟩ hN ?_
 ·simpa [uj] using key
 ·have e:((s.count 46:Int)+1).toNat=s.count 46+1:=by omega
  simp (disch:=omega) only [e,xe,EVP,EV,simprocAttr]
 ·rintro ⟨done,rest⟩ ⟨h1,h2⟩;simp only at h1 h2 ⊢;rcases dot_split 46 rest with h|⟨pre,post,rfl,h⟩
  ·right;have c0:rest.count 46=0:=Hj8.2 h;have i0:=N9 46 rest h;have cu:cut rest=[rest]:=by simpa [cut] using az rest [] h
   refine ⟨?_,rfl⟩;rw [c0];rw [c0] at h1;simp (disch:=omega) only [Bd7,o0,i0,xe,EVP,EV,simprocAttr];simp [Ch0,cu,List.getLastD_eq_getLast?]
  ·left;have c0:(pre++46::post).count 46=post.count 46+1:=by rw [List.count_append,Hj8.2 h];simp
   have i0:=Kw 46 post pre h;have cu:cut (pre++46::post)=pre::cut post:=by simpa [cut] using Cv1 post pre [] h
   have hl:(pre++46::post).length=pre.length+post.length+1:=by simp;omega
   have sl1:List.drop (0:Int).toNat (List.take ((pre.length:Int)+0).toNat (pre++46::post))=pre:=by simp
   have sl2:List.drop ((pre.length:Int)+1).toNat (List.take (pre++46::post).length (pre++46::post))=post:=by
    have:((pre.length:Int)+1).toNat=pre.length+1:=by omega
    rw [this,Dq,List.drop_append];simp
   have sl3:(done++[]::[]::List.replicate (post.count 46) ([]:List UInt8)).length=done.length+post.count 46+2:=by simp;omega
   refine ⟨(done++[pre],post),?_,⟨by simp;omega,by simp only;omega⟩,by simp;omega,by simp [Ch0,cu]⟩;rw [c0];rw [c0] at h1;simp (disch:=omega) only [Bd7,o0,i0,sl1,sl2,xe,EVP,EV,simprocAttr];simp [List.replicate_succ,List.set_append]
def ug (s:List UInt8) (hs:s.length≤1000000):S lc 4 [.s s, .s [46], .i .i64 0, .i .i64 (-1)]=some [Bn (cut s)]:=by
 refine Ft2 (N:=s.length+1) rfl ?_;have h1:=Cm4 s;have h2:s.count 46≤s.length:=List.count_le_length;obtain ⟨l,x,hx⟩:∃l x,cut s=l++[x]:=⟨(cut s).dropLast,(cut s).getLast (by intro e;simp [e] at h1),(List.dropLast_concat_getLast _).symm⟩;have h3:l.length=s.count 46:=by rw [hx] at h1;simpa using h1
 have h4:((l.length:Int)+1 - 1)=(l.length:Int):=by omega
 have h5:((l++[([]:List UInt8)]).length:Int)=l.length+1:=by simp
 have h6:((l++[x]).length:Int)=l.length+1:=by simp
 have g1:(l++[([]:List UInt8)])[l.length]? =some []:=by simp
 have g2:(l++[x]).getLastD []=x:=by simp [List.getLastD_eq_getLast?]
 have g3:(l++[([]:List UInt8)]).set l.length x=l++[x]:=by simp
 have hk:=uh s (s.length+1) (by omega) hs (.i .i64 (-1)) .u;rw [hx] at hk ⊢;simp only [Ch0,Ch,List.dropLast_concat] at hk;simp (disch:=omega) only [Bd7,Dj1,hk,h4,h6,g1,g2,g3,xe,EVP,EV,simprocAttr];have g4:((l.length:Int)+1).toNat=(l++[x]).length:=by simp
 rw [g4,Dq];rfl
def oh (s:List UInt8) (hs:s.length≤1000000):S Yf 2 [.s s, .s [46]]=some [Bn (cut s)]:=by refine Gk3 (N:=1) rfl ?_;simp (disch:=omega) only [Fg2,ug,xe,EVP,EV,simprocAttr]
def Qh (s t:List UInt8) (hs:s.length≤9223372036854775807):S Yk 2 [.s s, .s t]=some [.b (t.isSuffixOf s)]:=by
 refine Ft3 (N:=1) rfl ?_;by_cases h:t.length≤s.length
 ·have e:((s.length:Int) - (t.length:Int)).toNat=s.length - t.length:=by omega
  simp (disch:=omega) only [Eq6,e,xe,EVP,EV,simprocAttr];simp only [Dq];congr 4;rw [Cr,Fb,decide_eq_true_eq];refine ⟨fun h=>h▸List.drop_suffix _ _,fun h=> ?_⟩;obtain ⟨p,rfl⟩:=h;simp
 ·have h2:t.isSuffixOf s=false:=by rw [C5,ne_eq,Fb];exact fun h'=>h h'.length_le
  simp (disch:=omega) only [Eq6,h2,xe,EVP,EV,simprocAttr]
def M6 (s t:List UInt8) (hs:s.length≤9223372036854775807):S Yg 2 [.s s, .s t]=some [.b (t.isSuffixOf s)]:=by refine Gk4 (N:=1) rfl ?_;simp (disch:=omega) only [Fg3,Qh,xe,EVP,EV,simprocAttr]
def ym (x y:List UInt8):S lg 2 [.s x, .s y]=some [.i .i64 (Lib.compareBytes x y)]:=by refine Ft8 (N:=1) rfl ?_;simp (disch:=omega) only [Ff6,Fw8,xe,EVP,EV,simprocAttr]
def yg (x y:List UInt8):S j5 2 [.s x, .s y]=some [.i .i64 (Lib.compareBytes x y)]:=by refine Hy7 (N:=1) rfl ?_;simp (disch:=omega) only [Hk3,ym,xe,EVP,EV,simprocAttr]
end Go.X.G
/- Names and their labels. -/
namespace Go.X.G
open Go Go.X
def flat (l:List (List UInt8)):List UInt8:=l.flatMap fun x=>x++[46]
def jn (l:List (List UInt8)):List UInt8:=if l=[] then [46] else flat l
def Fh (first:Bool):List (List UInt8)→Bool
 |[]=>true
 |p::r=>L1 p && (!decide (p=[42])||first) && Fh false r
def Et3:W5 46=false:=by decide
def Mg {p:List UInt8} (h:L1 p=true):(46:UInt8)∉p:=by
 unfold L1 at h;simp at h;rcases h with rfl|⟨_,h⟩
 ·decide
 ·intro h2;have:=h 46 h2;rw [Et3] at this;cases this
def Ad1 {p:List UInt8} (h:L1 p=true):p≠[]:=by rintro rfl;simp [L1] at h
def Iq {p:List UInt8}:∀{f:Bool} {l:List (List UInt8)},Fh f l=true→p∈l→L1 p=true
 |f,q::r,h,hp=>by
  simp only [Fh,Av] at h;rcases Am.1 hp with rfl|hp
  ·exact h.1.1
  ·exact Iq h.2 hp
def Bv2:∀{l:List (List UInt8)},Fh false l=true→Fh true l=true
 |[],_=>rfl
 |p::r,h=>by simp only [Fh,Av] at h ⊢;exact ⟨⟨h.1.1,by simp⟩,h.2⟩
def Kf:∀{f:Bool} {a b:List (List UInt8)},Fh f (a++b)=(Fh f a && Fh (f && a.isEmpty) b)
 |f,[],b=>by simp [Fh]
 |f,p::r,b=>by simp only [B8,Fh,Kf (a:=r)];simp [Bool.and_assoc]
def Bv3 {f:Bool} {l:List (List UInt8)} (h:Fh f l=true) (k:Nat):Fh f (l.drop k)=true:=by
 rw [←Bh k l,Kf,Av] at h;have h2:=h.2;cases f with
 |false=>simpa using h2
 |true=>
  cases he:(l.take k).isEmpty with
  |true=>rw [he] at h2;exact h2
  |false=>rw [he] at h2;exact Bv2 h2
def Uy:∀(m:List UInt8) (f:Bool) (cur:List UInt8),spl f cur (m++[46])=if Fh f (pcs cur m)=true then some (pcs cur m) else none
 |[],f,cur=>by simp only [Ch,spl,if_true,pcs,Fh,A7,Qt];by_cases h:L1 cur=true<;>by_cases h2:cur=[42]<;>cases f<;>simp [h,h2]
 |c::r,f,cur=>by
  simp only [B8,spl,pcs];by_cases hc:c=46
  ·simp only [if_pos hc];rw [Uy r false []];simp only [Fh];by_cases h:L1 cur=true<;>by_cases h2:cur=[42]<;>cases f<;>by_cases h3:Fh false (pcs [] r)=true<;>simp [h,h2,h3]
  ·simp only [if_neg hc];exact Uy r f (cur++[c])
def Un (b:List UInt8):∀(a cur:List UInt8),pcs cur (a++46::b)=pcs cur a++cut b
 |[],cur=>by simp [pcs,cut]
 |c::r,cur=>by
  simp only [B8,pcs];split
  ·rw [Un b r []];rfl
  ·exact Un b r _
def Tn:∀(m cur:List UInt8),flat (pcs cur m)=cur++m++[46]
 |[],cur=>by simp [pcs,flat]
 |c::r,cur=>by
  simp only [pcs];split
  ·rename_i h;have:=Tn r [];simp only [flat,Jr] at this ⊢;rw [this,h];simp
  ·rw [Tn r (cur++[c])];simp
def Ly (a b:List (List UInt8)):flat (a++b)=flat a++flat b:=by simp [flat]
def Gv6 (cur m:List UInt8):pcs cur m≠[]:=by
 cases m with
 |nil=>simp [pcs]
 |cons c r=>
  simp only [pcs];split
  ·simp
  ·intro h;have:=Tn r (cur++[c]);rw [h] at this;simp [flat] at this
def Ts:∀(l:List (List UInt8)),(∀p∈l,(46:UInt8)∉p)→cut (flat l)=l++[[]]
 |[],_=>rfl
 |p::l,h=>by
  have h1:flat (p::l)=p++46::flat l:=by simp [flat]
  rw [h1];show pcs [] _=_;rw [Un,az p [] (h p (by simp)),Ts l (fun q hq=>h q (by simp [hq]))];simp
def Kg:∀(l:List (List UInt8)),l≠[]→∃m,flat l=m++[46]
 |[p],_=>⟨p,by simp [flat]⟩
 |p::q::r,_=>by obtain ⟨m,hm⟩:=Kg (q::r) (by simp);exact ⟨p++[46]++m,by simp only [flat,Jr] at hm ⊢;rw [hm];simp⟩
def Af1 {l:List (List UInt8)} (hl:l≠[]) (h:∀p∈l,(46:UInt8)∉p) {m:List UInt8} (hm:flat l=m++[46]):cut m=l:=by
 have h1:=Ts l h;rw [hm] at h1;have h2:cut (m++[46])=cut m++[[]]:=by show pcs [] (m++46::[])=_;rw [Un];rfl
 rw [h2] at h1;exact Qr h1
def Gd {l:List (List UInt8)} (h:Fh true l=true) (hl:l≠[]):2≤(flat l).length:=by
 cases l with
 |nil=>exact absurd rfl hl
 |cons p r=>
  have h1:=Ad1 (Iq h (G0 ..));have:0<p.length:=Bc.2 h1;simp [flat];omega
def Er4 {l:List (List UInt8)} (h:Fh true l=true) (hl:l≠[]) (hlen:(flat l).length≤254):nm (flat l)=some l:=by obtain ⟨m,hm⟩:=Kg l hl;have h1:=Af1 hl (fun p hp=>Mg (Iq h hp)) hm;have h2:=Gd h hl;unfold nm;rw [if_neg (by intro e;rw [e] at h2;simp at h2),if_pos ⟨h2,hlen,by rw [hm];simp⟩,hm,Uy];have:pcs [] m=l:=h1;rw [this,if_pos h]
def Er3 {n:List UInt8} {l:List (List UInt8)} (h:nm n=some l):(n=[46]∧l=[])∨(l≠[]∧Fh true l=true∧n=flat l∧n.length≤254):=by
 unfold nm at h;split at h
 ·rename_i e;injection h with h;exact .inl ⟨e,h.symm⟩
 ·split at h
  ·rename_i h1;right;obtain ⟨h2,h3,h4⟩:=h1;obtain ⟨m,hm⟩:∃m,n=m++[46]:=by
    refine ⟨n.dropLast,?_⟩;have:n≠[]:=by intro e;simp [e] at h2
    have h5:=List.dropLast_concat_getLast this;rw [←h5];congr 1
    ·simp
    ·have h6:n[n.length - 1]? =some (n.getLast this):=by rw [Jn];exact Ay _
     rw [h6] at h4;injection h4 with h4;simp [h4]
   rw [hm,Uy] at h;split at h
   ·rename_i h5;injection h with h;subst h;refine ⟨Gv6 _ _,h5,?_,by omega⟩;rw [Tn,hm];simp
   ·cases h
  ·cases h
def Eh2 {n:List UInt8}:vld n=true↔nm n=some (lbl n):=by unfold vld lbl;cases nm n<;>simp
def vld_cases {n:List UInt8} (h:vld n=true):(n=[46]∧lbl n=[])∨(lbl n≠[]∧Fh true (lbl n)=true∧n=flat (lbl n)∧n.length≤254):=Er3 (Eh2.1 h)
def K0 {n:List UInt8} (h:vld n=true):Fh true (lbl n)=true:=by
 rcases vld_cases h with ⟨_,h⟩|⟨_,h,_⟩
 ·rw [h];rfl
 ·exact h
def L8 {n:List UInt8} (h:vld n=true):n=jn (lbl n):=by
 unfold jn;rcases vld_cases h with ⟨h1,h2⟩|⟨h1,_,h2,_⟩
 ·rw [h2,if_pos rfl];exact h1
 ·rw [if_neg h1];exact h2
def Gy {n:List UInt8} (h:vld n=true):n.length≤254:=by
 rcases vld_cases h with ⟨h1,_⟩|⟨_,_,_,h⟩
 ·simp [h1]
 ·exact h
def Hm:lbl [46]=[]:=rfl
def nv {l:List (List UInt8)} (h:Fh true l=true) (hl:l≠[]):flat l≠[46]:=by intro e;have:=Gd h hl;rw [e] at this;simp at this
def Vj {n:List UInt8} (h:vld n=true):lbl n=[]↔n=[46]:=by
 rcases vld_cases h with ⟨h1,h2⟩|⟨h1,h2,h3,_⟩
 ·simp [h1,Hm]
 ·constructor
  ·intro e;exact absurd e h1
  ·intro e;rw [h3] at e;exact absurd e (nv h2 h1)
def Bf5 {l:List (List UInt8)} (h:Fh true l=true) (hlen:(flat l).length≤254):vld (jn l)=true∧lbl (jn l)=l:=by
 unfold jn;by_cases hl:l=[]
 ·subst hl;exact ⟨rfl,rfl⟩
 ·rw [if_neg hl];have:=Er4 h hl hlen;exact ⟨by simp [vld,this],by simp [lbl,this]⟩
def Lq {a b:List UInt8} (ha:vld a=true) (hb:vld b=true) (h:lbl a=lbl b):a=b:=by rw [L8 ha,L8 hb,h]
def c7 (l:List (List UInt8)) (k:Nat):(flat (l.drop k)).length≤(flat l).length:=by
 have:flat l=flat (l.take k)++flat (l.drop k):=by rw [←Ly,Bh]
 rw [this,Ab];omega
def Jt {n:List UInt8} (h:vld n=true) (k:Nat):vld (jn ((lbl n).drop k))=true∧lbl (jn ((lbl n).drop k))=(lbl n).drop k:=by
 refine Bf5 (Bv3 (K0 h) k) ?_;rcases vld_cases h with ⟨_,h1⟩|⟨_,_,h1,h2⟩
 ·rw [h1];simp [flat]
 ·have:=c7 (lbl n) k;rw [←h1] at this;omega
def Pq {n:List UInt8} (h:vld n=true):0<n.length:=by
 rcases vld_cases h with ⟨h1,_⟩|⟨h1,h2,h3,_⟩
 ·simp [h1]
 ·have:=Gd h2 h1;rw [h3];omega
end Go.X.G
/- Names: what the program's functions give. -/
namespace Go.X.G
open Go Go.X
def ord (s:List UInt8):Bool:=decide (1≤s.length) && decide (s.length≤63) && s.all W5
def Vv (s:List UInt8):L1 s=(decide (s=[42])||ord s):=rfl
def Dh7:ord [42]=false:=by decide
def sq (s:List UInt8) (N:Nat) (hN:s.length<N) (hs:s.length≤9223372036854775807):
  Cf4.ev S N [.s s]=some (if s.all W5=true then .yld 0 [] else .ret [.b false]):=by
 refine Fg s (fun i=>[.i .i64 (i:Int)]) (fun i r=>if r.all W5=true then .yld 0 [] else .ret [.b false]) rfl hN (fun i c r hd hi hc=> ?_) ?_
 ·have key:yb.ev S N ([.s s]++[.i .i64 (i:Int)])=some (if W5 c=true then .yld 1 [.i .i64 ((i:Int)+1)] else .ret [.b false]):=by
   simp (disch:=omega) only [gq,hc,xe,EVP,EV,simprocAttr];unfold W5
   grind
  rw [key];rcases Ak (W5 c) with h|h<;>simp [h,Out.goes]
 ·simp (disch:=omega) [gq,xe,EVP,EV,simprocAttr,Out.goes]
def K6 (s:List UInt8) (hs:s.length≤9223372036854775807):S l4 1 [.s s]=some [.b (ord s)]:=by
 refine Gk2 (N:=s.length+1) rfl ?_;unfold ord;by_cases h1:s=[]
 ·subst h1;simp (disch:=omega) [gq,xe,EVP,EV,simprocAttr]
 ·have h2:1≤s.length:=Bc.2 h1;by_cases h3:s.length≤63
  ·simp (disch:=omega) only [gq,sq,h1,xe,EVP,EV,simprocAttr];cases s.all W5<;>simp [h2,h3]
  ·simp (disch:=omega) only [gq,h1,xe,EVP,EV,simprocAttr];simp [h3]
def okP (i:Nat) (p:List UInt8):Bool:=ord p||(decide (i=0) && decide (p=[42]))
def Dl6:Nat→List (List UInt8)→Bool
 |_,[]=>true
 |i,p::r=>okP i p && Dl6 (i+1) r
def jh:∀(l:List (List UInt8)) (i:Nat),Dl6 i l=Fh (decide (i=0)) l
 |[],_=>rfl
 |p::r,i=>by
  have h1:=jh r (i+1);simp only [Dl6,Fh,h1,okP,Vv];by_cases h2:p=[42]
  ·subst h2;by_cases h3:i=0<;>simp [Dh7,h3]
  ·simp [h2]
def Ct2 (p q:PV) (l:List (List UInt8)) (hl:l.length≤1000000) (hw:∀x∈l,x.length≤9223372036854775807) (N:Nat) (hN:l.length<N):
  Ez8.ev S N [p,q,Bn l]=some (if Dl6 0 l=true then .yld 0 [] else .ret [.b false]):=by
 refine Fg l (fun i=>[.i .i64 (i:Int)]) (fun i r=>if Dl6 i r=true then .yld 0 [] else .ret [.b false]) rfl hN (fun i c r hd hi hc=> ?_) ?_
 ·have hcw:=hw c (A4 hc);have key:Cs4.ev S N ([p,q,Bn l]++[.i .i64 (i:Int)])=some (if okP i c=true then .yld 1 [.i .i64 ((i:Int)+1)] else .ret [.b false]):=by
   rcases Ak (ord c) with h1|h1
   ·simp (disch:=omega) only [Zs,K6,hc,h1,xe,EVP,EV,simprocAttr];simp [okP,h1]
   ·by_cases h2:i=0
    ·subst h2;by_cases h3:c=[42]
     ·subst h3;simp (disch:=omega) only [Zs,K6,hc,h1,xe,EVP,EV,simprocAttr];simp [okP]
     ·simp (disch:=omega) only [Zs,K6,hc,h1,h3,xe,EVP,EV,simprocAttr];simp [okP,h1,h3]
    ·simp (disch:=omega) only [Zs,K6,hc,h1,xe,EVP,EV,simprocAttr];simp [okP,h1,h2]
  rw [key];rcases Ak (okP i c) with h|h<;>simp [h,Dl6,Out.goes]
 ·simp (disch:=omega) only [Zs,xe,EVP,EV,simprocAttr];simp [Out.goes,Dl6]
def ab:∀(m cur:List UInt8) (x:List UInt8),x∈pcs cur m→x.length≤cur.length+m.length
 |[],cur,x,h=>by simp [pcs] at h;subst h;simp
 |c::r,cur,x,h=>by
  simp only [pcs] at h;split at h
  ·rcases Am.1 h with rfl|h
   ·omega
   ·have:=ab r [] x h;simp at this ⊢;omega
  ·have:=ab r _ x h;simp at this ⊢;omega
def Dt4 (m x:List UInt8) (h:x∈cut m):x.length≤m.length:=by simpa using ab m [] x h
def Gr0 (m:List UInt8):(cut m).length≤m.length+1:=by have:=Cm4 m;have:m.count 46≤m.length:=List.count_le_length;omega
def Bg7 (n:List UInt8):([46]:List UInt8).isSuffixOf n=true↔∃m,n=m++[46]:=by rw [Fb];exact ⟨fun ⟨m,h⟩=>⟨m,h.symm⟩,fun ⟨m,h⟩=>⟨m,h.symm⟩⟩
def Dq8 (m:List UInt8) (hm:m≠[]) (hl:m.length≤253):vld (m++[46])=Dl6 0 (cut m):=by have h1:m++[46]≠[46]:=fun e=>hm (Qr (bs:=[46]) (by simpa using e));have h2:0<m.length:=Bc.2 hm;unfold vld nm;rw [if_neg h1,if_pos ⟨by simp;omega,by simp;omega,by simp⟩,Uy,jh];have e:pcs [] m=cut m:=rfl;have e2:Fh (decide ((0:Nat)=0)) (cut m)=Fh true (cut m):=rfl;rw [e,e2];cases Fh true (cut m)<;>rfl
def Dp0 (m:List UInt8) (h:vld (m++[46])=true) (hm:m≠[]):lbl (m++[46])=cut m:=by
 rcases vld_cases h with ⟨h1,_⟩|⟨h1,h2,h3,_⟩
 ·exact absurd (Qr (bs:=[46]) (by simpa using h1)) hm
 ·exact (Af1 h1 (fun p hp=>Mg (Iq h2 hp)) h3.symm).symm
def B0 (n:List UInt8) (hn:n.length≤9223372036854775807):S Jh 1 [.s n]=some [.b (vld n)]:=by
 refine Hb7 (N:=300) rfl ?_;by_cases h0:n=[46]
 ·subst h0;simp (disch:=omega) only [Zs,xe,EVP,EV,simprocAttr];rfl
 ·by_cases h1:255≤n.length
  ·have hv:vld n=false:=by rw [C5];intro h;have:=Gy h;omega
   simp (disch:=omega) only [Zs,h0,hv,xe,EVP,EV,simprocAttr]
  ·rcases Ak (([46]:List UInt8).isSuffixOf n) with h2|h2
   ·obtain ⟨m,rfl⟩:=(Bg7 n).1 h2;have hm:m≠[]:=fun e=>h0 (by simp [e]);have hl:(m++[46]).length=m.length+1:=by simp
    have hml:m.length≤1000000:=by omega
    have e:List.drop 0 (List.take (((m++[46]).length:Int) - 1).toNat (m++[46]))=m:=by
     have:(((m++[46]).length:Int) - 1).toNat=m.length:=by omega
     rw [this];simp
    have hc:=Gr0 m;have hv:=Dq8 m hm (by omega);have hk:=Ct2 (.s (m++[46])) (.b true) (cut m) (by omega) (fun x hx=>by have:=Dt4 m x hx;omega) 300 (by omega);simp (disch:=omega) only [Zs,M6,oh,e,hk,h0,h2,xe,EVP,EV,simprocAttr];rw [hv];cases Dl6 0 (cut m)<;>simp
   ·have hv:vld n=false:=by
     rw [C5];intro h;rcases vld_cases h with ⟨h3,_⟩|⟨h3,_,h5,_⟩
     ·exact h0 h3
     ·obtain ⟨m,hm⟩:=Kg _ h3;have:=(Bg7 n).2 ⟨m,h5.trans hm⟩;rw [h2] at this;cases this
    simp (disch:=omega) only [Zs,M6,h0,h2,hv,xe,EVP,EV,simprocAttr]
def Rs (n:List UInt8) (hn:n.length≤9223372036854775807):S s9 1 [.s n]=some [Bn (lbl n)]:=by
 refine Hy6 (N:=1) rfl ?_;by_cases h0:n=[46]
 ·subst h0;simp (disch:=omega) only [Eg5,Hm,xe,EVP,EV,simprocAttr]
 ·rcases Ak (vld n) with h1|h1
  ·obtain ⟨m,hm,rfl⟩:∃m,m≠[]∧n=m++[46]:=by
    rcases vld_cases h1 with ⟨h3,_⟩|⟨h3,_,h5,_⟩
    ·exact absurd h3 h0
    ·obtain ⟨m,hm⟩:=Kg _ h3;exact ⟨m,fun e=>h0 (by rw [h5,hm,e];rfl),h5.trans hm⟩
   have hl:(m++[46]).length=m.length+1:=by simp
   have e:List.drop 0 (List.take (((m++[46]).length:Int) - 1).toNat (m++[46]))=m:=by
    have:(((m++[46]).length:Int) - 1).toNat=m.length:=by omega
    rw [this];simp
   have hl2:=Gy h1;have e2:=Dp0 m h1 hm;simp (disch:=omega) only [Eg5,B0,oh,e,e2,h0,h1,xe,EVP,EV,simprocAttr]
  ·have e:lbl n=[]:=by
    unfold lbl;unfold vld at h1;cases h:nm n with
    |none=>rfl
    |some l=>rw [h] at h1;cases h1
   simp (disch:=omega) only [Eg5,B0,h0,h1,e,xe,EVP,EV,simprocAttr]
def Jx (p:List UInt8) (l:List (List UInt8)):flat (p::l)=p++46::flat l:=by simp [flat]
def Rx (n:List UInt8):List UInt8:=if vld n=true∧n≠[46] then jn ((lbl n).drop 1) else []
def Ad2 (n:List UInt8):Bool:=vld n && !decide (n=[46])
def N0 (n:List UInt8) (hn:n.length≤9223372036854775807):S Sx 1 [.s n]=some [.s (Rx n), .b (Ad2 n)]:=by
 refine Gk6 (N:=1) rfl ?_;unfold Rx Ad2;by_cases h0:n=[46]
 ·subst h0;simp (disch:=omega) only [zc,xe,EVP,EV,simprocAttr];simp
 ·rcases Ak (vld n) with h1|h1
  ·rcases vld_cases h1 with ⟨h3,_⟩|⟨h3,h4,h5,h6⟩
   ·exact absurd h3 h0
   ·cases hl:lbl n with
    |nil=>exact absurd hl h3
    |cons p r=>
     rw [hl] at h4 h5;have hp:=Mg (Iq h4 (G0 ..));have hi:=o3 n 46;have hc:(((46:UInt8).toNat:Nat):Int)=46:=rfl;have hx:Lib.indexByte n 46=(p.length:Int):=by rw [h5,Jx];exact Kw 46 _ p hp
     rw [hc,hx] at hi;have hlen:n.length=p.length+1+(flat r).length:=by rw [h5,Jx];simp;omega
     have e:List.drop ((p.length:Int)+1).toNat (List.take n.length n)=flat r:=by
      have:((p.length:Int)+1).toNat=p.length+1:=by omega
      rw [this,Dq,h5,Jx];simp
     by_cases h7:r=[]
     ·subst h7;have e2:flat []=[]:=rfl;simp (disch:=omega) only [zc,B0,hi,e,e2,h0,h1,xe,EVP,EV,simprocAttr];simp [jn]
     ·have e2:¬flat r=[]:=by obtain ⟨m,hm⟩:=Kg r h7;rw [hm];simp
      simp (disch:=omega) only [zc,B0,hi,e,e2,h0,h1,xe,EVP,EV,simprocAttr];simp [jn,h7]
  ·simp (disch:=omega) only [zc,B0,h0,h1,xe,EVP,EV,simprocAttr];simp
def u7 (n top:List UInt8):Bool:=(decide (top=[46])||decide (n=top))||(46::top).isSuffixOf n
def c9 (n top:List UInt8) (hn:n.length≤9223372036854775807) (ht:top.length≤1000000):S tj 2 [.s n, .s top]=some [.b (u7 n top)]:=by
 refine Hy8 (N:=1) rfl ?_;unfold u7;have h0:([46]:List UInt8).length=1:=rfl;by_cases h1:top=[46]<;>by_cases h2:n=top<;>simp (disch:=omega) only [Hk4,M6,h1,h2,xe,EVP,EV,simprocAttr]
 all_goals simp
def u4 {a b:List (List UInt8)} (ha:Fh true a=true) (hb:Fh true b=true) (h:(46::flat b)<:+flat a):b<:+a:=by obtain ⟨p,hp⟩:=h;have h1:=Ts a (fun x hx=>Mg (Iq ha hx));have h2:=Ts b (fun x hx=>Mg (Iq hb hx));rw [←hp] at h1;have h3:cut (p++46::flat b)=cut p++cut (flat b):=Un (flat b) p [];rw [h3,h2,←As] at h1;exact ⟨cut p,Qr h1⟩
def Ad8 {n top:List UInt8} (hn:vld n=true) (ht:vld top=true):u7 n top=true↔lbl top<:+lbl n:=by
 unfold u7;simp only [An,decide_eq_true_eq,Fb];constructor
 ·rintro ((rfl|rfl)|h)
  ·rw [Hm];exact List.nil_suffix
  ·exact List.suffix_refl _
  ·rcases vld_cases ht with ⟨h1,h2⟩|⟨h1,h2,h3,_⟩
   ·rw [h2];exact List.nil_suffix
   ·rcases vld_cases hn with ⟨h5,_⟩|⟨h5,h6,h7,_⟩
    ·rw [h5] at h;have h9:=h.length_le;have h8:=Gd h2 h1;rw [←h3] at h8;simp only [A5,Bf] at h9;omega
    ·rw [h3,h7] at h;exact u4 h6 h2 h
 ·intro h;obtain ⟨p,hp⟩:=h;rcases vld_cases ht with ⟨h1,h2⟩|⟨h1,h2,h3,_⟩
  ·exact .inl (.inl h1)
  ·by_cases hp0:p=[]
   ·left;right;subst hp0;exact Lq hn ht hp.symm
   ·right;rcases vld_cases hn with ⟨_,h5⟩|⟨h5,h6,h7,_⟩
    ·rw [h5] at hp;exact absurd (List.append_eq_nil_iff.1 hp).1 hp0
    ·obtain ⟨m,hm⟩:=Kg p hp0;rw [h7,←hp,Ly,hm];exact ⟨m,by rw [As,←h3];simp⟩
def V6 {α:Type} [DecidableEq α]:∀(a b:List α),V7 a b=b.length↔b<+:a
 |[],[]=>by simp [V7]
 |[],y::ys=>by simp [V7]
 |x::xs,[]=>by simp [V7]
 |x::xs,y::ys=>by
  have:=V6 xs ys;simp only [V7];split
  ·rename_i h;subst h;simp [this,H6]
  ·rename_i h;simp [H6,Ne.symm h]
def i6 (a b:List (List UInt8)):Ky a b=b.length↔b<:+a:=by unfold Ky;have:=V6 a.reverse b.reverse;rw [List.length_reverse] at this;rw [this,Ef7]
def Bw {n top:List UInt8}:under n top=true↔vld n=true∧vld top=true∧lbl top<:+lbl n:=by unfold under;simp [i6,and_assoc]
def Xy {n top:List UInt8} (hn:vld n=true) (ht:vld top=true):u7 n top=under n top:=by rw [Cr,Ad8 hn ht,Bw];simp [hn,ht]
def Ec (n top:List UInt8) (hn:n.length≤9223372036854775807) (ht:top.length≤9223372036854775807):S Mz 2 [.s n, .s top]=some [.b (under n top)]:=by
 refine Hd3 (N:=1) rfl ?_;rcases Ak (vld n) with h1|h1
 ·rcases Ak (vld top) with h2|h2
  ·have h3:=Gy h2;simp (disch:=omega) only [Eg7,B0,c9,h1,h2,xe,EVP,EV,simprocAttr];rw [Xy h1 h2]
  ·have h3:under n top=false:=by simp [under,h2]
   simp (disch:=omega) only [Eg7,B0,h1,h2,h3,xe,EVP,EV,simprocAttr]
 ·have h3:under n top=false:=by simp [under,h1]
  simp (disch:=omega) only [Eg7,B0,h1,h3,xe,EVP,EV,simprocAttr]
end Go.X.G
/- Names: order, common ancestors, wildcards. -/
namespace Go.X.G
open Go Go.X
def Sm:∀(a:List UInt8),Op.bytesLess a a=false
 |[]=>rfl
 |a::x=>by simp [Op.bytesLess,Sm x]
def M0:∀(a b:List UInt8),Lib.compareBytes a b=cmpS a b
 |[],[]=>rfl
 |[],_::_=>rfl
 |_::_,[]=>rfl
 |a::x,b::y=>by
  have ih:=M0 x y;unfold cmpS at ih ⊢;simp only [Lib.compareBytes,Op.bytesLess,ih];by_cases h1:a<b
  ·simp [h1]
  ·by_cases h2:b<a
   ·have h3:a≠b:=fun e=>by subst e;exact h1 h2
    simp [h1,h2,h3]
   ·have h3:a=b:=UInt8.le_antisymm (UInt8.not_lt.1 h2) (UInt8.not_lt.1 h1);subst h3;simp [h1]
def Jz {a b:List UInt8}:cmpS a b=0↔a=b:=by
 unfold cmpS;by_cases h:a=b
 ·subst h;simp [Sm]
 ·cases h2:Op.bytesLess a b<;>simp [h]
def Lf (x y:List UInt8):S j5 2 [.s x, .s y]=some [.i .i64 (cmpS x y)]:=by rw [yg,M0]
def Wp:List (List UInt8)→List (List UInt8)→Option Int
 |x::xs,y::ys=>if x=y then Wp xs ys else some (cmpS x y)
 |_,_=>none
def Cm8:∀(a b:List (List UInt8)),Wp a b=if V7 a b<a.length∧V7 a b<b.length then some (cmpS (a.getD (V7 a b) []) (b.getD (V7 a b) [])) else none
 |[],b=>by simp [Wp,V7]
 |x::xs,[]=>by simp [Wp,V7]
 |x::xs,y::ys=>by
  have ih:=Cm8 xs ys;simp only [Wp,V7];by_cases h:x=y
  ·simp only [if_pos h,ih];simp
  ·simp [h]
def Bx2 (a b:List (List UInt8)):Int:=match Wp a.reverse b.reverse with
 |some c=>c
 |none=>if a.length<b.length then -1 else if b.length<a.length then 1 else 0
def Ad4 (a:List (List UInt8)) (k:Nat) (h:k<a.length):a.reverse.getD k []=a.getD (a.length - 1 - k) []:=by simp [Br,List.getElem?_reverse h]
def dl {a b:List UInt8} (ha:vld a=true) (hb:vld b=true):Iy a b=Bx2 (lbl a) (lbl b):=by
 unfold Iy Bx2;rw [Cm8];have e:V7 (lbl a).reverse (lbl b).reverse=Ky (lbl a) (lbl b):=rfl;rw [e,ha,hb];simp only [List.length_reverse,Bool.and_self,if_true];by_cases h:Ky (lbl a) (lbl b)<(lbl a).length∧Ky (lbl a) (lbl b)<(lbl b).length
 ·rw [if_pos h,if_pos h,Ad4 _ _ h.1,Ad4 _ _ h.2]
 ·rw [if_neg h,if_neg h]
def yl (a b:List (List UInt8)) (p1 p2 p3 p4:PV) (ha:a.length≤1000) (hb:b.length≤1000) (N:Nat) (hN:1001<N):
  Cc8.ev S N [p1,p2,p3,p4,Bn a,Bn b]=some (match Wp a.reverse b.reverse with|some c=> .ret [.i .i64 c]|none=> .yld 0 []):=by
 have key:=Kb (fn:=S) (N:=N) (η:=[p1,p2,p3,p4,Bn a,Bn b]) (id:=1) (init:=[(.c (.i .i64 (1)))]) (body:=Cs5) (α:=Nat) (fun k=>[.i .i64 ((k:Int)+1)])
  (fun k=>match Wp (a.reverse.drop k) (b.reverse.drop k) with|some c=> .ret [.i .i64 c]|none=> .yld 0 []) (fun k=>k≤a.length∧k≤b.length) (fun k=>a.length - k) 0 rfl ⟨Ct _,Ct _⟩ (by omega) ?_
 ·simpa [Cc8] using key
 ·rintro k ⟨h1,h2⟩;by_cases h3:k<a.length
  ·by_cases h4:k<b.length
   ·have e1:((a.length:Int) - ((k:Int)+1)).toNat=a.length - 1 - k:=by omega
    have e2:((b.length:Int) - ((k:Int)+1)).toNat=b.length - 1 - k:=by omega
    have g1:a[a.length - 1 - k]? =some (a[a.length - 1 - k]'(by omega)):=Ay (by omega);have g2:b[b.length - 1 - k]? =some (b[b.length - 1 - k]'(by omega)):=Ay (by omega);have d1:a.reverse.drop k=(a[a.length - 1 - k]'(by omega))::a.reverse.drop (k+1):=by rw [Cl (by simpa using h3)];simp
    have d2:b.reverse.drop k=(b[b.length - 1 - k]'(by omega))::b.reverse.drop (k+1):=by rw [Cl (by simpa using h4)];simp
    rw [d1,d2];generalize (a[a.length - 1 - k]'(by omega))=x at g1;generalize (b[b.length - 1 - k]'(by omega))=y at g2;simp only [Wp];by_cases h:x=y
    ·left;have h5:cmpS x y=0:=Jz.2 h;refine ⟨k+1,?_,⟨by omega,by omega⟩,by omega,by rw [if_pos h]⟩;simp (disch:=omega) only [qd,Lf,e1,e2,g1,g2,h5,xe,EVP,EV,simprocAttr]
    ·right;have h5:¬cmpS x y=0:=fun e=>h (Jz.1 e);rw [if_neg h];simp (disch:=omega) only [qd,Lf,e1,e2,g1,g2,h5,xe,EVP,EV,simprocAttr];simp [Out.goes]
   ·right;have d2:b.reverse.drop k=[]:=Zf (by simp;omega);have z:Wp (a.reverse.drop k) []=none:=by cases a.reverse.drop k<;>rfl
    rw [d2,z];simp (disch:=omega) [qd,xe,EVP,EV,simprocAttr,Out.goes]
  ·right;have d1:a.reverse.drop k=[]:=Zf (by simp;omega);have z:Wp [] (b.reverse.drop k)=none:=rfl;rw [d1,z];simp (disch:=omega) [qd,xe,EVP,EV,simprocAttr,Out.goes]
def H4 (a b:List UInt8) (hn:a.length≤9223372036854775807) (ht:b.length≤9223372036854775807):S Oc 2 [.s a, .s b]=some [.i .i64 (Iy a b)]:=by
 refine Hd2 (N:=1002) rfl ?_;have h1:=Lk a;have h2:=Lk b;rcases Ak (vld a) with h3|h3<;>rcases Ak (vld b) with h4|h4
 ·rw [dl h3 h4];unfold Bx2;have hk:=yl (lbl a) (lbl b) (.s a) (.s b) (.b true) (.b true) (by omega) (by omega) 1002 (by omega);cases h5:Wp (lbl a).reverse (lbl b).reverse with
  |some c=>
   rw [h5] at hk;simp (disch:=omega) only [qd,B0,Rs,hk,h3,h4,xe,EVP,EV,simprocAttr]
  |none=>
   rw [h5] at hk;simp (disch:=omega) only [qd,B0,Rs,hk,h3,h4,xe,EVP,EV,simprocAttr]
   grind
 all_goals unfold Iy
 all_goals simp (disch:=omega) only [qd,B0,Lf,h3,h4,xe,EVP,EV,simprocAttr]
 all_goals simp
def Eb (a b:List UInt8):List UInt8:=if vld a=true∧vld b=true then jn ((lbl a).drop ((lbl a).length - Ky (lbl a) (lbl b))) else []
def gt {α:Type} [DecidableEq α]:∀(a b:List α) (j:Nat),j≤a.length→(a.take j<+:b↔j≤V7 a b)
 |_,_,0,_=>by simp
 |[],_,j+1,h=>by simp at h
 |x::xs,[],j+1,h=>by simp [V7]
 |x::xs,y::ys,j+1,h=>by
  have:=gt xs ys j (by simpa using h);simp only [Ef6,V7,H6];by_cases hxy:x=y
  ·simp [hxy,this]
  ·simp [hxy]
def V3 (a b:List (List UInt8)) (k:Nat) (h:k≤a.length):a.drop k<:+b↔a.length - k≤Ky a b:=by unfold Ky;rw [←gt _ _ _ (by simp),←Ef7,List.reverse_drop]
def Yp {n:List UInt8} (h:vld n=true) (k:Nat):(jn ((lbl n).drop k)).length≤254:=Gy (Jt h k).1
def Dj2 (a b:List UInt8) (p1 p2 p3 p4:PV) (ha:vld a=true) (hb:vld b=true) (N:Nat) (hN:300<N) (hp1:p1= .s a) (hp2:p2= .s b):
  uk.ev S N [p1,p2,p3,p4]=some (.yld 0 [.s (Eb a b)]):=by
 subst hp1;subst hp2;have hl:=Lk a;have hs:=Dd7 (lbl a) (lbl b);have hla:=Gy ha;have hlb:=Gy hb;have ec:Eb a b=jn ((lbl a).drop ((lbl a).length - Ky (lbl a) (lbl b))):=by unfold Eb;rw [if_pos ⟨ha,hb⟩]
 have key:=Kb (fn:=S) (N:=N) (η:=[.s a, .s b,p3,p4]) (id:=1) (init:=[(.v 0)]) (body:=yx) (α:=Nat) (fun k=>[.s (jn ((lbl a).drop k))])
  (fun k=> .yld 0 [.s (Eb a b)]) (fun k=>k+Ky (lbl a) (lbl b)≤(lbl a).length) (fun k=>(lbl a).length - k) 0 (by
   have:jn ((lbl a).drop 0)=a:=by rw [Ey];exact (L8 ha).symm
   rw [this];rfl) (by omega) (by omega) ?_
 ·simpa [uk] using key
 ·intro k hk;obtain ⟨hv,hlk⟩:=Jt ha k;have hlen:=Yp ha k;have he:u7 b (jn ((lbl a).drop k))=true↔(lbl a).length - k≤Ky (lbl a) (lbl b):=by rw [Ad8 hb hv,hlk,V3 _ _ _ (by omega)]
  by_cases h:(lbl a).length - k≤Ky (lbl a) (lbl b)
  ·right;have h1:=he.2 h;have h2:(lbl a).length - Ky (lbl a) (lbl b)=k:=by omega
   simp (disch:=omega) only [f9,c9,h1,xe,EVP,EV,simprocAttr];rw [ec,h2];simp [Out.goes]
  ·left;have h1:u7 b (jn ((lbl a).drop k))=false:=by rw [C5];intro h2;exact h (he.1 h2)
   have h2:Rx (jn ((lbl a).drop k))=jn ((lbl a).drop (k+1)):=by
    unfold Rx;have h3:jn ((lbl a).drop k)≠[46]:=by intro e;have:=(Vj hv).2 e;rw [hlk] at this;have:=congrArg List.length this;simp at this;omega
    rw [if_pos ⟨hv,h3⟩,hlk,Cf]
   refine ⟨k+1,?_,by omega,by omega,rfl⟩;simp (disch:=omega) only [f9,c9,N0,h1,h2,xe,EVP,EV,simprocAttr]
def By8 (a b:List UInt8) (ha:a.length≤9223372036854775807) (hb:b.length≤9223372036854775807):S Yw 2 [.s a, .s b]=some [.s (Eb a b)]:=by
 refine Ft7 (N:=301) rfl ?_;rcases Ak (vld a) with h3|h3
 ·rcases Ak (vld b) with h4|h4
  ·have hk:=Dj2 a b (.s a) (.s b) (.b true) (.b true) h3 h4 301 (by omega) rfl rfl;simp (disch:=omega) only [f9,B0,hk,h3,h4,xe,EVP,EV,simprocAttr]
  ·simp (disch:=omega) only [f9,B0,h3,h4,xe,EVP,EV,simprocAttr];simp [Eb,h4]
 ·simp (disch:=omega) only [f9,B0,h3,xe,EVP,EV,simprocAttr];simp [Eb,h3]
def Cb3 (n:List UInt8):Int:=if n=[46] then 1 else if vld n=true then (n.length:Int)+1 else 0
def Ct6 (n:List UInt8) (hn:n.length≤9223372036854775807):S Yv 1 [.s n]=some [.i .i64 (Cb3 n)]:=by
 refine Ft6 (N:=1) rfl ?_;unfold Cb3;by_cases h:n=[46]
 ·simp (disch:=omega) only [Bd8,h,xe,EVP,EV,simprocAttr]
 ·rcases Ak (vld n) with h3|h3
  ·have:=Gy h3;simp (disch:=omega) only [Bd8,B0,h,h3,xe,EVP,EV,simprocAttr]
  ·simp (disch:=omega) only [Bd8,B0,h,h3,xe,EVP,EV,simprocAttr]
def Oy (n:List UInt8):List UInt8:=if n=[46] then [42,46] else [42,46]++n
def starOk (n:List UInt8):Bool:=vld n && !decide ((lbl n)[0]? =some [42]) && vld (Oy n)
def starN (n:List UInt8):List UInt8:=if starOk n=true then Oy n else []
def Q9 {n:List UInt8} (h:vld n=true):(n[0]? =some 42↔(lbl n)[0]? =some [42]):=by
 rcases vld_cases h with ⟨h1,h2⟩|⟨h1,h2,h3,_⟩
 ·subst h1;simp [Hm]
 ·cases hl:lbl n with
  |nil=>exact absurd hl h1
  |cons p r=>
   rw [hl] at h2 h3;have hp:=Iq h2 (G0 ..);have hne:=Ad1 hp;cases p with
   |nil=>exact absurd rfl hne
   |cons c q=>
    rw [h3,Jx];simp only [B8,B6,Aq];constructor
    ·rintro rfl;unfold L1 at hp;simp at hp;rcases hp with h|h
     ·rw [h]
     ·exfalso;have:W5 42=false:=by decide
      rw [this] at h;simp at h
    ·intro h;injection h
def T3 (n:List UInt8) (hn:n.length≤1000000):S tq 1 [.s n]=some [.s (starN n), .b (starOk n)]:=by
 refine Hz7 (N:=1) rfl ?_;have h0:([42,46]:List UInt8).length=2:=rfl;have hl:(Oy n).length≤9223372036854775807:=by
  unfold Oy;split
  ·simp
  ·rw [Ab,h0];omega
 unfold starN starOk;have tail:T.ev S 1 Cn8 [.s n, .s (Oy n)]=some (.ret [.s (starN n), .b (starOk n)]):=by
  unfold starN starOk;rcases Ak (vld n) with h3|h3
  ·have h4:=Q9 h3;have h5:=Ay (Pq h3);have h6:=Hw5 (n[0]'(Pq h3)) 42 (by omega);by_cases h7:(lbl n)[0]? =some [42]
   ·have h8:=h4.2 h7;rw [h5] at h8;injection h8 with h8;have h9:((n[0]'(Pq h3)).toNat:Int)=42:=h6.2 h8;simp (disch:=omega) only [Dq6,B0,h3,h5,xe,EVP,EV,simprocAttr];simp [h7]
   ·have h8:¬n[0]? =some 42:=fun e=>h7 (h4.1 e);rw [h5] at h8;have h9:¬((n[0]'(Pq h3)).toNat:Int)=42:=fun e=>h8 (by rw [h6.1 e];rfl);rcases Ak (vld (Oy n)) with ha|ha<;>simp (disch:=omega) only [Dq6,B0,h3,h5,ha,xe,EVP,EV,simprocAttr]<;>simp [h7]
  ·simp (disch:=omega) only [Dq6,B0,h3,xe,EVP,EV,simprocAttr];simp
 unfold starN starOk at tail;obtain ⟨y0,y1,y2,y3,y4,y5,y6,y7,yt⟩:=Dq6;by_cases h4:n=[46]
 ·have e:Oy n=[42,46]:=by simp [Oy,h4]
  rw [e] at tail ⊢;subst h4;simp (disch:=omega) only [y0,y1,y2,yt,xe,EVP,EV,simprocAttr];rw [tail];simp
 ·have e:Oy n=42::46::n:=by simp [Oy,h4]
  rw [e] at tail ⊢;simp (disch:=omega) only [y0,y1,y2,yt,h4,xe,EVP,EV,simprocAttr];rw [tail];simp
end Go.X.G
/- Data of records: what the reference's functions give. -/
namespace Go.X.G
open Go Go.X
def t15 (t:Int):t=1∨t=2∨t=5∨t=6∨t=12∨t=15∨t=16∨t=28∨t=33∨t=39∨t=43∨t=46∨t=47∨t=48∨(t≠1∧t≠2∧t≠5∧t≠6∧t≠12∧t≠15∧t≠16∧t≠28∧t≠33∧t≠39∧t≠43∧t≠46∧t≠47∧t≠48):=by omega
def knw (t:Int):Bool:=decide (t=1)||decide (t=2)||decide (t=5)||decide (t=6)||decide (t=12)||decide (t=15)||decide (t=16)||decide (t=28)||decide (t=33)||decide (t=39)||decide (t=43)||decide (t=46)||decide (t=47)||decide (t=48)
def Eh (d:Dat):Bool:=d.v6||(decide (d.hi=0) && decide (d.lo<4294967296))
def inB (n most:Int):Bool:=decide (0≤n) && decide (n≤most)
def Jf (s:List UInt8):Bool:=decide (1≤s.length) && decide (s.length≤255)
def Ik (n:List UInt8):Bool:=vld n && decide (n[0]? ≠some 42)
def bit (set:Int) (t:Nat):Int:=set / 2 ^ t % 2
def Ij7 (x:Int):IntKind.u64.wrap ((BitVec.ofInt IntKind.u64.bits x &&& BitVec.ofInt IntKind.u64.bits 1).toNat:Int)=x % 2:=by
 have h2:(BitVec.ofInt 64 x &&& BitVec.ofInt 64 1).toNat=(BitVec.ofInt 64 x).toNat % 2:=by rw [BitVec.toNat_and];show (BitVec.ofInt 64 x).toNat &&& 1=_;exact Nat.and_one_is_mod _
 show IntKind.u64.wrap (((BitVec.ofInt 64 x &&& BitVec.ofInt 64 1).toNat:Nat):Int)=_;rw [h2,BitVec.toNat_ofInt];rw [Fb4]<;>omega
end Go.X.G
/- NSEC records: what they show. -/
namespace Go.X.G
open Go Go.X
def O0 (r:Rec) (t:Int):Bool:=decide (0≤t) && decide (t≤63) && decide (bit r.data.bits t.toNat=1)
def Kz (r:Rec) (t:Int):S S4 2 [r.pv, .i .i64 t]=some [.b (O0 r t)]:=by
 refine Hy5 (N:=1) rfl ?_;unfold O0;by_cases h1:0≤t
 ·by_cases h2:t≤63
  ·obtain ⟨n,rfl⟩:∃n:Nat,t=(n:Int):=⟨t.toNat,by omega⟩;have hb:IntKind.u64.bits=64:=rfl;have h3:X.bin .shr (.i .u64 r.data.bits) (.i .i64 (n:Int))=some (.i .u64 (r.data.bits / 2 ^ n)):=Bh8 _ _ _ _ (by rw [hb];omega);have h4:r.data.bits / 2 ^ n % 2=bit r.data.bits n:=rfl;simp (disch:=omega) only [Eg4,d7,Ij7,h3,h4,xe,EVP,EV,simprocAttr]
   try simp
   try omega
  ·simp (disch:=omega) only [Eg4,xe,EVP,EV,simprocAttr]
   try simp [h2]
 ·simp (disch:=omega) only [Eg4,xe,EVP,EV,simprocAttr]
  try simp [h1]
def Hc (n top:List UInt8):Bool:=decide (n≠top) && under n top
def Hy (n top:List UInt8) (hn:n.length≤9223372036854775807) (ht:top.length≤9223372036854775807):S tx 2 [.s n, .s top]=some [.b (Hc n top)]:=by
 refine Hd1 (N:=1) rfl ?_;unfold Hc;by_cases h:n=top
 ·simp (disch:=omega) only [Fd2,h,xe,EVP,EV,simprocAttr]
  try simp
 ·simp (disch:=omega) only [Fd2,Ec,h,xe,EVP,EV,simprocAttr]
  try simp
def M2 (r:Rec):Bool:=O0 r 39||(O0 r 2 && !O0 r 6)
def Ag4 (r:Rec):S Cx7 1 [r.pv]=some [.b (M2 r)]:=by refine Hd0 (N:=1) rfl ?_;unfold M2;rcases Ak (O0 r 39) with h1|h1<;>rcases Ak (O0 r 2) with h2|h2<;>rcases Ak (O0 r 6) with h3|h3<;>simp (disch:=omega) only [Hq7,Kz,h1,h2,h3,xe,EVP,EV,simprocAttr]<;>rfl
def F4 (r:Rec) (zone name:List UInt8):Bool:=
 decide (r.typ=47) && under name zone && decide (0<Iy name r.name) && !(decide (r.data.host≠zone) && decide (0≤Iy name r.data.host)) && (!Hc name r.name|| !M2 r)
def M7 (r:Rec) (zone name:List UInt8) (hr:r.wf) (hz:zone.length≤9223372036854775807) (hn:name.length≤9223372036854775807):S bl 3 [r.pv, .s zone, .s name]=some [.b (F4 r zone name)]:=by
 refine Hf3 (N:=1) rfl ?_;have g1:=hr.name;have g2:=hr.data.host;unfold Q8 at g1 g2;unfold F4;by_cases h1:r.typ=47
 ·rcases Ak (under name zone) with h2|h2
  ·by_cases h3:0<Iy name r.name
   ·by_cases h4:r.data.host=zone
    ·rcases Ak (Hc name r.name) with h6|h6<;>rcases Ak (M2 r) with h7|h7<;>simp (disch:=omega) only [Am9,Ec,H4,Hy,Ag4,h1,h2,h4,h6,h7,xe,EVP,EV,simprocAttr]<;>simp [h3]
    ·by_cases h5:0≤Iy name r.data.host
     ·simp (disch:=omega) only [Am9,Ec,H4,h1,h2,h4,xe,EVP,EV,simprocAttr]
      try simp [h4,h5]
     ·rcases Ak (Hc name r.name) with h6|h6<;>rcases Ak (M2 r) with h7|h7<;>simp (disch:=omega) only [Am9,Ec,H4,Hy,Ag4,h1,h2,h4,h6,h7,xe,EVP,EV,simprocAttr]<;>simp [h3,h5]
   ·simp (disch:=omega) only [Am9,Ec,H4,h1,h2,xe,EVP,EV,simprocAttr]
    try simp [h3]
  ·simp (disch:=omega) only [Am9,Ec,h1,h2,xe,EVP,EV,simprocAttr]
   try simp
 ·simp (disch:=omega) only [Am9,h1,xe,EVP,EV,simprocAttr]
  try simp
def dj (r:Rec) (name:List UInt8):List UInt8:=if Cb3 (Eb name r.name)<Cb3 (Eb name r.data.host) then Eb name r.data.host else Eb name r.name
def Ld (a b:List UInt8):(Eb a b).length≤254:=by
 unfold Eb;split
 ·rename_i h;exact Yp h.1 _
 ·simp
def Ut (r:Rec) (name:List UInt8) (hr:r.wf) (hn:name.length≤9223372036854775807):S Cw2 2 [r.pv, .s name]=some [.s (dj r name)]:=by refine Hy3 (N:=1) rfl ?_;have g1:=hr.name;have g2:=hr.data.host;unfold Q8 at g1 g2;have h1:=Ld name r.name;have h2:=Ld name r.data.host;unfold dj;by_cases h:Cb3 (Eb name r.name)<Cb3 (Eb name r.data.host)<;>simp (disch:=omega) only [Hk2,By8,Ct6,h,xe,EVP,EV,simprocAttr]
def Cl3 (r:Rec) (name:List UInt8):(dj r name).length≤254:=by
 unfold dj;split
 ·exact Ld _ _
 ·exact Ld _ _
def Xf (zone name:List UInt8) (r:Rec):Option (List UInt8):=
 if F4 r zone name && !Hc r.data.host name && starOk (dj r name) then some (starN (dj r name)) else none
def starsN (l:List Rec) (zone name:List UInt8):List (List UInt8):=l.filterMap (Xf zone name)
def Ay2 (l:List Rec) (zone name:List UInt8) (hw:∀r∈l,r.wf) (hl:l.length≤1000000) (hz:zone.length≤9223372036854775807) (hn:name.length≤9223372036854775807):
  S Bk9 3 [Ag l, .s zone, .s name]=some [Bn (starsN l zone name)]:=by
 refine Hc8 (N:=l.length+1) rfl ?_;have key:Eb2.ev S (l.length+1) [Ag l, .s zone, .s name]=some (.yld 0 [Bn ([]++starsN l zone name)]):=by
  refine E8 l (fun i (g:List (List UInt8))=>[Bn g, .i .i64 (i:Int)]) (fun i g r=> .yld 0 [Bn (g++starsN r zone name)]) (fun i g=>g.length≤i) [] rfl (Af _) (by omega) (fun i g c r hd hi hc hI=> ?_) (fun g hI=> ?_)
  ·left;have hcw:=hw c (A4 hc);have g2:=hcw.data.host;unfold Q8 at g2;have h1:=M7 c zone name hcw hz hn;have h2:=Ut c name hcw hn;have h3:=Cl3 c name;cases h:Xf zone name c with
   |some s=>
    refine ⟨g++[s],?_,by simp;omega,by simp [starsN,h]⟩;unfold Xf at h;split at h
    ·rename_i hc2;injection h with h;subst h;simp only [Av,A6] at hc2;obtain ⟨⟨k1,k2⟩,k3⟩:=hc2;simp (disch:=omega) only [Am8,hc,h1,h2,Hy,T3,k1,k2,k3,xe,EVP,EV,simprocAttr]
    ·cases h
   |none=>
    refine ⟨g,?_,by omega,by simp [starsN,h]⟩;unfold Xf at h;split at h
    ·cases h
    ·rename_i hc2;rcases ch3 (F4 c zone name) (!Hc c.data.host name) (starOk (dj c name)) with e0|⟨e0,e1⟩|⟨e0,e1,e2⟩|⟨e0,e1,e2⟩
     ·simp (disch:=omega) only [Am8,hc,h1,e0,xe,EVP,EV,simprocAttr]
     ·simp only [Bool.not_eq_false'] at e1;simp (disch:=omega) only [Am8,hc,h1,Hy,e0,e1,xe,EVP,EV,simprocAttr]
     ·simp only [A6] at e1;simp (disch:=omega) only [Am8,hc,h1,h2,Hy,T3,e0,e1,e2,xe,EVP,EV,simprocAttr]
     ·exact absurd (by simp [e0,e1,e2]) hc2
  ·simp (disch:=omega) only [Am8,xe,EVP,EV,simprocAttr]
   try simp [starsN,Out.goes]
 simp (disch:=omega) only [Am8,key,xe,EVP,EV,simprocAttr]
def Kc (v:List UInt8):List (List UInt8)→Nat→Int
 |[],_=> -1
 |x::r,i=>if v=x then (i:Int) else Kc v r (i+1)
def m7 (v:List UInt8):∀(l:List (List UInt8)) (i:Nat),decide (0≤Kc v l i)=decide (v∈l)
 |[],i=>by simp [Kc]
 |x::r,i=>by
  simp only [Kc];by_cases h:v=x
  ·simp [h]
  ·simp only [if_neg h,m7 v r (i+1)];simp [h]
def Bl8 (l:List (List UInt8)) (v:List UInt8) (hl:l.length≤1000000):S Yh 2 [Bn l, .s v]=some [.i .i64 (Kc v l 0)]:=by
 refine Ew9 (N:=l.length+1) rfl ?_;have key:uq.ev S (l.length+1) [Bn l, .s v]=some (if Kc v l 0= -1 then .yld 0 [] else .ret [.i .i64 (Kc v l 0)]):=by
  refine Fg l (fun i=>[.i .i64 (i:Int)]) (fun i r=>if Kc v r i= -1 then .yld 0 [] else .ret [.i .i64 (Kc v r i)]) rfl (by omega) (fun i c r hd hi hc=> ?_) ?_
  ·by_cases h:v=c
   ·right;simp (disch:=omega) only [N2,hc,h,xe,EVP,EV,simprocAttr];have:¬((i:Int)= -1):=by omega
    simp [Kc,this,Out.goes]
   ·left;simp (disch:=omega) only [N2,hc,h,xe,EVP,EV,simprocAttr]
    try simp [Kc,h]
  ·simp (disch:=omega) only [N2,xe,EVP,EV,simprocAttr]
   try simp [Kc,Out.goes]
 by_cases h:Kc v l 0= -1
 ·rw [if_pos h] at key;simp (disch:=omega) only [N2,key,h,xe,EVP,EV,simprocAttr]
 ·rw [if_neg h] at key;simp (disch:=omega) only [N2,key,xe,EVP,EV,simprocAttr]
def R9 (l:List (List UInt8)) (v:List UInt8) (hl:l.length≤1000000):S W4 2 [Bn l, .s v]=some [.b (decide (v∈l))]:=by refine Fn3 (N:=1) rfl ?_;rw [←m7 v l 0];simp (disch:=omega) only [Fd0,Bl8,xe,EVP,EV,simprocAttr]
def Hj (l:List Rec) (zone name star:List UInt8):Bool:=decide (star∈starsN l zone name)
def Xd (l:List Rec) (zone name:List UInt8):(starsN l zone name).length≤l.length:=List.length_filterMap_le _ _
def Wd (l:List Rec) (zone name star:List UInt8) (hw:∀r∈l,r.wf) (hl:l.length≤1000000) (hz:zone.length≤9223372036854775807) (hn:name.length≤9223372036854775807):
  S Bq1 4 [Ag l, .s zone, .s name, .s star]=some [.b (Hj l zone name star)]:=by
 refine Hd4 (N:=1) rfl ?_;have h1:=Xd l zone name;simp (disch:=omega) only [Hq8,Ay2 l zone name hw hl hz hn,R9,Hj,xe,EVP,EV,simprocAttr]
end Go.X.G
