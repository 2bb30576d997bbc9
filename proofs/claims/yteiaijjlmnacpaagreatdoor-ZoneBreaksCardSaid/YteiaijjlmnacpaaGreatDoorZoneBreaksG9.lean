/- Names: what the reference's functions give. -/
import Derived.Test.YteiaijjlmnacpaaGreatDoorZoneBreaksG7
import Derived.Test.YteiaijjlmnacpaaGreatDoorZoneBreaksG8
open Bool renaming eq_false_or_eq_true→Aq,and_eq_true→Av,false_eq_true→Ad,or_eq_true→Ap,not_eq_true'→A8,eq_iff_iff→Ct,not_eq_false→Ex,and_eq_false_iff→Hg,or_eq_false_iff→Im,not_true→Kv,false_or→Kw,and_true→Of
open Classical renaming not_not→I7
open List renaming getElem?_eq_some_iff→Aw,getElem?_eq_getElem→Az,length_append→Ab,mem_cons→Am,append_assoc→As,length_cons→A0,pairwise_cons→A3,mem_of_getElem?→Bq,all_eq_true→Bw,mem_append→Bc,length_pos_iff→Bd,length_nil→Bf,getElem?_map→Bg,mem_filter→Bh,getD_eq_getElem?_getD→Bn,mem_append_right→Br,take_append_drop→Bs,mem_append_left→B3,getElem?_range→B5,length_drop→B6,cons_append→B7,any_eq_true→Ck,nil_append→Cq,drop_eq_getElem_cons→Cd,getElem?_cons_zero→Cf,take_length→C4,drop_drop→C7,filter_append→Dq,getElem?_of_mem→Db,append_nil→Dd,getElem_mem→Dt,mem_map→D6,flatMap_cons→Ew,filter_eq_nil_iff→Ed,drop_zero→Eh,pairwise_append→Fj,mem_range→Fq,exists_mem_of_ne_nil→Fh,mem_cons_self→Gx,suffix_iff_eq_drop→I3,getLast_eq_getElem→I5,isSuffixOf_iff_suffix→Km,cons_prefix_cons→Ll,pairwise_iff_getElem→Mf,append_cancel_right→Od,drop_eq_nil_of_le→V0,length_mergeSort→fx,count_eq_zero→Hs4
open Nat renaming le_refl→Af,zero_le→C6,lt_or_ge→Dw3
open Option renaming map_eq_some_iff→Ax,map_some→A4
open Option.some renaming injEq→Ak
set_option maxHeartbeats 1000000
set_option linter.unusedVariables false
set_option linter.unusedSimpArgs false
namespace Go.X.G
open Go Go.X
def T2 (c:UInt8):Bool:=decide (97≤(c.toNat:Int)) && decide ((c.toNat:Int)≤122)||decide (48≤(c.toNat:Int)) && decide ((c.toNat:Int)≤57)||decide ((c.toNat:Int)=45)||decide ((c.toNat:Int)=95)
def Jn (s:List UInt8):Bool:=decide (s=[42])||(decide (1≤s.length) && decide (s.length≤63) && s.all T2)
end Go.X.G
/- Names: what the reference's functions give. -/
namespace Go.X.G
open Go Go.X
def spl (first:Bool) (cur:List UInt8):List UInt8→Option (List (List UInt8))
 |[]=>some []
 |c::r=>if c=46 then (if Jn cur=true∧(cur=[42]→first=true) then (spl false [] r).map (cur::·) else none) else spl first (cur++[c]) r
def nm (n:List UInt8):Option (List (List UInt8)):=
 if n=[46] then some [] else if 2≤n.length∧n.length≤254∧n[n.length - 1]? =some 46 then spl true [] n else none
def lbl (n:List UInt8):List (List UInt8):=(nm n).getD []
def vld (n:List UInt8):Bool:=(nm n).isSome
end Go.X.G
/- Names: what the reference's functions give, ctd. -/
namespace Go.X.G
open Go Go.X
theorem gx:∀(r:List UInt8) (f:Bool) (cur:List UInt8) (l:List (List UInt8)),spl f cur r=some l→l.length≤r.length
 |[],f,cur,l,h=>by simp [spl] at h;simp [←h]
 |c::r,f,cur,l,h=>by
  simp only [spl] at h;split at h
  ·split at h
   ·obtain ⟨m,hm,rfl⟩:=Ax.1 h;have:=gx r _ _ _ hm;simp;omega
   ·cases h
  ·have:=gx r _ _ _ h;simp;omega
theorem Hx4 {n:List UInt8} {l:List (List UInt8)} (h:nm n=some l):l.length≤254:=by
 unfold nm at h;split at h
 ·injection h with h;subst h;simp
 ·split at h
  ·rename_i h2;have:=gx _ _ _ _ h;omega
  ·cases h
theorem M0 (n:List UInt8):(lbl n).length≤254:=by
 unfold lbl;cases h:nm n with
 |none=>simp
 |some l=>exact Hx4 h
def j5 {α:Type} [DecidableEq α]:List α→List α→Nat
 |x::xs,y::ys=>if x=y then j5 xs ys+1 else 0
 |_,_=>0
def gf (a b:List (List UInt8)):Nat:=j5 a.reverse b.reverse
def under (n top:List UInt8):Bool:=vld n && vld top && decide (gf (lbl n) (lbl top)=(lbl top).length)
def cmpS (a b:List UInt8):Int:=if Op.bytesLess a b then -1 else if a=b then 0 else 1
def Jw (a b:List UInt8):Int:=
 if vld a && vld b then
  let k:=gf (lbl a) (lbl b)
  if k<(lbl a).length∧k<(lbl b).length then cmpS ((lbl a).getD ((lbl a).length - 1 - k) []) ((lbl b).getD ((lbl b).length - 1 - k) [])
  else if (lbl a).length<(lbl b).length then -1 else if (lbl b).length<(lbl a).length then 1 else 0
 else if vld a then -1 else if vld b then 1 else cmpS a b
end Go.X.G
/- The library's functions on strings. -/
namespace Go.X.G
open Go Go.X
theorem Gv0 (x:List UInt8) (c:UInt8):S ry 2 [.s x, .i .u8 (c.toNat:Int)]=some [.i .i64 (x.count c:Int)]:=
 Gs5 (args:=[.s x, .i .u8 (c.toNat:Int)]) (by simp [XK.run,zb,Lib.countByte])
theorem Fs5 (x:List UInt8) (c:UInt8):S rh 2 [.s x, .i .u8 (c.toNat:Int)]=some [.i .i64 (Lib.indexByte x c)]:=
 Hj0 (args:=[.s x, .i .u8 (c.toNat:Int)]) (by simp [XK.run,zb])
theorem Gv2 (x y:List UInt8):S rf 2 [.s x, .s y]=some [.i .i64 (Lib.compareBytes x y)]:=
 Gt1 (args:=[.s x, .s y]) (by simp [XK.run,Dh5])
theorem Oz (x:List UInt8) (c:UInt8):S U3 2 [.s x, .i .u8 (c.toNat:Int)]=some [.i .i64 (Lib.indexByte x c)]:=by refine Hk6 (N:=1) rfl ?_;simp (disch:=omega) only [Gl2,Fs5,xe,EVP,EV,simprocAttr]
theorem eq (x:List UInt8) (c:UInt8):S Bw0 2 [.s x, .i .u8 (c.toNat:Int)]=some [.i .i64 (Lib.indexByte x c)]:=by refine Ix2 (N:=1) rfl ?_;simp (disch:=omega) only [Ht1,Oz,xe,EVP,EV,simprocAttr]
theorem Mc (c:UInt8):∀(x:List UInt8),c∉x→Lib.indexByte x c= -1
 |[],_=>rfl
 |b::l,h=>by have h1:b≠c:=fun e=>h (by simp [e]);have h2:=Mc c l (fun e=>h (by simp [e]));simp [Lib.indexByte,h1,h2]
theorem Jd (c:UInt8) (post:List UInt8):∀(pre:List UInt8),c∉pre→Lib.indexByte (pre++c::post) c=(pre.length:Int)
 |[],_=>by simp [Lib.indexByte]
 |b::l,h=>by
  have h1:b≠c:=fun e=>h (by simp [e]);have h2:=Jd c post l (fun e=>h (by simp [e]));simp only [B7,Lib.indexByte,h2];simp [h1]
  try omega
theorem dot_split (c:UInt8):∀(s:List UInt8),c∉s∨∃pre post,s=pre++c::post∧c∉pre
 |[]=> .inl (by simp)
 |b::l=>by
  by_cases h:b=c
  ·exact .inr ⟨[],l,by simp [h],by simp⟩
  ·rcases dot_split c l with h1|⟨pre,post,rfl,h2⟩
   ·exact .inl (by simp [h1,Ne.symm h])
   ·exact .inr ⟨b::pre,post,by simp,by simp [h2,Ne.symm h]⟩
def pcs (cur:List UInt8):List UInt8→List (List UInt8)
 |[]=>[cur]
 |c::r=>if c=46 then cur::pcs [] r else pcs (cur++[c]) r
def cut (s:List UInt8):List (List UInt8):=pcs [] s
theorem Bq9 (post:List UInt8):∀(pre cur:List UInt8),(46:UInt8)∉pre→pcs cur (pre++46::post)=(cur++pre)::pcs [] post
 |[],cur,_=>by simp [pcs]
 |b::l,cur,h=>by have h1:b≠46:=fun e=>h (by simp [e]);have h2:=Bq9 post l (cur++[b]) (fun e=>h (by simp [e]));simp [pcs,h1,h2]
theorem W0:∀(s cur:List UInt8),(46:UInt8)∉s→pcs cur s=[cur++s]
 |[],cur,_=>by simp [pcs]
 |b::l,cur,h=>by have h1:b≠46:=fun e=>h (by simp [e]);have h2:=W0 l (cur++[b]) (fun e=>h (by simp [e]));simp [pcs,h1,h2]
theorem Bl6 (s:List UInt8):(cut s).length=s.count 46+1:=by
 have:∀(s cur:List UInt8),(pcs cur s).length=s.count 46+1:=by
  intro s
  induction s with
  |nil=>intro cur;rfl
  |cons c r ih=>
   intro cur;by_cases h:c=46<;>simp [pcs,h,ih]
 exact this s []
theorem Ab5 (s:List UInt8) (hs:s.length≤9223372036854775807):S az 2 [.s s, .s [46]]=some [.i .i64 (Lib.indexByte s 46)]:=by
 refine Gs4 (N:=1) rfl ?_;have h1:=Oz s 46;have e:(((46:UInt8).toNat:Nat):Int)=46:=rfl;rw [e] at h1;by_cases h:[46]=s
 ·subst h;simp (disch:=omega) only [Ew2,xe,EVP,EV,simprocAttr];rfl
 ·simp (disch:=omega) only [Ew2,h,h1,e,xe,EVP,EV,simprocAttr]
theorem d9 (s:List UInt8) (hs:s.length≤9223372036854775807):S Un 2 [.s s, .s [46]]=some [.i .i64 (Lib.indexByte s 46)]:=by refine Gt5 (N:=1) rfl ?_;simp (disch:=omega) only [Gh3,Ab5,xe,EVP,EV,simprocAttr]
theorem Dq6 (s:List UInt8):S bj 2 [.s s, .s [46]]=some [.i .i64 (s.count 46:Int)]:=by refine Gt6 (N:=1) rfl ?_;have h1:=Gv0 s 46;have e:(((46:UInt8).toNat:Nat):Int)=46:=rfl;rw [e] at h1;simp (disch:=omega) only [Gh4,h1,e,xe,EVP,EV,simprocAttr]
def Bg1 (done rest:List (List UInt8)):Out:=
 .yld 0 [.s ((done++rest).getLastD []),Bm ((done++rest).dropLast++[[]]), .i .i64 (((done++rest).length:Int) - 1)]
theorem jb (s:List UInt8) (N:Nat) (hN:s.length<N) (hs:s.length≤1000000) (p q:PV):
  jk.ev S N [.s s, .s [46], .i .i64 0,p, .i .i64 ((s.count 46:Int)+1)]=some (Bg1 [] (cut s)):=by
 have hc0:s.count 46≤s.length:=List.count_le_length;have key:=Nr (fn:=S) (N:=N) (η:=[.s s, .s [46], .i .i64 0,p, .i .i64 ((s.count 46:Int)+1)]) (id:=1) (init:=[(.v 0),(.rep 1 (.mn (.v 4) (.bin .add (.slen (.v 0)) (.c (.i .i64 (1))))) (.c (.s []))),(.c (.i .i64 (0)))]) (body:=my) (α:=List (List UInt8)×List UInt8)
  (fun a=>[.s a.2,Bm (a.1++List.replicate (a.2.count 46+1) []), .i .i64 (a.1.length:Int)]) (fun a=>Bg1 a.1 (cut a.2)) (fun a=>a.1.length+a.2.count 46=s.count 46∧a.2.length≤s.length) (fun a=>a.2.length) ([],s) ?_ ⟨by simp,Af _⟩ hN ?_
 ·simpa [jk] using key
 ·have e:((s.count 46:Int)+1).toNat=s.count 46+1:=by omega
  simp (disch:=omega) only [e,xe,EVP,EV,simprocAttr]
 ·rintro ⟨done,rest⟩ ⟨h1,h2⟩;simp only at h1 h2 ⊢;rcases dot_split 46 rest with h|⟨pre,post,rfl,h⟩
  ·right;have c0:rest.count 46=0:=Hs4.2 h;have i0:=Mc 46 rest h;have cu:cut rest=[rest]:=by simpa [cut] using W0 rest [] h
   refine ⟨?_,rfl⟩;rw [c0];rw [c0] at h1;simp (disch:=omega) only [Af7,d9,i0,xe,EVP,EV,simprocAttr];simp [Bg1,cu,List.getLastD_eq_getLast?]
  ·left;have c0:(pre++46::post).count 46=post.count 46+1:=by rw [List.count_append,Hs4.2 h];simp
   have i0:=Jd 46 post pre h;have cu:cut (pre++46::post)=pre::cut post:=by simpa [cut] using Bq9 post pre [] h
   have hl:(pre++46::post).length=pre.length+post.length+1:=by simp;omega
   have sl1:List.drop (0:Int).toNat (List.take ((pre.length:Int)+0).toNat (pre++46::post))=pre:=by simp
   have sl2:List.drop ((pre.length:Int)+1).toNat (List.take (pre++46::post).length (pre++46::post))=post:=by
    have:((pre.length:Int)+1).toNat=pre.length+1:=by omega
    rw [this,C4,List.drop_append];simp
   have sl3:(done++[]::[]::List.replicate (post.count 46) ([]:List UInt8)).length=done.length+post.count 46+2:=by simp;omega
   refine ⟨(done++[pre],post),?_,⟨by simp;omega,by simp only;omega⟩,by simp;omega,by simp [Bg1,cu]⟩;rw [c0];rw [c0] at h1;simp (disch:=omega) only [Af7,d9,i0,sl1,sl2,xe,EVP,EV,simprocAttr];simp [List.replicate_succ,List.set_append]
theorem jz (s:List UInt8) (hs:s.length≤1000000):S bz 4 [.s s, .s [46], .i .i64 0, .i .i64 (-1)]=some [Bm (cut s)]:=by
 refine Hk1 (N:=s.length+1) rfl ?_;have h1:=Bl6 s;have h2:s.count 46≤s.length:=List.count_le_length;obtain ⟨l,x,hx⟩:∃l x,cut s=l++[x]:=⟨(cut s).dropLast,(cut s).getLast (by intro e;simp [e] at h1),(List.dropLast_concat_getLast _).symm⟩;have h3:l.length=s.count 46:=by rw [hx] at h1;simpa using h1
 have h4:((l.length:Int)+1 - 1)=(l.length:Int):=by omega
 have h5:((l++[([]:List UInt8)]).length:Int)=l.length+1:=by simp
 have h6:((l++[x]).length:Int)=l.length+1:=by simp
 have g1:(l++[([]:List UInt8)])[l.length]? =some []:=by simp
 have g2:(l++[x]).getLastD []=x:=by simp [List.getLastD_eq_getLast?]
 have g3:(l++[([]:List UInt8)]).set l.length x=l++[x]:=by simp
 have hk:=jb s (s.length+1) (by omega) hs (.i .i64 (-1)) .u;rw [hx] at hk ⊢;simp only [Bg1,Cq,List.dropLast_concat] at hk;simp (disch:=omega) only [Af7,Dq6,hk,h4,h6,g1,g2,g3,xe,EVP,EV,simprocAttr];have g4:((l.length:Int)+1).toNat=(l++[x]).length:=by simp
 rw [g4,C4];rfl
theorem d6 (s:List UInt8) (hs:s.length≤1000000):S Av3 2 [.s s, .s [46]]=some [Bm (cut s)]:=by refine Iw5 (N:=1) rfl ?_;simp (disch:=omega) only [Hs7,jz,xe,EVP,EV,simprocAttr]
theorem Yc (s t:List UInt8) (hs:s.length≤9223372036854775807):S bd 2 [.s s, .s t]=some [.b (t.isSuffixOf s)]:=by
 refine Hk2 (N:=1) rfl ?_;by_cases h:t.length≤s.length
 ·have e:((s.length:Int) - (t.length:Int)).toNat=s.length - t.length:=by omega
  simp (disch:=omega) only [Ew5,e,xe,EVP,EV,simprocAttr];simp only [C4];congr 4;rw [Ct,Km,decide_eq_true_eq];refine ⟨fun h=>h▸List.drop_suffix _ _,fun h=> ?_⟩;obtain ⟨p,rfl⟩:=h;simp
 ·have h2:t.isSuffixOf s=false:=by rw [Bool.eq_false_iff,ne_eq,Km];exact fun h'=>h h'.length_le
  simp (disch:=omega) only [Ew5,h2,xe,EVP,EV,simprocAttr]
theorem Lh (s t:List UInt8) (hs:s.length≤9223372036854775807):S Av4 2 [.s s, .s t]=some [.b (t.isSuffixOf s)]:=by refine Iw6 (N:=1) rfl ?_;simp (disch:=omega) only [Hs8,Yc,xe,EVP,EV,simprocAttr]
theorem m7 (x y:List UInt8):S bk 2 [.s x, .s y]=some [.i .i64 (Lib.compareBytes x y)]:=by refine Hj1 (N:=1) rfl ?_;simp (disch:=omega) only [Gh6,Gv2,xe,EVP,EV,simprocAttr]
theorem mm (x y:List UInt8):S Ps 2 [.s x, .s y]=some [.i .i64 (Lib.compareBytes x y)]:=by refine Hk9 (N:=1) rfl ?_;simp (disch:=omega) only [Gl3,m7,xe,EVP,EV,simprocAttr]
end Go.X.G
/- Names and their labels. -/
namespace Go.X.G
open Go Go.X
def flat (l:List (List UInt8)):List UInt8:=l.flatMap fun x=>x++[46]
def jn (l:List (List UInt8)):List UInt8:=if l=[] then [46] else flat l
def G0 (first:Bool):List (List UInt8)→Bool
 |[]=>true
 |p::r=>Jn p && (!decide (p=[42])||first) && G0 false r
theorem Fr7:T2 46=false:=by decide
theorem Lk {p:List UInt8} (h:Jn p=true):(46:UInt8)∉p:=by
 unfold Jn at h;simp at h;rcases h with rfl|⟨_,h⟩
 ·decide
 ·intro h2;have:=h 46 h2;rw [Fr7] at this;cases this
theorem s9 {p:List UInt8} (h:Jn p=true):p≠[]:=by rintro rfl;simp [Jn] at h
theorem Hp {p:List UInt8}:∀{f:Bool} {l:List (List UInt8)},G0 f l=true→p∈l→Jn p=true
 |f,q::r,h,hp=>by
  simp only [G0,Av] at h;rcases Am.1 hp with rfl|hp
  ·exact h.1.1
  ·exact Hp h.2 hp
theorem Ax3:∀{l:List (List UInt8)},G0 false l=true→G0 true l=true
 |[],_=>rfl
 |p::r,h=>by simp only [G0,Av] at h ⊢;exact ⟨⟨h.1.1,by simp⟩,h.2⟩
theorem c6:∀{f:Bool} {a b:List (List UInt8)},G0 f (a++b)=(G0 f a && G0 (f && a.isEmpty) b)
 |f,[],b=>by simp [G0]
 |f,p::r,b=>by simp only [B7,G0,c6 (a:=r)];simp [Bool.and_assoc]
theorem Ax4 {f:Bool} {l:List (List UInt8)} (h:G0 f l=true) (k:Nat):G0 f (l.drop k)=true:=by
 rw [←Bs k l,c6,Av] at h;have h2:=h.2;cases f with
 |false=>simpa using h2
 |true=>
  cases he:(l.take k).isEmpty with
  |true=>rw [he] at h2;exact h2
  |false=>rw [he] at h2;exact Ax3 h2
theorem Rz:∀(m:List UInt8) (f:Bool) (cur:List UInt8),spl f cur (m++[46])=if G0 f (pcs cur m)=true then some (pcs cur m) else none
 |[],f,cur=>by simp only [Cq,spl,if_true,pcs,G0,A4,Of];by_cases h:Jn cur=true<;>by_cases h2:cur=[42]<;>cases f<;>simp [h,h2]
 |c::r,f,cur=>by
  simp only [B7,spl,pcs];by_cases hc:c=46
  ·simp only [if_pos hc];rw [Rz r false []];simp only [G0];by_cases h:Jn cur=true<;>by_cases h2:cur=[42]<;>cases f<;>by_cases h3:G0 false (pcs [] r)=true<;>simp [h,h2,h3]
  ·simp only [if_neg hc];exact Rz r f (cur++[c])
theorem R4 (b:List UInt8):∀(a cur:List UInt8),pcs cur (a++46::b)=pcs cur a++cut b
 |[],cur=>by simp [pcs,cut]
 |c::r,cur=>by
  simp only [B7,pcs];split
  ·rw [R4 b r []];rfl
  ·exact R4 b r _
theorem Qr:∀(m cur:List UInt8),flat (pcs cur m)=cur++m++[46]
 |[],cur=>by simp [pcs,flat]
 |c::r,cur=>by
  simp only [pcs];split
  ·rename_i h;have:=Qr r [];simp only [flat,Ew] at this ⊢;rw [this,h];simp
  ·rw [Qr r (cur++[c])];simp
theorem Xh (a b:List (List UInt8)):flat (a++b)=flat a++flat b:=by simp [flat]
theorem Hv8 (cur m:List UInt8):pcs cur m≠[]:=by
 cases m with
 |nil=>simp [pcs]
 |cons c r=>
  simp only [pcs];split
  ·simp
  ·intro h;have:=Qr r (cur++[c]);rw [h] at this;simp [flat] at this
theorem Q0:∀(l:List (List UInt8)),(∀p∈l,(46:UInt8)∉p)→cut (flat l)=l++[[]]
 |[],_=>rfl
 |p::l,h=>by
  have h1:flat (p::l)=p++46::flat l:=by simp [flat]
  rw [h1];show pcs [] _=_;rw [R4,W0 p [] (h p (by simp)),Q0 l (fun q hq=>h q (by simp [hq]))];simp
theorem Jp:∀(l:List (List UInt8)),l≠[]→∃m,flat l=m++[46]
 |[p],_=>⟨p,by simp [flat]⟩
 |p::q::r,_=>by obtain ⟨m,hm⟩:=Jp (q::r) (by simp);exact ⟨p++[46]++m,by simp only [flat,Ew] at hm ⊢;rw [hm];simp⟩
theorem tl {l:List (List UInt8)} (hl:l≠[]) (h:∀p∈l,(46:UInt8)∉p) {m:List UInt8} (hm:flat l=m++[46]):cut m=l:=by
 have h1:=Q0 l h;rw [hm] at h1;have h2:cut (m++[46])=cut m++[[]]:=by show pcs [] (m++46::[])=_;rw [R4];rfl
 rw [h2] at h1;exact Od h1
theorem Hs {l:List (List UInt8)} (h:G0 true l=true) (hl:l≠[]):2≤(flat l).length:=by
 cases l with
 |nil=>exact absurd rfl hl
 |cons p r=>
  have h1:=s9 (Hp h (Gx ..));have:0<p.length:=Bd.2 h1;simp [flat];omega
theorem Fn9 {l:List (List UInt8)} (h:G0 true l=true) (hl:l≠[]) (hlen:(flat l).length≤254):nm (flat l)=some l:=by obtain ⟨m,hm⟩:=Jp l hl;have h1:=tl hl (fun p hp=>Lk (Hp h hp)) hm;have h2:=Hs h hl;unfold nm;rw [if_neg (by intro e;rw [e] at h2;simp at h2),if_pos ⟨h2,hlen,by rw [hm];simp⟩,hm,Rz];have:pcs [] m=l:=h1;rw [this,if_pos h]
theorem Fn8 {n:List UInt8} {l:List (List UInt8)} (h:nm n=some l):(n=[46]∧l=[])∨(l≠[]∧G0 true l=true∧n=flat l∧n.length≤254):=by
 unfold nm at h;split at h
 ·rename_i e;injection h with h;exact .inl ⟨e,h.symm⟩
 ·split at h
  ·rename_i h1;right;obtain ⟨h2,h3,h4⟩:=h1;obtain ⟨m,hm⟩:∃m,n=m++[46]:=by
    refine ⟨n.dropLast,?_⟩;have:n≠[]:=by intro e;simp [e] at h2
    have h5:=List.dropLast_concat_getLast this;rw [←h5];congr 1
    ·simp
    ·have h6:n[n.length - 1]? =some (n.getLast this):=by rw [I5];exact Az _
     rw [h6] at h4;injection h4 with h4;simp [h4]
   rw [hm,Rz] at h;split at h
   ·rename_i h5;injection h with h;subst h;refine ⟨Hv8 _ _,h5,?_,by omega⟩;rw [Qr,hm];simp
   ·cases h
  ·cases h
theorem Fg6 {n:List UInt8}:vld n=true↔nm n=some (lbl n):=by unfold vld lbl;cases nm n<;>simp
theorem vld_cases {n:List UInt8} (h:vld n=true):(n=[46]∧lbl n=[])∨(lbl n≠[]∧G0 true (lbl n)=true∧n=flat (lbl n)∧n.length≤254):=Fn8 (Fg6.1 h)
theorem ng {n:List UInt8} (h:vld n=true):G0 true (lbl n)=true:=by
 rcases vld_cases h with ⟨_,h⟩|⟨_,h,_⟩
 ·rw [h];rfl
 ·exact h
theorem Q9 {n:List UInt8} (h:vld n=true):n=jn (lbl n):=by
 unfold jn;rcases vld_cases h with ⟨h1,h2⟩|⟨h1,_,h2,_⟩
 ·rw [h2,if_pos rfl];exact h1
 ·rw [if_neg h1];exact h2
theorem Kp {n:List UInt8} (h:vld n=true):n.length≤254:=by
 rcases vld_cases h with ⟨h1,_⟩|⟨_,_,_,h⟩
 ·simp [h1]
 ·exact h
theorem Qn:lbl [46]=[]:=rfl
theorem dq {l:List (List UInt8)} (h:G0 true l=true) (hl:l≠[]):flat l≠[46]:=by intro e;have:=Hs h hl;rw [e] at this;simp at this
theorem Fr8 {n:List UInt8} (h:vld n=true):lbl n=[]↔n=[46]:=by
 rcases vld_cases h with ⟨h1,h2⟩|⟨h1,h2,h3,_⟩
 ·simp [h1,Qn]
 ·constructor
  ·intro e;exact absurd e h1
  ·intro e;rw [h3] at e;exact absurd e (dq h2 h1)
theorem Gm8 {l:List (List UInt8)} (h:G0 true l=true) (hlen:(flat l).length≤254):vld (jn l)=true∧lbl (jn l)=l:=by
 unfold jn;by_cases hl:l=[]
 ·subst hl;exact ⟨rfl,rfl⟩
 ·rw [if_neg hl];have:=Fn9 h hl hlen;exact ⟨by simp [vld,this],by simp [lbl,this]⟩
theorem M1 {a b:List UInt8} (ha:vld a=true) (hb:vld b=true) (h:lbl a=lbl b):a=b:=by rw [Q9 ha,Q9 hb,h]
theorem Xf (l:List (List UInt8)) (k:Nat):(flat (l.drop k)).length≤(flat l).length:=by
 have:flat l=flat (l.take k)++flat (l.drop k):=by rw [←Xh,Bs]
 rw [this,Ab];omega
theorem Qb {n:List UInt8} (h:vld n=true) (k:Nat):vld (jn ((lbl n).drop k))=true∧lbl (jn ((lbl n).drop k))=(lbl n).drop k:=by
 refine Gm8 (Ax4 (ng h) k) ?_;rcases vld_cases h with ⟨_,h1⟩|⟨_,_,h1,h2⟩
 ·rw [h1];simp [flat]
 ·have:=Xf (lbl n) k;rw [←h1] at this;omega
theorem Qz {n:List UInt8} (h:vld n=true):0<n.length:=by
 rcases vld_cases h with ⟨h1,_⟩|⟨h1,h2,h3,_⟩
 ·simp [h1]
 ·have:=Hs h2 h1;rw [h3];omega
end Go.X.G
/- Names: what the program's functions give. -/
namespace Go.X.G
open Go Go.X
def ord (s:List UInt8):Bool:=decide (1≤s.length) && decide (s.length≤63) && s.all T2
theorem Bf4 (s:List UInt8):Jn s=(decide (s=[42])||ord s):=rfl
theorem Dn0:ord [42]=false:=by decide
theorem g9 (s:List UInt8) (N:Nat) (hN:s.length<N) (hs:s.length≤9223372036854775807):
  Eb2.ev S N [.s s]=some (if s.all T2=true then .yld 0 [] else .ret [.b false]):=by
 refine E2 s (fun i=>[.i .i64 (i:Int)]) (fun i r=>if r.all T2=true then .yld 0 [] else .ret [.b false]) rfl hN (fun i c r hd hi hc=> ?_) ?_
 ·have key:Ct8.ev S N ([.s s]++[.i .i64 (i:Int)])=some (if T2 c=true then .yld 1 [.i .i64 ((i:Int)+1)] else .ret [.b false]):=by
   simp (disch:=omega) only [Ad7,hc,xe,EVP,EV,simprocAttr];unfold T2
   grind
  rw [key];rcases Aq (T2 c) with h|h<;>simp [h,Out.goes]
 ·simp (disch:=omega) [Ad7,xe,EVP,EV,simprocAttr,Out.goes]
theorem J4 (s:List UInt8) (hs:s.length≤9223372036854775807):S Bv7 1 [.s s]=some [.b (ord s)]:=by
 refine Iw4 (N:=s.length+1) rfl ?_;unfold ord;by_cases h1:s=[]
 ·subst h1;simp (disch:=omega) [Ad7,xe,EVP,EV,simprocAttr]
 ·have h2:1≤s.length:=Bd.2 h1;by_cases h3:s.length≤63
  ·simp (disch:=omega) only [Ad7,g9,h1,xe,EVP,EV,simprocAttr];cases s.all T2<;>simp [h2,h3]
  ·simp (disch:=omega) only [Ad7,h1,xe,EVP,EV,simprocAttr];simp [h3]
def okP (i:Nat) (p:List UInt8):Bool:=ord p||(decide (i=0) && decide (p=[42]))
def Dn9:Nat→List (List UInt8)→Bool
 |_,[]=>true
 |i,p::r=>okP i p && Dn9 (i+1) r
theorem Z9:∀(l:List (List UInt8)) (i:Nat),Dn9 i l=G0 (decide (i=0)) l
 |[],_=>rfl
 |p::r,i=>by
  have h1:=Z9 r (i+1);simp only [Dn9,G0,h1,okP,Bf4];by_cases h2:p=[42]
  ·subst h2;by_cases h3:i=0<;>simp [Dn0,h3]
  ·simp [h2]
theorem Dq0 (p q:PV) (l:List (List UInt8)) (hl:l.length≤1000000) (hw:∀x∈l,x.length≤9223372036854775807) (N:Nat) (hN:l.length<N):
  Ec0.ev S N [p,q,Bm l]=some (if Dn9 0 l=true then .yld 0 [] else .ret [.b false]):=by
 refine E2 l (fun i=>[.i .i64 (i:Int)]) (fun i r=>if Dn9 i r=true then .yld 0 [] else .ret [.b false]) rfl hN (fun i c r hd hi hc=> ?_) ?_
 ·have hcw:=hw c (Bq hc);have key:Dj2.ev S N ([p,q,Bm l]++[.i .i64 (i:Int)])=some (if okP i c=true then .yld 1 [.i .i64 ((i:Int)+1)] else .ret [.b false]):=by
   rcases Aq (ord c) with h1|h1
   ·simp (disch:=omega) only [Wk,J4,hc,h1,xe,EVP,EV,simprocAttr];simp [okP,h1]
   ·by_cases h2:i=0
    ·subst h2;by_cases h3:c=[42]
     ·subst h3;simp (disch:=omega) only [Wk,J4,hc,h1,xe,EVP,EV,simprocAttr];simp [okP]
     ·simp (disch:=omega) only [Wk,J4,hc,h1,h3,xe,EVP,EV,simprocAttr];simp [okP,h1,h3]
    ·simp (disch:=omega) only [Wk,J4,hc,h1,xe,EVP,EV,simprocAttr];simp [okP,h1,h2]
  rw [key];rcases Aq (okP i c) with h|h<;>simp [h,Dn9,Out.goes]
 ·simp (disch:=omega) only [Wk,xe,EVP,EV,simprocAttr];simp [Out.goes,Dn9]
theorem W1:∀(m cur:List UInt8) (x:List UInt8),x∈pcs cur m→x.length≤cur.length+m.length
 |[],cur,x,h=>by simp [pcs] at h;subst h;simp
 |c::r,cur,x,h=>by
  simp only [pcs] at h;split at h
  ·rcases Am.1 h with rfl|h
   ·omega
   ·have:=W1 r [] x h;simp at this ⊢;omega
  ·have:=W1 r _ x h;simp at this ⊢;omega
theorem Ek0 (m x:List UInt8) (h:x∈cut m):x.length≤m.length:=by simpa using W1 m [] x h
theorem Hn2 (m:List UInt8):(cut m).length≤m.length+1:=by have:=Bl6 m;have:m.count 46≤m.length:=List.count_le_length;omega
theorem Ah6 (n:List UInt8):([46]:List UInt8).isSuffixOf n=true↔∃m,n=m++[46]:=by rw [Km];exact ⟨fun ⟨m,h⟩=>⟨m,h.symm⟩,fun ⟨m,h⟩=>⟨m,h.symm⟩⟩
theorem Dx5 (m:List UInt8) (hm:m≠[]) (hl:m.length≤253):vld (m++[46])=Dn9 0 (cut m):=by have h1:m++[46]≠[46]:=fun e=>hm (Od (bs:=[46]) (by simpa using e));have h2:0<m.length:=Bd.2 hm;unfold vld nm;rw [if_neg h1,if_pos ⟨by simp;omega,by simp;omega,by simp⟩,Rz,Z9];have e:pcs [] m=cut m:=rfl;have e2:G0 (decide ((0:Nat)=0)) (cut m)=G0 true (cut m):=rfl;rw [e,e2];cases G0 true (cut m)<;>rfl
theorem Dr7 (m:List UInt8) (h:vld (m++[46])=true) (hm:m≠[]):lbl (m++[46])=cut m:=by
 rcases vld_cases h with ⟨h1,_⟩|⟨h1,h2,h3,_⟩
 ·exact absurd (Od (bs:=[46]) (by simpa using h1)) hm
 ·exact (tl h1 (fun p hp=>Lk (Hp h2 hp)) h3.symm).symm
theorem B4 (n:List UInt8) (hn:n.length≤9223372036854775807):S Mq 1 [.s n]=some [.b (vld n)]:=by
 refine Iz2 (N:=300) rfl ?_;by_cases h0:n=[46]
 ·subst h0;simp (disch:=omega) only [Wk,xe,EVP,EV,simprocAttr];rfl
 ·by_cases h1:255≤n.length
  ·have hv:vld n=false:=by rw [Bool.eq_false_iff];intro h;have:=Kp h;omega
   simp (disch:=omega) only [Wk,h0,hv,xe,EVP,EV,simprocAttr]
  ·rcases Aq (([46]:List UInt8).isSuffixOf n) with h2|h2
   ·obtain ⟨m,rfl⟩:=(Ah6 n).1 h2;have hm:m≠[]:=fun e=>h0 (by simp [e]);have hl:(m++[46]).length=m.length+1:=by simp
    have hml:m.length≤1000000:=by omega
    have e:List.drop 0 (List.take (((m++[46]).length:Int) - 1).toNat (m++[46]))=m:=by
     have:(((m++[46]).length:Int) - 1).toNat=m.length:=by omega
     rw [this];simp
    have hc:=Hn2 m;have hv:=Dx5 m hm (by omega);have hk:=Dq0 (.s (m++[46])) (.b true) (cut m) (by omega) (fun x hx=>by have:=Ek0 m x hx;omega) 300 (by omega);simp (disch:=omega) only [Wk,Lh,d6,e,hk,h0,h2,xe,EVP,EV,simprocAttr];rw [hv];cases Dn9 0 (cut m)<;>simp
   ·have hv:vld n=false:=by
     rw [Bool.eq_false_iff];intro h;rcases vld_cases h with ⟨h3,_⟩|⟨h3,_,h5,_⟩
     ·exact h0 h3
     ·obtain ⟨m,hm⟩:=Jp _ h3;have:=(Ah6 n).2 ⟨m,h5.trans hm⟩;rw [h2] at this;cases this
    simp (disch:=omega) only [Wk,Lh,h0,h2,hv,xe,EVP,EV,simprocAttr]
theorem Pz (n:List UInt8) (hn:n.length≤9223372036854775807):S Sk 1 [.s n]=some [Bm (lbl n)]:=by
 refine Hk8 (N:=1) rfl ?_;by_cases h0:n=[46]
 ·subst h0;simp (disch:=omega) only [Af9,Qn,xe,EVP,EV,simprocAttr]
 ·rcases Aq (vld n) with h1|h1
  ·obtain ⟨m,hm,rfl⟩:∃m,m≠[]∧n=m++[46]:=by
    rcases vld_cases h1 with ⟨h3,_⟩|⟨h3,_,h5,_⟩
    ·exact absurd h3 h0
    ·obtain ⟨m,hm⟩:=Jp _ h3;exact ⟨m,fun e=>h0 (by rw [h5,hm,e];rfl),h5.trans hm⟩
   have hl:(m++[46]).length=m.length+1:=by simp
   have e:List.drop 0 (List.take (((m++[46]).length:Int) - 1).toNat (m++[46]))=m:=by
    have:(((m++[46]).length:Int) - 1).toNat=m.length:=by omega
    rw [this];simp
   have hl2:=Kp h1;have e2:=Dr7 m h1 hm;simp (disch:=omega) only [Af9,B4,d6,e,e2,h0,h1,xe,EVP,EV,simprocAttr]
  ·have e:lbl n=[]:=by
    unfold lbl;unfold vld at h1;cases h:nm n with
    |none=>rfl
    |some l=>rw [h] at h1;cases h1
   simp (disch:=omega) only [Af9,B4,h0,h1,e,xe,EVP,EV,simprocAttr]
theorem N7 (p:List UInt8) (l:List (List UInt8)):flat (p::l)=p++46::flat l:=by simp [flat]
def W4 (n:List UInt8):List UInt8:=if vld n=true∧n≠[46] then jn ((lbl n).drop 1) else []
def tj (n:List UInt8):Bool:=vld n && !decide (n=[46])
theorem Vp (n:List UInt8) (hn:n.length≤9223372036854775807):S Aw4 1 [.s n]=some [.s (W4 n), .b (tj n)]:=by
 refine Iz7 (N:=1) rfl ?_;unfold W4 tj;by_cases h0:n=[46]
 ·subst h0;simp (disch:=omega) only [Dx1,xe,EVP,EV,simprocAttr];simp
 ·rcases Aq (vld n) with h1|h1
  ·rcases vld_cases h1 with ⟨h3,_⟩|⟨h3,h4,h5,h6⟩
   ·exact absurd h3 h0
   ·cases hl:lbl n with
    |nil=>exact absurd hl h3
    |cons p r=>
     rw [hl] at h4 h5;have hp:=Lk (Hp h4 (Gx ..));have hi:=eq n 46;have hc:(((46:UInt8).toNat:Nat):Int)=46:=rfl;have hx:Lib.indexByte n 46=(p.length:Int):=by rw [h5,N7];exact Jd 46 _ p hp
     rw [hc,hx] at hi;have hlen:n.length=p.length+1+(flat r).length:=by rw [h5,N7];simp;omega
     have e:List.drop ((p.length:Int)+1).toNat (List.take n.length n)=flat r:=by
      have:((p.length:Int)+1).toNat=p.length+1:=by omega
      rw [this,C4,h5,N7];simp
     by_cases h7:r=[]
     ·subst h7;have e2:flat []=[]:=rfl;simp (disch:=omega) only [Dx1,B4,hi,e,e2,h0,h1,xe,EVP,EV,simprocAttr];simp [jn]
     ·have e2:¬flat r=[]:=by obtain ⟨m,hm⟩:=Jp r h7;rw [hm];simp
      simp (disch:=omega) only [Dx1,B4,hi,e,e2,h0,h1,xe,EVP,EV,simprocAttr];simp [jn,h7]
  ·simp (disch:=omega) only [Dx1,B4,h0,h1,xe,EVP,EV,simprocAttr];simp
def Bh4 (n top:List UInt8):Bool:=(decide (top=[46])||decide (n=top))||(46::top).isSuffixOf n
theorem Gk6 (n top:List UInt8) (hn:n.length≤9223372036854775807) (ht:top.length≤1000000):S Bw1 2 [.s n, .s top]=some [.b (Bh4 n top)]:=by
 refine Ix3 (N:=1) rfl ?_;unfold Bh4;have h0:([46]:List UInt8).length=1:=rfl;by_cases h1:top=[46]<;>by_cases h2:n=top<;>simp (disch:=omega) only [Ht2,Lh,h1,h2,xe,EVP,EV,simprocAttr]
 all_goals simp
theorem jf {a b:List (List UInt8)} (ha:G0 true a=true) (hb:G0 true b=true) (h:(46::flat b)<:+flat a):b<:+a:=by obtain ⟨p,hp⟩:=h;have h1:=Q0 a (fun x hx=>Lk (Hp ha hx));have h2:=Q0 b (fun x hx=>Lk (Hp hb hx));rw [←hp] at h1;have h3:cut (p++46::flat b)=cut p++cut (flat b):=R4 (flat b) p [];rw [h3,h2,←As] at h1;exact ⟨cut p,Od h1⟩
theorem Ej1 {n top:List UInt8} (hn:vld n=true) (ht:vld top=true):Bh4 n top=true↔lbl top<:+lbl n:=by
 unfold Bh4;simp only [Ap,decide_eq_true_eq,Km];constructor
 ·rintro ((rfl|rfl)|h)
  ·rw [Qn];exact List.nil_suffix
  ·exact List.suffix_refl _
  ·rcases vld_cases ht with ⟨h1,h2⟩|⟨h1,h2,h3,_⟩
   ·rw [h2];exact List.nil_suffix
   ·rcases vld_cases hn with ⟨h5,_⟩|⟨h5,h6,h7,_⟩
    ·rw [h5] at h;have h9:=h.length_le;have h8:=Hs h2 h1;rw [←h3] at h8;simp only [A0,Bf] at h9;omega
    ·rw [h3,h7] at h;exact jf h6 h2 h
 ·intro h;obtain ⟨p,hp⟩:=h;rcases vld_cases ht with ⟨h1,h2⟩|⟨h1,h2,h3,_⟩
  ·exact .inl (.inl h1)
  ·by_cases hp0:p=[]
   ·left;right;subst hp0;exact M1 hn ht hp.symm
   ·right;rcases vld_cases hn with ⟨_,h5⟩|⟨h5,h6,h7,_⟩
    ·rw [h5] at hp;exact absurd (List.append_eq_nil_iff.1 hp).1 hp0
    ·obtain ⟨m,hm⟩:=Jp p hp0;rw [h7,←hp,Xh,hm];exact ⟨m,by rw [As,←h3];simp⟩
theorem S7 {α:Type} [DecidableEq α]:∀(a b:List α),j5 a b=b.length↔b<+:a
 |[],[]=>by simp [j5]
 |[],y::ys=>by simp [j5]
 |x::xs,[]=>by simp [j5]
 |x::xs,y::ys=>by
  have:=S7 xs ys;simp only [j5];split
  ·rename_i h;subst h;simp [this,Ll]
  ·rename_i h;simp [Ll,Ne.symm h]
theorem Zm (a b:List (List UInt8)):gf a b=b.length↔b<:+a:=by unfold gf;have:=S7 a.reverse b.reverse;rw [List.length_reverse] at this;rw [this,List.reverse_prefix]
theorem C1 {n top:List UInt8}:under n top=true↔vld n=true∧vld top=true∧lbl top<:+lbl n:=by unfold under;simp [Zm,and_assoc]
theorem yl {n top:List UInt8} (hn:vld n=true) (ht:vld top=true):Bh4 n top=under n top:=by rw [Ct,Ej1 hn ht,C1];simp [hn,ht]
theorem Gm (n top:List UInt8) (hn:n.length≤9223372036854775807) (ht:top.length≤9223372036854775807):S Nn 2 [.s n, .s top]=some [.b (under n top)]:=by
 refine Iz8 (N:=1) rfl ?_;rcases Aq (vld n) with h1|h1
 ·rcases Aq (vld top) with h2|h2
  ·have h3:=Kp h2;simp (disch:=omega) only [Fg3,B4,Gk6,h1,h2,xe,EVP,EV,simprocAttr];rw [yl h1 h2]
  ·have h3:under n top=false:=by simp [under,h2]
   simp (disch:=omega) only [Fg3,B4,h1,h2,h3,xe,EVP,EV,simprocAttr]
 ·have h3:under n top=false:=by simp [under,h1]
  simp (disch:=omega) only [Fg3,B4,h1,h3,xe,EVP,EV,simprocAttr]
end Go.X.G
/- Names: order, common ancestors, wildcards. -/
namespace Go.X.G
open Go Go.X
theorem P5:∀(a:List UInt8),Op.bytesLess a a=false
 |[]=>rfl
 |a::x=>by simp [Op.bytesLess,P5 x]
theorem Lb:∀(a b:List UInt8),Lib.compareBytes a b=cmpS a b
 |[],[]=>rfl
 |[],_::_=>rfl
 |_::_,[]=>rfl
 |a::x,b::y=>by
  have ih:=Lb x y;unfold cmpS at ih ⊢;simp only [Lib.compareBytes,Op.bytesLess,ih];by_cases h1:a<b
  ·simp [h1]
  ·by_cases h2:b<a
   ·have h3:a≠b:=fun e=>by subst e;exact h1 h2
    simp [h1,h2,h3]
   ·have h3:a=b:=UInt8.le_antisymm (UInt8.not_lt.1 h2) (UInt8.not_lt.1 h1);subst h3;simp [h1]
theorem It {a b:List UInt8}:cmpS a b=0↔a=b:=by
 unfold cmpS;by_cases h:a=b
 ·subst h;simp [P5]
 ·cases h2:Op.bytesLess a b<;>simp [h]
theorem Kq (x y:List UInt8):S Ps 2 [.s x, .s y]=some [.i .i64 (cmpS x y)]:=by rw [mm,Lb]
def Tg:List (List UInt8)→List (List UInt8)→Option Int
 |x::xs,y::ys=>if x=y then Tg xs ys else some (cmpS x y)
 |_,_=>none
theorem Bm0:∀(a b:List (List UInt8)),Tg a b=if j5 a b<a.length∧j5 a b<b.length then some (cmpS (a.getD (j5 a b) []) (b.getD (j5 a b) [])) else none
 |[],b=>by simp [Tg,j5]
 |x::xs,[]=>by simp [Tg,j5]
 |x::xs,y::ys=>by
  have ih:=Bm0 xs ys;simp only [Tg,j5];by_cases h:x=y
  ·simp only [if_pos h,ih];simp
  ·simp [h]
def Az0 (a b:List (List UInt8)):Int:=match Tg a.reverse b.reverse with
 |some c=>c
 |none=>if a.length<b.length then -1 else if b.length<a.length then 1 else 0
theorem tv (a:List (List UInt8)) (k:Nat) (h:k<a.length):a.reverse.getD k []=a.getD (a.length - 1 - k) []:=by simp [Bn,List.getElem?_reverse h]
theorem X0 {a b:List UInt8} (ha:vld a=true) (hb:vld b=true):Jw a b=Az0 (lbl a) (lbl b):=by
 unfold Jw Az0;rw [Bm0];have e:j5 (lbl a).reverse (lbl b).reverse=gf (lbl a) (lbl b):=rfl;rw [e,ha,hb];simp only [List.length_reverse,Bool.and_self,if_true];by_cases h:gf (lbl a) (lbl b)<(lbl a).length∧gf (lbl a) (lbl b)<(lbl b).length
 ·rw [if_pos h,if_pos h,tv _ _ h.1,tv _ _ h.2]
 ·rw [if_neg h,if_neg h]
theorem mt (a b:List (List UInt8)) (p1 p2 p3 p4:PV) (ha:a.length≤1000) (hb:b.length≤1000) (N:Nat) (hN:1001<N):
  Bb9.ev S N [p1,p2,p3,p4,Bm a,Bm b]=some (match Tg a.reverse b.reverse with|some c=> .ret [.i .i64 c]|none=> .yld 0 []):=by
 have key:=Nr (fn:=S) (N:=N) (η:=[p1,p2,p3,p4,Bm a,Bm b]) (id:=1) (init:=[(.c (.i .i64 (1)))]) (body:=Dj1) (α:=Nat) (fun k=>[.i .i64 ((k:Int)+1)])
  (fun k=>match Tg (a.reverse.drop k) (b.reverse.drop k) with|some c=> .ret [.i .i64 c]|none=> .yld 0 []) (fun k=>k≤a.length∧k≤b.length) (fun k=>a.length - k) 0 rfl ⟨C6 _,C6 _⟩ (by omega) ?_
 ·simpa [Bb9] using key
 ·rintro k ⟨h1,h2⟩;by_cases h3:k<a.length
  ·by_cases h4:k<b.length
   ·have e1:((a.length:Int) - ((k:Int)+1)).toNat=a.length - 1 - k:=by omega
    have e2:((b.length:Int) - ((k:Int)+1)).toNat=b.length - 1 - k:=by omega
    have g1:a[a.length - 1 - k]? =some (a[a.length - 1 - k]'(by omega)):=Az (by omega);have g2:b[b.length - 1 - k]? =some (b[b.length - 1 - k]'(by omega)):=Az (by omega);have d1:a.reverse.drop k=(a[a.length - 1 - k]'(by omega))::a.reverse.drop (k+1):=by rw [Cd (by simpa using h3)];simp
    have d2:b.reverse.drop k=(b[b.length - 1 - k]'(by omega))::b.reverse.drop (k+1):=by rw [Cd (by simpa using h4)];simp
    rw [d1,d2];generalize (a[a.length - 1 - k]'(by omega))=x at g1;generalize (b[b.length - 1 - k]'(by omega))=y at g2;simp only [Tg];by_cases h:x=y
    ·left;have h5:cmpS x y=0:=It.2 h;refine ⟨k+1,?_,⟨by omega,by omega⟩,by omega,by rw [if_pos h]⟩;simp (disch:=omega) only [fg,Kq,e1,e2,g1,g2,h5,xe,EVP,EV,simprocAttr]
    ·right;have h5:¬cmpS x y=0:=fun e=>h (It.1 e);rw [if_neg h];simp (disch:=omega) only [fg,Kq,e1,e2,g1,g2,h5,xe,EVP,EV,simprocAttr];simp [Out.goes]
   ·right;have d2:b.reverse.drop k=[]:=V0 (by simp;omega);have z:Tg (a.reverse.drop k) []=none:=by cases a.reverse.drop k<;>rfl
    rw [d2,z];simp (disch:=omega) [fg,xe,EVP,EV,simprocAttr,Out.goes]
  ·right;have d1:a.reverse.drop k=[]:=V0 (by simp;omega);have z:Tg [] (b.reverse.drop k)=none:=rfl;rw [d1,z];simp (disch:=omega) [fg,xe,EVP,EV,simprocAttr,Out.goes]
theorem Ty (a b:List UInt8) (hn:a.length≤9223372036854775807) (ht:b.length≤9223372036854775807):S O8 2 [.s a, .s b]=some [.i .i64 (Jw a b)]:=by
 refine Ix8 (N:=1002) rfl ?_;have h1:=M0 a;have h2:=M0 b;rcases Aq (vld a) with h3|h3<;>rcases Aq (vld b) with h4|h4
 ·rw [X0 h3 h4];unfold Az0;have hk:=mt (lbl a) (lbl b) (.s a) (.s b) (.b true) (.b true) (by omega) (by omega) 1002 (by omega);cases h5:Tg (lbl a).reverse (lbl b).reverse with
  |some c=>
   rw [h5] at hk;simp (disch:=omega) only [fg,B4,Pz,hk,h3,h4,xe,EVP,EV,simprocAttr]
  |none=>
   rw [h5] at hk;simp (disch:=omega) only [fg,B4,Pz,hk,h3,h4,xe,EVP,EV,simprocAttr]
   grind
 all_goals unfold Jw
 all_goals simp (disch:=omega) only [fg,B4,Kq,h3,h4,xe,EVP,EV,simprocAttr]
 all_goals simp
theorem Ed0 {n:List UInt8} (h:vld n=true) (k:Nat):(jn ((lbl n).drop k)).length≤254:=Kp (Qb h k).1
def starS (n:List UInt8):List UInt8:=if n=[46] then [42,46] else [42,46]++n
def Ny (n:List UInt8):Bool:=vld n && !decide ((lbl n)[0]? =some [42]) && vld (starS n)
def y9 (n:List UInt8):List UInt8:=if Ny n=true then starS n else []
theorem O2 {n:List UInt8} (h:vld n=true):(n[0]? =some 42↔(lbl n)[0]? =some [42]):=by
 rcases vld_cases h with ⟨h1,h2⟩|⟨h1,h2,h3,_⟩
 ·subst h1;simp [Qn]
 ·cases hl:lbl n with
  |nil=>exact absurd hl h1
  |cons p r=>
   rw [hl] at h2 h3;have hp:=Hp h2 (Gx ..);have hne:=s9 hp;cases p with
   |nil=>exact absurd rfl hne
   |cons c q=>
    rw [h3,N7];simp only [B7,Cf,Ak];constructor
    ·rintro rfl;unfold Jn at hp;simp at hp;rcases hp with h|h
     ·rw [h]
     ·exfalso;have:T2 42=false:=by decide
      rw [this] at h;simp at h
    ·intro h;injection h
theorem Ev1 (n:List UInt8) (hn:n.length≤1000000):S Bx3 1 [.s n]=some [.s (y9 n), .b (Ny n)]:=by
 refine Iz5 (N:=1) rfl ?_;have h0:([42,46]:List UInt8).length=2:=rfl;have hl:(starS n).length≤9223372036854775807:=by
  unfold starS;split
  ·simp
  ·rw [Ab,h0];omega
 unfold y9 Ny;have tail:T.ev S 1 Bn4 [.s n, .s (starS n)]=some (.ret [.s (y9 n), .b (Ny n)]):=by
  unfold y9 Ny;rcases Aq (vld n) with h3|h3
  ·have h4:=O2 h3;have h5:=Az (Qz h3);have h6:=Iq1 (n[0]'(Qz h3)) 42 (by omega);by_cases h7:(lbl n)[0]? =some [42]
   ·have h8:=h4.2 h7;rw [h5] at h8;injection h8 with h8;have h9:((n[0]'(Qz h3)).toNat:Int)=42:=h6.2 h8;simp (disch:=omega) only [Dx0,B4,h3,h5,xe,EVP,EV,simprocAttr];simp [h7]
   ·have h8:¬n[0]? =some 42:=fun e=>h7 (h4.1 e);rw [h5] at h8;have h9:¬((n[0]'(Qz h3)).toNat:Int)=42:=fun e=>h8 (by rw [h6.1 e];rfl);rcases Aq (vld (starS n)) with ha|ha<;>simp (disch:=omega) only [Dx0,B4,h3,h5,ha,xe,EVP,EV,simprocAttr]<;>simp [h7]
  ·simp (disch:=omega) only [Dx0,B4,h3,xe,EVP,EV,simprocAttr];simp
 unfold y9 Ny at tail;obtain ⟨y0,y1,y2,y3,y4,y5,y6,y7,yt⟩:=Dx0;by_cases h4:n=[46]
 ·have e:starS n=[42,46]:=by simp [starS,h4]
  rw [e] at tail ⊢;subst h4;simp (disch:=omega) only [y0,y1,y2,yt,xe,EVP,EV,simprocAttr];rw [tail];simp
 ·have e:starS n=42::46::n:=by simp [starS,h4]
  rw [e] at tail ⊢;simp (disch:=omega) only [y0,y1,y2,yt,h4,xe,EVP,EV,simprocAttr];rw [tail];simp
end Go.X.G
/- The canonical order of names is a total order. -/
namespace Go.X.G
open Go Go.X
structure TO {α:Type} (lt:α→α→Prop):Prop where
 irr:∀a,¬lt a a
 tr:∀a b c,lt a b→lt b c→lt a c
 tri:∀a b,lt a b∨a=b∨lt b a
theorem TO.asym {α:Type} {lt:α→α→Prop} (h:TO lt) {a b:α} (h1:lt a b):¬lt b a:=fun h2=>h.irr a (h.tr _ _ _ h1 h2)
theorem TO.ntr {α:Type} {lt:α→α→Prop} (h:TO lt) {a b c:α} (h1:¬lt a b) (h2:¬lt b c):¬lt a c:=by
 intro h3;rcases h.tri b a with h4|h4|h4
 ·exact h2 (h.tr _ _ _ h4 h3)
 ·subst h4;exact h2 h3
 ·exact h1 h4
def lex {α:Type} (lt:α→α→Prop):List α→List α→Prop
 |[],[]=>False
 |[],_::_=>True
 |_::_,[]=>False
 |a::x,b::y=>lt a b∨(a=b∧lex lt x y)
theorem Bz8 {α:Type} {lt:α→α→Prop} (h:TO lt):∀x:List α,¬lex lt x x
 |[]=>by simp [lex]
 |a::x=>by simp only [lex,true_and,not_or];exact ⟨h.irr a,Bz8 h x⟩
theorem Ez6 {α:Type} {lt:α→α→Prop} (h:TO lt):∀x y z:List α,lex lt x y→lex lt y z→lex lt x z
 |[],[],_,h1,_=>by simp [lex] at h1
 |[],_::_,[],_,h2=>by simp [lex] at h2
 |[],_::_,_::_,_,_=>by simp [lex]
 |_::_,[],_,h1,_=>by simp [lex] at h1
 |_::_,_::_,[],_,h2=>by simp [lex] at h2
 |a::x,b::y,c::z,h1,h2=>by
  simp only [lex] at h1 h2 ⊢;rcases h1 with h1|⟨rfl,h1⟩
  ·rcases h2 with h2|⟨rfl,h2⟩
   ·exact .inl (h.tr _ _ _ h1 h2)
   ·exact .inl h1
  ·rcases h2 with h2|⟨rfl,h2⟩
   ·exact .inl h2
   ·exact .inr ⟨rfl,Ez6 h x y z h1 h2⟩
theorem lex_tri {α:Type} {lt:α→α→Prop} (h:TO lt):∀x y:List α,lex lt x y∨x=y∨lex lt y x
 |[],[]=> .inr (.inl rfl)
 |[],_::_=> .inl (by simp [lex])
 |_::_,[]=> .inr (.inr (by simp [lex]))
 |a::x,b::y=>by
  simp only [lex];rcases h.tri a b with h1|rfl|h1
  ·exact .inl (.inl h1)
  ·rcases lex_tri h x y with h2|rfl|h2
   ·exact .inl (.inr ⟨rfl,h2⟩)
   ·exact .inr (.inl rfl)
   ·exact .inr (.inr (.inr ⟨rfl,h2⟩))
  ·exact .inr (.inr (.inl h1))
theorem TO.lex {α:Type} {lt:α→α→Prop} (h:TO lt):TO (G.lex lt):=⟨Bz8 h,Ez6 h,lex_tri h⟩
theorem Iq2:TO (fun a b:UInt8=>a<b):=⟨fun a=>UInt8.lt_irrefl a,fun a b c h1 h2=>UInt8.lt_trans h1 h2,fun a b=>by
 rcases UInt8.lt_or_le a b with h|h
 ·exact .inl h
 ·rcases UInt8.lt_or_le b a with h2|h2
  ·exact .inr (.inr h2)
  ·exact .inr (.inl (UInt8.le_antisymm h2 h))⟩
abbrev ltB:List UInt8→List UInt8→Prop:=lex fun a b:UInt8=>a<b
theorem Dv3:TO ltB:=Iq2.lex
theorem Tj:∀a b:List UInt8,Op.bytesLess a b=true↔ltB a b
 |[],[]=>by simp [Op.bytesLess,lex]
 |[],_::_=>by simp [Op.bytesLess,lex]
 |_::_,[]=>by simp [Op.bytesLess,lex]
 |a::x,b::y=>by have ih:=Tj x y;simp only [Op.bytesLess,Ap,decide_eq_true_eq,Av,beq_iff_eq,lex];rw [ih]
theorem Q1 (a b:List UInt8):cmpS a b<0↔ltB a b:=by
 rw [←Tj];unfold cmpS;cases h:Op.bytesLess a b
 ·simp only [Ad,if_false,iff_false];split<;>omega
 ·simp
abbrev ltL:List (List UInt8)→List (List UInt8)→Prop:=lex ltB
theorem to_L:TO ltL:=Dv3.lex
def Az1 (a b:List (List UInt8)):Int:=match Tg a b with
 |some c=>c
 |none=>if a.length<b.length then -1 else if b.length<a.length then 1 else 0
theorem uk:∀a b:List (List UInt8),Az1 a b<0↔ltL a b
 |[],[]=>by simp [Az1,Tg,lex]
 |[],_::_=>by simp [Az1,Tg,lex]
 |_::_,[]=>by simp [Az1,Tg,lex]
 |x::xs,y::ys=>by
  have ih:=uk xs ys;simp only [Az1,Tg,lex] at ih ⊢;by_cases h:x=y
  ·subst h;rw [if_pos rfl];simp only [A0,Nat.add_lt_add_iff_right,true_and];rw [ih];constructor
   ·exact fun h=> .inr h
   ·rintro (h|h)
    ·exact absurd h (Dv3.irr x)
    ·exact h
  ·rw [if_neg h];simp only;rw [Q1];simp [h]
theorem j7 (a b:List (List UInt8)):Az0 a b=Az1 a.reverse b.reverse:=by unfold Az0 Az1;cases Tg a.reverse b.reverse<;>simp
theorem Bl9 (a b:List (List UInt8)):Az0 a b<0↔ltL a.reverse b.reverse:=by rw [←uk,j7]
def ltN (a b:List UInt8):Prop:=if vld a=true then (if vld b=true then ltL (lbl a).reverse (lbl b).reverse else True) else (if vld b=true then False else ltB a b)
theorem E4 (a b:List UInt8):Jw a b<0↔ltN a b:=by
 unfold ltN;rcases Aq (vld a) with ha|ha
 ·rcases Aq (vld b) with hb|hb
  ·rw [X0 ha hb,Bl9,if_pos ha,if_pos hb]
  ·unfold Jw;simp [ha,hb]
 ·rcases Aq (vld b) with hb|hb
  ·unfold Jw;simp [ha,hb]
  ·have e:Jw a b=cmpS a b:=by unfold Jw;simp [ha,hb]
   rw [e,Q1];simp [ha,hb]
theorem to_N:TO ltN:=by
 refine ⟨fun a h=> ?_,fun a b c h1 h2=> ?_,fun a b=> ?_⟩
 ·unfold ltN at h;split at h
  ·exact to_L.irr _ h
  ·exact Dv3.irr _ h
 ·unfold ltN at*;rcases Aq (vld a) with ha|ha<;>rcases Aq (vld b) with hb|hb<;>rcases Aq (vld c) with hc|hc<;>
   simp only [ha,hb,hc,if_true,Ad,if_false] at h1 h2 ⊢
  ·exact to_L.tr _ _ _ h1 h2
  ·exact Dv3.tr _ _ _ h1 h2
 ·unfold ltN;rcases Aq (vld a) with ha|ha<;>rcases Aq (vld b) with hb|hb<;>simp only [ha,hb,if_true,Ad,if_false]
  ·rcases to_L.tri (lbl a).reverse (lbl b).reverse with h|h|h
   ·exact .inl h
   ·exact .inr (.inl (M1 ha hb (List.reverse_inj.1 h)))
   ·exact .inr (.inr h)
  ·simp
  ·simp
  ·exact Dv3.tri a b
theorem H1 {a b:List UInt8}:Jw a b=0↔a=b:=by
 constructor
 ·intro h;rcases Aq (vld a) with ha|ha
  ·rcases Aq (vld b) with hb|hb
   ·rw [X0 ha hb] at h;have key:∀x y:List (List UInt8),Az1 x y=0→x=y:=by
     intro x
     induction x with
     |nil=>intro y hy;cases y with
      |nil=>rfl
      |cons=>simp [Az1,Tg] at hy
     |cons x xs ih=>intro y hy;cases y with
      |nil=>simp [Az1,Tg] at hy
      |cons y ys=>
       simp only [Az1,Tg] at hy ih;by_cases e:x=y
       ·subst e;rw [if_pos rfl] at hy;simp only [A0,Nat.add_lt_add_iff_right] at hy;rw [ih ys hy]
       ·rw [if_neg e] at hy;exact absurd (It.1 hy) e
    rw [j7] at h;exact M1 ha hb (List.reverse_inj.1 (key _ _ h))
   ·unfold Jw at h;simp [ha,hb] at h
  ·rcases Aq (vld b) with hb|hb
   ·unfold Jw at h;simp [ha,hb] at h
   ·have e:Jw a b=cmpS a b:=by unfold Jw;simp [ha,hb]
    rw [e] at h;exact It.1 h
 ·rintro rfl;have h1:=E4 a a;have h2:¬Jw a a<0:=fun h=>to_N.irr a (h1.1 h);have key:∀x:List (List UInt8),Az1 x x=0:=by
   intro x
   induction x with
   |nil=>rfl
   |cons x xs ih=>
    simp only [Az1,Tg] at ih ⊢;simp only [if_true,A0,Nat.add_lt_add_iff_right];exact ih
  rcases Aq (vld a) with ha|ha
  ·rw [X0 ha ha];rw [j7];exact key _
  ·have e:Jw a a=cmpS a a:=by unfold Jw;simp [ha]
   rw [e];exact It.2 rfl
end Go.X.G
/- Data of records: what the reference's functions give. -/
namespace Go.X.G
open Go Go.X
theorem t15 (t:Int):t=1∨t=2∨t=5∨t=6∨t=12∨t=15∨t=16∨t=28∨t=33∨t=39∨t=43∨t=46∨t=47∨t=48∨(t≠1∧t≠2∧t≠5∧t≠6∧t≠12∧t≠15∧t≠16∧t≠28∧t≠33∧t≠39∧t≠43∧t≠46∧t≠47∧t≠48):=by omega
def knw (t:Int):Bool:=decide (t=1)||decide (t=2)||decide (t=5)||decide (t=6)||decide (t=12)||decide (t=15)||decide (t=16)||decide (t=28)||decide (t=33)||decide (t=39)||decide (t=43)||decide (t=46)||decide (t=47)||decide (t=48)
def Ek (d:Dat):Bool:=d.v6||(decide (d.hi=0) && decide (d.lo<4294967296))
def inB (n most:Int):Bool:=decide (0≤n) && decide (n≤most)
def I1 (s:List UInt8):Bool:=decide (1≤s.length) && decide (s.length≤255)
def G6 (n:List UInt8):Bool:=vld n && decide (n[0]? ≠some 42)
def bit (set:Int) (t:Nat):Int:=set / 2 ^ t % 2
theorem Is9 (x:Int):IntKind.u64.wrap ((BitVec.ofInt IntKind.u64.bits x &&& BitVec.ofInt IntKind.u64.bits 1).toNat:Int)=x % 2:=by
 have h2:(BitVec.ofInt 64 x &&& BitVec.ofInt 64 1).toNat=(BitVec.ofInt 64 x).toNat % 2:=by rw [BitVec.toNat_and];show (BitVec.ofInt 64 x).toNat &&& 1=_;exact Nat.and_one_is_mod _
 show IntKind.u64.wrap (((BitVec.ofInt 64 x &&& BitVec.ofInt 64 1).toNat:Nat):Int)=_;rw [h2,BitVec.toNat_ofInt];rw [Ij7]<;>omega
end Go.X.G
/- Data of records: bytes. -/
namespace Go.X.G
open Go Go.X
def Gd2 (set:Int) (i:Nat):Nat→Bool
 |0=>true
 |k+1=>(!decide (bit set i=1)||knw (i:Int)) && Gd2 set (i+1) k
def be (v:Int):Nat→List UInt8
 |0=>[]
 |n+1=>UInt8.ofNat (v / 256 ^ n % 256).toNat::be v n
theorem Eg (v:Int):∀n,(be v n).length=n
 |0=>rfl
 |n+1=>by simp [be,Eg v n]
theorem W9 (z:Int) (h1:0≤z) (h2:z<256):((UInt8.ofNat z.toNat).toNat:Int)=z:=by simp;omega
theorem Gq6 (v:Int) (j:Nat):v / 256 ^ j / 256=v / 256 ^ (j+1):=by rw [Int.pow_succ,Int.ediv_ediv_of_nonneg (Int.le_of_lt (Int.pow_pos (by decide)))]
theorem Hm9 (v:Int) (j:Nat) (h:0≤v):0≤v / 256 ^ j:=Int.ediv_nonneg h (Int.le_of_lt (Int.pow_pos (by decide)))
theorem Hn0 (v:Int) (j:Nat) (h:0≤v):v / 256 ^ j≤v:=Int.ediv_le_self _ h
end Go.X.G
/- Data of records: the wire form. -/
namespace Go.X.G
open Go Go.X
theorem Sd {s:List UInt8} (h:Jn s=true):s.length≤63:=by
 unfold Jn at h;simp at h;rcases h with h|h
 ·simp [h]
 ·omega
theorem Wz:∀(r:List UInt8) (f:Bool) (cur:List UInt8) (l:List (List UInt8)),spl f cur r=some l→∀x∈l,Jn x=true
 |[],f,cur,l,h=>by simp [spl] at h;subst h;simp
 |c::r,f,cur,l,h=>by
  simp only [spl] at h;split at h
  ·split at h
   ·rename_i h2;obtain ⟨m,hm,rfl⟩:=Ax.1 h;intro x hx;simp at hx;rcases hx with rfl|hx
    ·exact h2.1
    ·exact Wz r _ _ _ hm x hx
   ·cases h
  ·exact Wz r _ _ _ h
theorem N1 (n:List UInt8):∀x∈lbl n,Jn x=true:=by
 unfold lbl nm;split
 ·simp
 ·split
  ·cases h:spl true [] n with
   |none=>simp
   |some l=>simpa using Wz _ _ _ _ h
  ·simp
def wireL (l:List (List UInt8)):List UInt8:=l.flatMap fun x=>be (x.length:Int) 1++x
def Hq (n:List UInt8):List UInt8:=wireL (lbl n)++be 0 1
theorem Q8:∀(l:List (List UInt8)),(∀x∈l,Jn x=true)→(wireL l).length≤64*l.length
 |[],_=>by simp [wireL]
 |x::l,h=>by have h1:=Sd (h x (by simp));have h2:=Q8 l (fun y hy=>h y (by simp [hy]));simp only [wireL,Ew,Ab,Eg,A0] at h2 ⊢;omega
theorem Y3 (n:List UInt8):(Hq n).length≤20000:=by have h1:=Q8 (lbl n) (N1 n);have h2:=M0 n;simp only [Hq,Ab,Eg];omega
def bmV (set:Int) (i:Nat):Nat→Int
 |0=>0
 |j+1=>bmV set i j*2+bit set (i*8+j)
theorem xl (set:Int) (t:Nat):0≤bit set t∧bit set t≤1:=by unfold bit;omega
theorem Vd (set:Int) (i:Nat):∀j,0≤bmV set i j∧bmV set i j<2 ^ j
 |0=>by simp [bmV]
 |j+1=>by have h1:=Vd set i j;have h2:=xl set (i*8+j);simp only [bmV,Int.pow_succ];omega
def bmB (set:Int) (i:Nat):UInt8:=UInt8.ofNat (bmV set i 8).toNat
def bmL (set:Int):Nat→Nat
 |0=>0
 |i+1=>if bmV set i 8≠0 then i+1 else bmL set i
theorem xf (set:Int):∀i,bmL set i≤i
 |0=>Af _
 |i+1=>by have:=xf set i;simp only [bmL];split<;>omega
def bmap (set:Int):List UInt8:=((List.range 8).map (bmB set)).take (bmL set 8)
theorem xy (set:Int):(bmap set).length≤8:=by simp [bmap];omega
def Oh (d:Dat):List UInt8:=if d.v6 then be d.hi 8++be d.lo 8 else be d.lo 4
def usd (t:Int) (d:Dat):Dat:=
 if t=1∨t=28 then ⟨d.v6,d.hi,d.lo,[],[],[],0,0,0,0,0,0,0⟩
 else if t=2∨t=5∨t=12∨t=39 then ⟨false,0,0,d.host,[],[],0,0,0,0,0,0,0⟩
 else if t=6 then ⟨false,0,0,d.host,d.mail,[],d.a,d.b,d.c,d.d,d.e,0,0⟩
 else if t=15 then ⟨false,0,0,d.host,[],[],d.a,0,0,0,0,0,0⟩
 else if t=16 then ⟨false,0,0,[],[],d.text,0,0,0,0,0,0,0⟩
 else if t=33 then ⟨false,0,0,d.host,[],[],d.a,d.b,d.c,0,0,0,0⟩
 else if t=43∨t=48 then ⟨false,0,0,[],[],d.text,d.a,d.b,d.c,0,0,0,0⟩
 else if t=46 then ⟨false,0,0,d.host,[],d.text,d.a,d.b,d.c,d.d,d.e,d.f,0⟩
 else ⟨false,0,0,d.host,[],[],0,0,0,0,0,0,d.bits⟩
end Go.X.G
/- Data of records: which are valid. -/
namespace Go.X.G
open Go Go.X
def Dw (t:Int) (d:Dat):Bool:=
 if t=1 then Ek d && !d.v6
 else if t=28 then d.v6
 else if t=6 then G6 d.host && G6 d.mail && inB d.a 4294967295 && inB d.b 2147483647 && inB d.c 2147483647 && inB d.d 2147483647 && inB d.e 2147483647
 else if t=15 then G6 d.host && inB d.a 65535
 else if t=16 then decide (d.text.length≤255)
 else if t=33 then G6 d.host && inB d.a 65535 && inB d.b 65535 && inB d.c 65535
 else if t=43 then inB d.a 65535 && inB d.b 255 && inB d.c 255 && I1 d.text
 else if t=46 then knw d.a && decide (d.a≠46) && inB d.b 127 && inB d.c 2147483647 && inB d.d 4294967295 && inB d.e 4294967295 && inB d.f 65535 && G6 d.host && I1 d.text
 else if t=47 then vld d.host && decide (d.bits≠0) && Gd2 d.bits 0 64
 else if t=48 then (decide (d.a=256)||decide (d.a=257)) && decide (d.b=3) && inB d.c 255 && I1 d.text
 else G6 d.host
def Ev (t:Int) (d:Dat):Bool:=knw t && decide (usd t d=d) && Dw t d
def I0 (t:Int) (d:Dat):List UInt8:=
 if t=1∨t=28 then Oh d
 else if t=6 then Hq d.host++Hq d.mail++be d.a 4++be d.b 4++be d.c 4++be d.d 4++be d.e 4
 else if t=15 then be d.a 2++Hq d.host
 else if t=16 then be (d.text.length:Int) 1++d.text
 else if t=33 then be d.a 2++be d.b 2++be d.c 2++Hq d.host
 else if t=43∨t=48 then be d.a 2++be d.b 1++be d.c 1++d.text
 else if t=46 then be d.a 2++be 253 1++be d.b 1++be d.c 4++be d.d 4++be d.e 4++be d.f 2++Hq d.host++d.text
 else if t=47 then Hq d.host++be 0 1++be ((bmap d.bits).length:Int) 1++bmap d.bits
 else Hq d.host
theorem knw_cases {t:Int} (h:knw t=true):t=1∨t=2∨t=5∨t=6∨t=12∨t=15∨t=16∨t=28∨t=33∨t=39∨t=43∨t=46∨t=47∨t=48:=by simp [knw] at h;omega
def Ek4 (t:Int) (a b:Dat):Int:=
 if Ev t a && Ev t b then cmpS (I0 t a) (I0 t b) else if Ev t a then -1 else if Ev t b then 1 else 0
end Go.X.G
/- Lists of records: what the reference's functions give. -/
namespace Go.X.G
open Go Go.X
def Iz (r:Rec):Bool:=vld r.name && knw r.typ && decide (0≤r.ttl) && decide (r.ttl≤2147483647) && Ev r.typ r.data
def t8 (a b:Int):Int:=if a<b then -1 else if b<a then 1 else 0
def Tl (a b:Rec):Int:=
 if Jw a.name b.name≠0 then Jw a.name b.name else if t8 a.typ b.typ≠0 then t8 a.typ b.typ else Ek4 a.typ a.data b.data
def isK (n:List UInt8) (t:Int) (r:Rec):Bool:=decide (r.name=n) && decide (r.typ=t)
def findR (l:List Rec) (n:List UInt8) (t:Int):List Rec:=l.filter (isK n t)
theorem yb (l:List Rec) (n:List UInt8) (t:Int) (hl:l.length≤1000000):S Bw4 3 [Al l, .s n, .i .i64 t]=some [Al (findR l n t)]:=by
 refine Iy0 (N:=l.length+1) rfl ?_;have key:Eb6.ev S (l.length+1) [Al l, .s n, .i .i64 t]=some (.yld 0 [Al ([]++findR l n t)]):=by
  refine Iw l (fun i (g:List Rec)=>[Al g, .i .i64 (i:Int)]) (fun i g r=> .yld 0 [Al (g++findR r n t)]) (fun i g=>g.length≤i) [] rfl (C6 _) (by omega) (fun i g c r hd hi hc hI=> ?_) (fun g hI=> ?_)
  ·left;by_cases h:isK n t c=true
   ·refine ⟨g++[c],?_,by simp;omega,by simp [findR,h]⟩;simp [isK] at h;simp (disch:=omega) only [Ad8,hc,h.1,h.2,xe,EVP,EV,simprocAttr]
   ·refine ⟨g,?_,by omega,by simp [findR,h]⟩;simp [isK] at h;by_cases h1:c.name=n
    ·simp (disch:=omega) only [Ad8,hc,h1,h h1,xe,EVP,EV,simprocAttr]
    ·by_cases h2:c.typ=t<;>simp (disch:=omega) only [Ad8,hc,h1,h2,xe,EVP,EV,simprocAttr]
  ·simp (disch:=omega) only [Ad8,xe,EVP,EV,simprocAttr];simp [findR,Out.goes]
 simp (disch:=omega) only [Ad8,key,xe,EVP,EV,simprocAttr]
def et (x:Rec):List Rec→List Rec
 |[]=>[x]
 |y::r=>if Tl y x<0 then y::et x r else if Tl y x=0 then (if x.ttl<y.ttl then x::r else y::r) else x::y::r
def sortR (l:List Rec):List Rec:=l.foldl (fun acc x=>et x acc) []
theorem insR_mem (x:Rec):∀(l:List Rec) (y:Rec),y∈et x l→y=x∨y∈l
 |[],y,h=>by simp [et] at h;exact .inl h
 |z::r,y,h=>by
  simp only [et] at h;split at h
  ·simp at h;rcases h with h|h
   ·exact .inr (by simp [h])
   ·rcases insR_mem x r y h with h|h
    ·exact .inl h
    ·exact .inr (by simp [h])
  ·split at h
   ·split at h
    ·simp at h;rcases h with h|h
     ·exact .inl h
     ·exact .inr (by simp [h])
    ·exact .inr h
   ·simp at h;rcases h with h|h
    ·exact .inl h
    ·exact .inr (by simpa using h)
end Go.X.G
/- Zones: what the reference's check gives. -/
namespace Go.X.G
open Go Go.X
def D4 (n top:List UInt8):Bool:=decide (n≠top) && under n top
def T3 (l:List Rec) (n:List UInt8) (t:Int):Bool:=decide (0<(findR l n t).length)
def Iy (r x:Rec):Bool:=
 !decide (x.name=r.name)||(!(decide (x.typ=r.typ) && decide (r.typ≠46) && decide (x.ttl≠r.ttl)) && !(decide (x.typ=r.typ) && (decide (r.typ=6)||decide (r.typ=5)||decide (r.typ=39)) && decide (x≠r)) &&
  !(decide (r.typ=5) && decide (x.typ≠5) && decide (x.typ≠46) && decide (x.typ≠47)))
def Px (z:Zone) (r:Rec):Bool:=z.recs.all (Iy r)
def Nh (z:Zone) (r x:Rec):Bool:=
 !(decide (x.typ=39) && D4 r.name x.name) && !(decide (x.typ=2) && D4 x.name z.origin && D4 r.name x.name && decide (r.typ≠1) && decide (r.typ≠28))
def Rt (t:Int):Bool:=decide (t=2)||decide (t=43)||decide (t=47)||decide (t=46)||decide (t=1)||decide (t=28)
def K4 (z:Zone) (r:Rec):Bool:=
 if (lbl r.name)[0]? =some [42]∧(r.typ=2∨r.typ=39) then false
 else z.recs.all (Nh z r) && (if D4 r.name z.origin && T3 z.recs r.name 2 then Rt r.typ else decide (r.typ≠43))
def H4 (z:Zone) (r:Rec):Bool:=under r.name z.origin && !(decide (r.typ=6) && decide (r.name≠z.origin)) && Px z r && K4 z r
def Ez (z:Zone):Int:=
 if vld z.origin=false then 2
 else if 2048<z.recs.length then 9
 else if z.recs.all (fun r=>decide ((findR z.recs r.name r.typ).length≤64))=false then 9
 else if z.recs.all Iz=false then 5
 else if z.recs≠sortR z.recs then 7
 else if (findR z.recs z.origin 6).length≠1∨T3 z.recs z.origin 2=false then 13
 else if z.recs.all (H4 z)=false then 13
 else 0
end Go.X.G
/- The order of records; what a checked zone is like. -/
namespace Go.X.G
open Go Go.X
theorem TO.prod {α β:Type} {l1:α→α→Prop} {l2:β→β→Prop} (h1:TO l1) (h2:TO l2):TO (fun p q:α×β=>l1 p.1 q.1∨(p.1=q.1∧l2 p.2 q.2)) where
 irr:=fun p h=>by
  rcases h with h|⟨_,h⟩
  ·exact h1.irr _ h
  ·exact h2.irr _ h
 tr:=fun p q r a b=>by
  rcases a with a|⟨a,a'⟩<;>rcases b with b|⟨b,b'⟩
  ·exact .inl (h1.tr _ _ _ a b)
  ·exact .inl (b▸a)
  ·exact .inl (a▸b)
  ·exact .inr ⟨a.trans b,h2.tr _ _ _ a' b'⟩
 tri:=fun p q=>by
  rcases h1.tri p.1 q.1 with a|a|a
  ·exact .inl (.inl a)
  ·rcases h2.tri p.2 q.2 with b|b|b
   ·exact .inl (.inr ⟨a,b⟩)
   ·exact .inr (.inl (Prod.ext a b))
   ·exact .inr (.inr (.inr ⟨a.symm,b⟩))
  ·exact .inr (.inr (.inl a))
theorem Gn4:TO (fun a b:Int=>a<b):=⟨fun a h=>by omega,fun a b c h1 h2=>by omega,fun a b=>by omega⟩
theorem X1 (a b:Int):t8 a b<0↔a<b:=by unfold t8;split<;>(try split)<;>omega
theorem H2 (a b:Int):t8 a b=0↔a=b:=by unfold t8;split<;>(try split)<;>omega
abbrev Key:=List UInt8×Int×List UInt8
abbrev ltK:Key→Key→Prop:=fun p q=>ltN p.1 q.1∨(p.1=q.1∧(p.2.1<q.2.1∨(p.2.1=q.2.1∧ltB p.2.2 q.2.2)))
theorem to_K:TO ltK:=to_N.prod (Gn4.prod Dv3)
def Dv5 (r:Rec):Key:=(r.name,r.typ,I0 r.typ r.data)
abbrev ltR (a b:Rec):Prop:=ltK (Dv5 a) (Dv5 b)
theorem Jh {r:Rec} (h:Iz r=true):Ev r.typ r.data=true:=by unfold Iz at h;simp only [Av] at h;exact h.2
theorem Y4 {r:Rec} (h:Iz r=true):vld r.name=true:=by unfold Iz at h;simp only [Av] at h;exact h.1.1.1.1
theorem Ef4 {t:Int} {a b:Dat} (ha:Ev t a=true) (hb:Ev t b=true):Ek4 t a b=cmpS (I0 t a) (I0 t b):=by unfold Ek4;rw [ha,hb];rfl
theorem uj {a b:Rec} (ha:Iz a=true) (hb:Iz b=true):Tl a b<0↔ltR a b:=by
 unfold Tl ltR ltK Dv5;simp only;by_cases h1:Jw a.name b.name=0
 ·rw [if_neg (by simp [h1])];have e1:=H1.1 h1;have n1:¬ltN a.name b.name:=by rw [e1];exact to_N.irr _
  by_cases h2:t8 a.typ b.typ=0
  ·rw [if_neg (by simp [h2])];have e2:=(H2 _ _).1 h2;have ha':=Jh ha;have hb':=Jh hb;rw [e2] at ha' ⊢;rw [Ef4 ha' hb',Q1];constructor
   ·intro h;exact .inr ⟨e1, .inr ⟨rfl,h⟩⟩
   ·rintro (h|⟨_,h|⟨_,h⟩⟩)
    ·exact absurd h n1
    ·omega
    ·exact h
  ·rw [if_pos h2,X1];have e2:a.typ≠b.typ:=fun e=>h2 ((H2 _ _).2 e);constructor
   ·intro h;exact .inr ⟨e1, .inl h⟩
   ·rintro (h|⟨_,h|⟨h,_⟩⟩)
    ·exact absurd h n1
    ·exact h
    ·exact absurd h e2
 ·rw [if_pos h1,E4];have e1:a.name≠b.name:=fun e=>h1 (H1.2 e);constructor
  ·intro h;exact .inl h
  ·rintro (h|⟨h,_⟩)
   ·exact h
   ·exact absurd h e1
theorem dn {a b:Rec} (ha:Iz a=true) (hb:Iz b=true):Tl a b=0↔Dv5 a=Dv5 b:=by
 unfold Tl Dv5;by_cases h1:Jw a.name b.name=0
 ·rw [if_neg (by simp [h1])];have e1:=H1.1 h1;by_cases h2:t8 a.typ b.typ=0
  ·rw [if_neg (by simp [h2])];have e2:=(H2 _ _).1 h2;have ha':=Jh ha;have hb':=Jh hb;rw [e2] at ha' ⊢;rw [Ef4 ha' hb',It];simp [e1]
  ·rw [if_pos h2];have e2:a.typ≠b.typ:=fun e=>h2 ((H2 _ _).2 e);constructor
   ·intro h;exact absurd h h2
   ·intro h;injection h with _ h;injection h with h _;exact absurd h e2
 ·rw [if_pos h1];have e1:a.name≠b.name:=fun e=>h1 (H1.2 e);constructor
  ·intro h;exact absurd h h1
  ·intro h;injection h with h _;exact absurd h e1
theorem Sf {x:Rec} (hx:Iz x=true):∀(l:List Rec),(∀r∈l,Iz r=true)→l.Pairwise ltR→(et x l).Pairwise ltR
 |[],_,_=>by simp [et]
 |y::r,hv,h=>by
  obtain ⟨h1,h2⟩:=A3.1 h;have hy:=hv y (.head _);have ih:=Sf hx r (fun w hw=>hv w (.tail _ hw)) h2;simp only [et];by_cases c:Tl y x<0
  ·rw [if_pos c];refine A3.2 ⟨fun w hw=> ?_,ih⟩;rcases insR_mem x r w hw with rfl|hw
   ·exact (uj hy hx).1 c
   ·exact h1 w hw
  ·rw [if_neg c];by_cases e:Tl y x=0
   ·rw [if_pos e];split
    ·have ke:=(dn hy hx).1 e;refine A3.2 ⟨fun w hw=> ?_,h2⟩;have:=h1 w hw;show ltK (Dv5 x) (Dv5 w);rw [←ke];exact this
    ·exact h
   ·rw [if_neg e];have hxy:ltR x y:=by
     rcases to_K.tri (Dv5 x) (Dv5 y) with q|q|q
     ·exact q
     ·exact absurd ((dn hy hx).2 q.symm) e
     ·exact absurd ((uj hy hx).2 q) c
    refine A3.2 ⟨fun w hw=> ?_,h⟩;rcases Am.1 hw with rfl|hw
    ·exact hxy
    ·exact to_K.tr _ _ _ hxy (h1 w hw)
theorem Ph (l:List Rec) (hv:∀r∈l,Iz r=true):(sortR l).Pairwise ltR∧∀r∈sortR l,r∈l:=by
 have:∀(l a:List Rec),(∀r∈l,Iz r=true)→(∀r∈a,Iz r=true)→a.Pairwise ltR→(l.foldl (fun acc x=>et x acc) a).Pairwise ltR∧∀r∈l.foldl (fun acc x=>et x acc) a,r∈a∨r∈l:=by
  intro l
  induction l with
  |nil=>intro a _ _ h;exact ⟨h,fun r hr=> .inl hr⟩
  |cons x r ih=>
   intro a h1 h2 h3;have hx:=h1 x (.head _);obtain ⟨g1,g2⟩:=ih (et x a) (fun w hw=>h1 w (.tail _ hw)) (fun w hw=>by
    rcases insR_mem x a w hw with rfl|hw
    ·exact hx
    ·exact h2 w hw) (Sf hx a h2 h3)
   refine ⟨g1,fun w hw=> ?_⟩;rcases g2 w hw with hw|hw
   ·rcases insR_mem x a w hw with rfl|hw
    ·exact .inr (.head _)
    ·exact .inl hw
   ·exact .inr (.tail _ hw)
 obtain ⟨h1,h2⟩:=this l [] hv (fun r hr=>by cases hr) .nil;exact ⟨h1,fun r hr=>(h2 r hr).resolve_left (by simp)⟩
structure ZOk (z:Zone):Prop where
 origin:vld z.origin=true
 small:z.recs.length≤2048
 valid:∀r∈z.recs,Iz r=true
 rising:z.recs.Pairwise ltR
 soa:(findR z.recs z.origin 6).length=1
 ns:T3 z.recs z.origin 2=true
 recs:∀r∈z.recs,H4 z r=true
theorem Gl {z:Zone} (h:Ez z=0):ZOk z:=by
 unfold Ez at h;split at h
 ·cases h
 ·rename_i h1;split at h
  ·cases h
  ·rename_i h2;split at h
   ·cases h
   ·split at h
    ·cases h
    ·rename_i h4;split at h
     ·cases h
     ·rename_i h5;split at h
      ·cases h
      ·rename_i h6;split at h
       ·cases h
       ·rename_i h7;simp only [Ex,Bw] at h1 h4 h7;simp only [not_or,ne_eq,I7,Ex] at h5 h6;refine ⟨h1,by omega,h4,?_,h6.1,h6.2,h7⟩;rw [h5];exact (Ph z.recs h4).1
theorem ZOk.beside {z:Zone} (h:ZOk z) {r x:Rec} (hr:r∈z.recs) (hx:x∈z.recs):Iy r x=true:=by have:=h.recs r hr;unfold H4 at this;simp only [Av] at this;have h2:=this.1.2;unfold Px at h2;exact Bw.1 h2 x hx
theorem ZOk.under {z:Zone} (h:ZOk z) {r:Rec} (hr:r∈z.recs):under r.name z.origin=true:=by have:=h.recs r hr;unfold H4 at this;simp only [Av] at this;exact this.1.1.1
theorem ZOk.single {z:Zone} (h:ZOk z) (n:List UInt8) (t:Int) (ht:t=6∨t=5∨t=39):(findR z.recs n t).length≤1:=by
 have hp:(findR z.recs n t).Pairwise ltR:=h.rising.filter _;have hm:∀x∈findR z.recs n t,x∈z.recs∧x.name=n∧x.typ=t:=fun x hx=>by obtain ⟨h1,h2⟩:=Bh.1 hx;simp only [isK,Av,decide_eq_true_eq] at h2;exact ⟨h1,h2.1,h2.2⟩
 generalize findR z.recs n t=l at*
 match l,hp,hm with
 |[],_,_=>simp
 |[_],_,_=>simp
 |a::b::r,hp,hm=>
  exfalso;have hab:ltR a b:=(A3.1 hp).1 b (.head _);obtain ⟨a1,a2,a3⟩:=hm a (.head _);obtain ⟨b1,b2,b3⟩:=hm b (.tail _ (.head _));have hb:=h.beside a1 b1;have e:b=a:=by
   unfold Iy at hb;rw [a2,a3,b2,b3] at hb;have ht':(decide (t=6)||decide (t=5)||decide (t=39))=true:=by rcases ht with h|h|h<;>simp [h]
   rw [ht'] at hb;simp only [decide_true,Kv,Kw,Of,Bool.true_and,Av,A8,decide_eq_false_iff_not,ne_eq,I7] at hb;exact hb.1.2
  rw [e] at hab;exact to_K.irr _ hab
end Go.X.G
/- Sorted lists of names, each once. -/
namespace Go.X.G
open Go Go.X
def Qv {α:Type} (e:α→α→Bool):α→List α→List α
 |_,[]=>[]
 |p,c::r=>if e c p=true then Qv e c r else c::Qv e c r
def cpt {α:Type} (e:α→α→Bool):List α→List α
 |[]=>[]
 |x::r=>x::Qv e x r
theorem dm {α:Type} (e:α→α→Bool) (c:α):∀(r:List α) (p:α),Qv e p (r++[c])=Qv e p r++(if e c ((p::r).getLast (by simp))=true then [] else [c])
 |[],p=>by simp only [Cq,Qv,List.getLast_singleton];rfl
 |x::r,p=>by
  have ih:=dm e c r x;simp only [B7,Qv,List.getLast_cons_cons];split
  ·exact ih
  ·rw [ih];rfl
theorem L8 {α:Type} (e:α→α→Bool) (c:α) (l:List α) (h:l≠[]):cpt e (l++[c])=cpt e l++(if e c (l.getLast h)=true then [] else [c]):=by
 cases l with
 |nil=>exact absurd rfl h
 |cons x r=>
  show x::Qv e x (r++[c])=_;rw [dm];rfl
theorem tn {α:Type} (e:α→α→Bool):∀(r:List α) (p:α),(Qv e p r).length≤r.length
 |[],_=>by simp [Qv]
 |c::r,p=>by have:=tn e r c;simp only [Qv];split<;>simp<;>omega
theorem S5 {α:Type} (e:α→α→Bool) (l:List α):(cpt e l).length≤l.length:=by
 cases l with
 |nil=>simp [cpt]
 |cons x r=>have:=tn e r x;simp [cpt];exact this
theorem Xs {α:Type} (e:α→α→Bool):∀(r:List α) (p:α),∀x∈Qv e p r,x∈r
 |[],_,x,h=>by simp [Qv] at h
 |c::r,p,x,h=>by
  simp only [Qv] at h;split at h
  ·exact .tail _ (Xs e r c x h)
  ·rcases Am.1 h with rfl|h
   ·exact .head _
   ·exact .tail _ (Xs e r c x h)
theorem Gq8 {α:Type} (e:α→α→Bool) (l:List α):∀x∈cpt e l,x∈l:=by
 cases l with
 |nil=>intro x h;simp [cpt] at h
 |cons y r=>
  intro x h;rcases Am.1 (show x∈y::Qv e y r from h) with rfl|h
  ·exact .head _
  ·exact .tail _ (Xs e r y x h)
abbrev eqs {α:Type} [DecidableEq α]:α→α→Bool:=fun a b=>decide (a=b)
theorem cptG_mem {α:Type} [DecidableEq α]:∀(r:List α) (p x:α),x∈r→x=p∨x∈Qv eqs p r
 |[],_,x,h=>by simp at h
 |c::r,p,x,h=>by
  simp only [Qv];by_cases hc:c=p
  ·subst hc;rw [if_pos (by simp [eqs])];rcases Am.1 h with rfl|h
   ·exact .inl rfl
   ·exact cptG_mem r c x h
  ·rw [if_neg (by simp [eqs,hc])];right;rcases Am.1 h with rfl|h
   ·exact .head _
   ·rcases cptG_mem r c x h with rfl|h
    ·exact .head _
    ·exact .tail _ h
theorem Gq9 {α:Type} [DecidableEq α] (l:List α) (x:α):x∈cpt eqs l↔x∈l:=by
 refine ⟨Gq8 _ l x,fun h=> ?_⟩;cases l with
 |nil=>simp at h
 |cons y r=>
  rcases Am.1 h with rfl|h
  ·exact .head _
  ·rcases cptG_mem r y x h with rfl|h
   ·exact .head _
   ·exact .tail _ h
theorem S6 {α:Type} [DecidableEq α] {lt:α→α→Prop} (ht:TO lt):∀(r:List α) (p:α),(p::r).Pairwise (fun a b=>¬lt b a)→(p::Qv eqs p r).Pairwise lt
 |[],p,_=>by simp [Qv]
 |c::r,p,h=>by
  rw [A3] at h;have ih:=S6 ht r c h.2;simp only [Qv];by_cases hc:c=p
  ·subst hc;rw [if_pos (by simp [eqs])];exact ih
  ·rw [if_neg (by simp [eqs,hc])];rw [A3];refine ⟨fun x hx=> ?_,ih⟩;have hpc:lt p c:=by
    rcases ht.tri p c with h1|h1|h1
    ·exact h1
    ·exact absurd h1.symm hc
    ·exact absurd h1 (h.1 c (.head _))
   rcases Am.1 hx with rfl|hx
   ·exact hpc
   ·exact ht.tr _ _ _ hpc ((A3.1 ih).1 x hx)
theorem Ay8 {α:Type} [DecidableEq α] {lt:α→α→Prop} (ht:TO lt) (l:List α) (h:l.Pairwise (fun a b=>¬lt b a)):(cpt eqs l).Pairwise lt:=by
 cases l with
 |nil=>simp [cpt]
 |cons x r=>exact S6 ht r x h
theorem Rn {α:Type} {lt:α→α→Prop} (ht:TO lt):∀(a b:List α),a.Pairwise lt→b.Pairwise lt→(∀x,x∈a↔x∈b)→a=b
 |[],[],_,_,_=>rfl
 |[],y::b,_,_,h=>absurd ((h y).2 (.head _)) (by simp)
 |x::a,[],_,_,h=>absurd ((h x).1 (.head _)) (by simp)
 |x::a,y::b,ha,hb,h=>by
  rw [A3] at ha hb;have hxy:x=y:=by
   rcases Am.1 ((h x).1 (.head _)) with h1|h1
   ·exact h1
   ·rcases Am.1 ((h y).2 (.head _)) with h2|h2
    ·exact h2.symm
    ·exact absurd (hb.1 x h1) (ht.asym (ha.1 y h2))
  subst hxy;rw [Rn ht a b ha.2 hb.2 fun z=> ?_];constructor
  ·intro hz;rcases Am.1 ((h z).1 (.tail _ hz)) with rfl|h1
   ·exact absurd (ha.1 z hz) (ht.irr z)
   ·exact h1
  ·intro hz;rcases Am.1 ((h z).2 (.tail _ hz)) with rfl|h1
   ·exact absurd (hb.1 z hz) (ht.irr z)
   ·exact h1
def setN (l:List (List UInt8)):List (List UInt8):=cpt eqs (l.mergeSort fun x y=> !decide (Jw y x<0))
theorem Fp5 (l:List (List UInt8)):(l.mergeSort fun x y=> !decide (Jw y x<0)).Pairwise (fun a b=>¬ltN b a):=by
 have:=List.pairwise_mergeSort (le:=fun x y:List UInt8=> !decide (Jw y x<0)) (fun a b c h1 h2=>by
  simp only [A8,decide_eq_false_iff_not,E4] at h1 h2 ⊢;exact to_N.ntr h2 h1) (fun a b=>by
  simp only [Ap,A8,decide_eq_false_iff_not,E4];rcases to_N.tri a b with h|h|h
  ·exact .inl (to_N.asym h)
  ·subst h;exact .inl (to_N.irr a)
  ·exact .inr (to_N.asym h)) l
 refine this.imp fun {a b} h=> ?_;simpa only [A8,decide_eq_false_iff_not,E4] using h
theorem Mn (l:List (List UInt8)):(setN l).Pairwise ltN:=Ay8 to_N _ (Fp5 l)
theorem J3 (l:List (List UInt8)) (x:List UInt8):x∈setN l↔x∈l:=by unfold setN;rw [Gq9];exact (List.mergeSort_perm _ _).mem_iff
theorem Wg (l:List (List UInt8)):(setN l).length≤l.length:=by have:=S5 eqs (l.mergeSort fun x y=> !decide (Jw y x<0));rw [fx] at this;exact this
end Go.X.G
/- Names on the way up; delegations above a name. -/
namespace Go.X.G
open Go Go.X
def upN (o n:List UInt8):List (List UInt8):=(List.range ((lbl n).length - (lbl o).length+1)).map fun k=>jn ((lbl n).drop k)
theorem Rj {o n x:List UInt8} (h:under n o=true):x∈upN o n↔under n x=true∧under x o=true:=by
 obtain ⟨hn,ho,hs⟩:=C1.1 h;have hle:=hs.length_le;rw [I3] at hs;unfold upN;rw [D6];constructor
 ·rintro ⟨k,hk,rfl⟩;rw [Fq] at hk;obtain ⟨v1,v2⟩:=Qb hn k;refine ⟨C1.2 ⟨hn,v1,by rw [v2];exact List.drop_suffix _ _⟩,C1.2 ⟨v1,ho,?_⟩⟩;rw [v2,hs];have:(lbl n).length - (lbl o).length=k+((lbl n).length - (lbl o).length - k):=by omega
  rw [this,←C7];exact List.drop_suffix _ _
 ·rintro ⟨h1,h2⟩;obtain ⟨_,hx,h3⟩:=C1.1 h1;obtain ⟨_,_,h4⟩:=C1.1 h2;have l1:=h3.length_le;have l2:=h4.length_le;rw [I3] at h3;refine ⟨(lbl n).length - (lbl x).length,?_,?_⟩
  ·rw [Fq];omega
  ·rw [←h3];exact (Q9 hx).symm
theorem f5 (o n:List UInt8):(upN o n).length≤256:=by have:=M0 n;simp [upN];omega
theorem Wx {o n:List UInt8} {k:Nat} (hk:k≤(lbl n).length - (lbl o).length):(upN o n)[k]? =some (jn ((lbl n).drop k)):=by unfold upN;rw [Bg,B5 (by omega)];rfl
theorem Bd8 {n:List UInt8} (h:vld n=true):jn ((lbl n).drop 0)=n:=by rw [Eh];exact (Q9 h).symm
theorem nn {o n:List UInt8} (h:under n o=true) {k:Nat} (hk:k≤(lbl n).length - (lbl o).length):jn ((lbl n).drop k)=o↔k=(lbl n).length - (lbl o).length:=by
 obtain ⟨hn,ho,hs⟩:=C1.1 h;have hle:=hs.length_le;rw [I3] at hs;obtain ⟨v1,v2⟩:=Qb hn k;constructor
 ·intro e;have:=congrArg (fun x=>(lbl x).length) e;simp only [v2,B6] at this;omega
 ·rintro rfl;rw [←hs];exact (Q9 ho).symm
theorem Ew8 {o n:List UInt8} (h:under n o=true) {k:Nat} (hk:k<(lbl n).length - (lbl o).length):W4 (jn ((lbl n).drop k))=jn ((lbl n).drop (k+1))∧tj (jn ((lbl n).drop k))=true:=by
 obtain ⟨hn,ho,hs⟩:=C1.1 h;obtain ⟨v1,v2⟩:=Qb hn k;have hne:jn ((lbl n).drop k)≠[46]:=by intro e;have:=(Fr8 v1).2 e;rw [v2] at this;have:=congrArg List.length this;simp at this;omega
 unfold W4 tj;rw [if_pos ⟨v1,hne⟩,v2,C7];exact ⟨rfl,by simp [v1,hne]⟩
theorem Xg (l:List (List UInt8)) (i j:Nat) (h:i<j) (hj:j≤l.length):(flat (l.drop j)).length<(flat (l.drop i)).length:=by
 have e:l.drop i=(l.drop i).take (j - i)++l.drop j:=by have:=(Bs (j - i) (l.drop i)).symm;rw [C7,show i+(j - i)=j by omega] at this;exact this
 rw [e,Xh,Ab];have:0<(flat ((l.drop i).take (j - i))).length:=by
  cases hc:(l.drop i).take (j - i) with
  |nil=>
   have:=congrArg List.length hc;simp at this;omega
  |cons x r=>simp [flat];omega
 omega
theorem Dk8 {n a b:List UInt8} (ha:under n a=true) (hb:under n b=true):a.length<b.length↔(lbl a).length<(lbl b).length:=by
 have key:∀{a b:List UInt8},under n a=true→under n b=true→(lbl a).length<(lbl b).length→a.length<b.length:=by
  intro a b ha hb hl;obtain ⟨hn,va,sa⟩:=C1.1 ha;obtain ⟨_,vb,sb⟩:=C1.1 hb;have la:=sa.length_le;have lb:=sb.length_le;rw [I3] at sa sb;rw [Q9 va,Q9 vb];have hbne:lbl b≠[]:=fun e=>by rw [e] at hl;simp at hl
  have e2:jn (lbl b)=flat (lbl b):=by unfold jn;rw [if_neg hbne]
  rw [e2];by_cases ha0:lbl a=[]
  ·have e1:jn (lbl a)=[46]:=by unfold jn;rw [if_pos ha0]
   rw [e1];have:=Hs (ng vb) hbne;simp;omega
  ·have e1:jn (lbl a)=flat (lbl a):=by unfold jn;rw [if_neg ha0]
   rw [e1,sa,sb];exact Xg _ _ _ (by omega) (by omega)
 constructor
 ·intro h;rcases Dw3 (lbl a).length (lbl b).length with h1|h1
  ·exact h1
  ·rcases Nat.lt_or_eq_of_le h1 with h2|h2
   ·have:=key hb ha h2;omega
   ·obtain ⟨_,va,sa⟩:=C1.1 ha;obtain ⟨_,vb,sb⟩:=C1.1 hb;rw [I3] at sa sb;have:a=b:=M1 va vb (by rw [sa,sb,h2]);subst this;omega
 ·exact key ha hb
def Dp (z:Zone) (r:Rec):Bool:=decide (r.typ=2) && D4 r.name z.origin
def Gg1 (z:Zone) (n:List UInt8):List UInt8→List Rec→List UInt8
 |b,[]=>b
 |b,r::rs=>Gg1 z n (if Dp z r && under n r.name && (decide (b=[])||decide ((lbl r.name).length<(lbl b).length)) then r.name else b) rs
def Ek1 (z:Zone) (n:List UInt8):List UInt8:=Gg1 z n [] z.recs
def Xb (z:Zone) (n:List UInt8):Bool:=z.recs.any fun r=>Dp z r && decide (r.name≠n) && under n r.name
theorem yh {a b:List UInt8} (h1:under a b=true) (h2:(lbl a).length≤(lbl b).length):a=b:=by obtain ⟨va,vb,s⟩:=C1.1 h1;exact M1 va vb (s.eq_of_length_le h2).symm
def Gg4 (z:Zone):List (List UInt8):=(z.recs.filter fun r=>under r.name z.origin && !Xb z r.name).flatMap fun r=>upN z.origin r.name
def namesN (z:Zone):List (List UInt8):=setN (Gg4 z)
def Ed1 (z:Zone) (x:List UInt8):Prop:=∃r∈z.recs,under r.name z.origin=true∧Xb z r.name=false∧under r.name x=true∧under x z.origin=true
theorem yq (z:Zone) (x:List UInt8):x∈Gg4 z↔Ed1 z x:=by
 unfold Gg4 Ed1;simp only [List.mem_flatMap,Bh,Av,A8];constructor
 ·rintro ⟨r,⟨hr,h1,h2⟩,h3⟩;obtain ⟨h4,h5⟩:=(Rj h1).1 h3;exact ⟨r,hr,h1,h2,h4,h5⟩
 ·rintro ⟨r,hr,h1,h2,h4,h5⟩;exact ⟨r,⟨hr,h1,h2⟩,(Rj h1).2 ⟨h4,h5⟩⟩
theorem Dp2 (z:Zone) (l:List (List UInt8)) (h:∀x,x∈l↔Ed1 z x):setN l=namesN z:=
 Rn to_N _ _ (Mn _) (Mn _) fun x=>by rw [J3,h,namesN,J3,yq]
theorem Av0 (z:Zone) (x:List UInt8):x∈namesN z↔Ed1 z x:=by unfold namesN;rw [J3,yq]
end Go.X.G
/- Zones by the names of their records: groups of a sorted list, in plain words. -/
namespace Go.X.G
open Go Go.X
theorem Bz6 {α:Type} {lt:α→α→Prop}:∀(p q:List α),p<+:q→p≠q→lex lt p q
 |[],[],_,h=>absurd rfl h
 |[],_::_,_,_=>trivial
 |a::p,[],h,_=>by simp at h
 |a::p,b::q,h,hne=>by obtain ⟨rfl,hpq⟩:=Ll.1 h;exact .inr ⟨rfl,Bz6 p q hpq fun e=>hne (by rw [e])⟩
theorem Bz7 {α:Type} {lt:α→α→Prop} (ht:TO lt):∀(p q x:List α),p<+:q→¬lex lt x p→¬lex lt q x→p<+:x
 |[],_,_,_,_,_=>List.nil_prefix
 |a::p,[],_,h,_,_=>by simp at h
 |a::p,b::q,[],_,h,_=>absurd trivial h
 |a::p,b::q,c::x,h,h1,h2=>by
  obtain ⟨rfl,hpq⟩:=Ll.1 h;simp only [lex,not_or,not_and] at h1 h2;have e:a=c:=by
   rcases ht.tri a c with k|k|k
   ·exact absurd k h2.1
   ·exact k
   ·exact absurd k h1.1
  subst e;exact Ll.2 ⟨rfl,Bz7 ht p q x hpq (h1.2 rfl) (h2.2 rfl)⟩
theorem Fr0 {a b:List UInt8} (ha:vld a=true) (hb:vld b=true):ltN a b↔ltL (lbl a).reverse (lbl b).reverse:=by unfold ltN;rw [if_pos ha,if_pos hb]
theorem Y5 {n top:List UInt8} (h:under n top=true):(lbl top).reverse<+:(lbl n).reverse:=List.reverse_prefix.2 (C1.1 h).2.2
theorem Dx9 {n top:List UInt8} (h:under n top=true) (hne:n≠top):ltN top n:=by obtain ⟨h1,h2,h3⟩:=C1.1 h;rw [Fr0 h2 h1];refine Bz6 _ _ (Y5 h) fun e=>hne ?_;exact (M1 h2 h1 (List.reverse_inj.1 e)).symm
theorem Ag4 {d x n:List UInt8} (hx:vld x=true) (h:under n d=true) (h1:¬ltN x d) (h2:¬ltN n x):under x d=true:=by obtain ⟨k1,k2,k3⟩:=C1.1 h;rw [Fr0 hx k2] at h1;rw [Fr0 k1 hx] at h2;exact C1.2 ⟨hx,k2,List.reverse_prefix.1 (Bz7 Dv3 _ _ _ (Y5 h) h1 h2)⟩
theorem Ad0 {a b c:List UInt8} (h1:under a b=true) (h2:under b c=true):under a c=true:=by obtain ⟨a1,a2,a3⟩:=C1.1 h1;obtain ⟨b1,b2,b3⟩:=C1.1 h2;exact C1.2 ⟨a1,b2,b3.trans a3⟩
def T4 (p:List Rec):List Rec→List (List Rec)
 |[]=>[]
 |x::r=>if (match r with|[]=>true|y::_=> !decide (y.name=x.name))=true then (p++[x])::T4 [] r else T4 (p++[x]) r
def grp (l:List Rec):List (List Rec):=T4 [] l
def nmG (g:List Rec):List UInt8:=match g with|[]=>[]|x::_=>x.name
theorem c5 (n:List UInt8):∀(r p:List Rec) (x:Rec),x.name=n→(∀y∈p,y.name=n)→∃g l',x::r=g++l'∧g≠[]∧(∀y∈g,y.name=n)∧(∀y,l'.head? =some y→y.name≠n)∧T4 p (x::r)=(p++g)::grp l'
 |[],p,x,hx,hp=>⟨[x],[],rfl,by simp,by simpa using hx,by simp,rfl⟩
 |y::r,p,x,hx,hp=>by
  by_cases h:y.name=x.name
  ·obtain ⟨g,l',h1,h2,h3,h4,h5⟩:=c5 n r (p++[x]) y (by rw [h,hx]) (fun w hw=>by
    rcases Bc.1 hw with hw|hw
    ·exact hp w hw
    ·have:w=x:=by simpa using hw
     rw [this,hx])
   refine ⟨x::g,l',by rw [h1];rfl,by simp,fun w hw=> ?_,h4,?_⟩
   ·rcases Am.1 hw with rfl|hw
    ·exact hx
    ·exact h3 w hw
   ·rw [T4,if_neg (by simp [h]),h5];simp
  ·refine ⟨[x],y::r,rfl,by simp,by simpa using hx,fun w hw=> ?_,?_⟩
   ·simp at hw;subst hw;rw [←hx];exact h
   ·rw [T4,if_pos (by simp [h])];rfl
theorem Qp (x:Rec) (r:List Rec):∃g l',x::r=g++l'∧g≠[]∧(∀y∈g,y.name=x.name)∧(∀y,l'.head? =some y→y.name≠x.name)∧grp (x::r)=g::grp l':=by obtain ⟨g,l',h1,h2,h3,h4,h5⟩:=c5 x.name r [] x rfl (by simp);exact ⟨g,l',h1,h2,h3,h4,by rw [grp,h5];rfl⟩
theorem Ez1 {g:List Rec} {n:List UInt8} (h:g≠[]) (h2:∀y∈g,y.name=n):nmG g=n:=by
 cases g with
 |nil=>exact absurd rfl h
 |cons x r=>exact h2 x (.head _)
abbrev Hq2 (l:List Rec):Prop:=l.Pairwise fun a b=>¬ltN b.name a.name
def F5 (g:List Rec) (t:Int):Bool:=g.any fun r=>decide (r.typ=t)
def I2 (g:List Rec) (ts:List Int):Bool:=g.all fun r=>decide (r.typ∈ts)
def Uq (p:Rec):List Rec→Bool
 |[]=>true
 |x::r=>(!decide (x.typ=p.typ)||(!(decide (x.typ=6)||decide (x.typ=5)||decide (x.typ=39)) && (decide (x.typ=46)||decide (x.ttl=p.ttl)))) && Uq x r
def Dv2 (g:List Rec):Bool:=match g with|[]=>true|x::r=>Uq x r
def propG (o:List UInt8) (g:List Rec) (cut red:Bool):Bool:=
 under (nmG g) o && (decide (F5 g 6=decide (nmG g=o))) && Dv2 g && (!decide (nmG g=o)||F5 g 2) && (!F5 g 5||I2 g [5,46,47]) && !red && (!cut||I2 g [1,28]) &&
  (if (!decide (nmG g=o) && F5 g 2)=true then I2 g [2,43,47,46,1,28] else !F5 g 43) && (!decide ((nmG g)[0]? =some 42)||(!F5 g 2 && !F5 g 39))
def Ds (n c:List UInt8):List UInt8:=if c≠[]∧under n c=false then [] else c
def j9 (o:List UInt8):List (List Rec)→List UInt8→List UInt8→Bool→Bool
 |[],_,_,soa=>soa
 |g::gs,cut,red,soa=>
  if propG o g (decide (Ds (nmG g) cut≠[])) (decide (Ds (nmG g) red≠[]))=true then
   j9 o gs (if Ds (nmG g) cut=[]∧nmG g≠o∧F5 g 2=true then nmG g else Ds (nmG g) cut) (if F5 g 39=true then nmG g else Ds (nmG g) red) (soa||decide (nmG g=o))
  else false
def Fm4 (z:Zone) (n:List UInt8):Bool:=z.recs.any fun r=>decide (r.typ=39) && D4 n r.name
def Z0 (z:Zone) (g:List Rec):Bool:=propG z.origin g (Xb z (nmG g)) (Fm4 z (nmG g))
theorem fz {n:List UInt8} (h:vld n=true):n≠[]:=fun e=>by
 subst e;have:vld []=false:=by decide
 rw [this] at h;cases h
structure GInv (z:Zone) (done l:List Rec) (cut red:List UInt8):Prop where
 cut1:cut≠[]→∃r∈done,Dp z r=true∧r.name=cut
 cut2:∀m∈l,∀r∈done,Dp z r=true→under m.name r.name=true→cut≠[]∧under m.name cut=true
 red1:red≠[]→∃r∈done,r.typ=39∧r.name=red
 red2:∀m∈l,∀r∈done,r.typ=39→under m.name r.name=true→red≠[]∧under m.name red=true
theorem g8 {o:List UInt8} {g:List Rec} {c r:Bool} (h:propG o g c r=true):under (nmG g) o=true∧r=false:=by unfold propG at h;simp only [Av,A8] at h;exact ⟨h.1.1.1.1.1.1.1.1,h.1.1.1.2⟩
theorem uq (z:Zone) (hv:∀r∈z.recs,vld r.name=true) (hs:Hq2 z.recs):∀(n:Nat) (done l:List Rec) (cut red:List UInt8) (soa:Bool),l.length≤n→z.recs=done++l→(∀a∈done,∀b∈l,ltN a.name b.name)→GInv z done l cut red→
  (j9 z.origin (grp l) cut red soa=true↔(∀g∈grp l,Z0 z g=true)∧(soa=true∨∃r∈l,r.name=z.origin))
 |n,done,[],cut,red,soa,_,_,_,_=>by simp [grp,T4,j9]
 |0,done,x::r,cut,red,soa,hn,_,_,_=>by simp at hn
 |n+1,done,x::r,cut,red,soa,hn,hz,hlt,hI=>by
  obtain ⟨g,l',h1,h2,h3,h4,h5⟩:=Qp x r;have hnm:nmG g=x.name:=Ez1 h2 h3;have hmem:∀y∈g,y∈x::r:=fun y hy=>by rw [h1];exact B3 _ hy
  have hmem':∀y∈l',y∈x::r:=fun y hy=>by rw [h1];exact Br _ hy
  have hzx:∀y∈x::r,y∈z.recs:=fun y hy=>by rw [hz];exact Br _ hy
  have hvx:vld x.name=true:=hv x (hzx x (.head _));have hgl:∀b∈l',ltN x.name b.name:=by
   have hs2:Hq2 (g++l'):=by rw [←h1];have:=hs;rw [hz] at this;exact (Fj.1 this).2.1
   have hs3:=Fj.1 hs2;cases l' with
   |nil=>intro b hb;cases hb
   |cons y l''=>
    have hy:ltN x.name y.name:=by
     obtain ⟨w,hw⟩:=Fh g h2;have k:=hs3.2.2 w hw y (.head _);rw [h3 w hw] at k;rcases to_N.tri x.name y.name with q|q|q
     ·exact q
     ·exact absurd q.symm (h4 y rfl)
     ·exact absurd q k
    intro b hb;rcases Am.1 hb with rfl|hb
    ·exact hy
    ·have k:=(A3.1 hs3.2.1).1 b hb;rcases to_N.tri y.name b.name with q|q|q
     ·exact to_N.tr _ _ _ hy q
     ·rw [←q];exact hy
     ·exact absurd q k
  have habove:∀w∈z.recs,under x.name w.name=true→x.name≠w.name→w∈done:=fun w hw hu hne=>by
   rw [hz] at hw;rcases Bc.1 hw with hw|hw
   ·exact hw
   ·exfalso;have k:=Dx9 hu hne;rw [h1] at hw;rcases Bc.1 hw with hw|hw
    ·exact hne (h3 w hw).symm
    ·exact to_N.asym k (hgl w hw)
  have hcut:decide (Ds x.name cut≠[])=Xb z x.name:=by
   rw [Ct,decide_eq_true_eq];unfold Xb Ds;rw [Ck];constructor
   ·intro k;have c0:cut≠[]:=fun e=>by rw [e] at k;simp at k
    have c1:under x.name cut=true:=by
     rcases Aq (under x.name cut) with q|q
     ·exact q
     ·rw [if_pos ⟨c0,q⟩] at k;exact absurd rfl k
    obtain ⟨w,w1,w2,w3⟩:=hI.cut1 c0;refine ⟨w,by rw [hz];exact B3 _ w1,?_⟩;have:w.name≠x.name:=fun e=>to_N.irr _ (by have:=hlt w w1 x (.head _);rw [e] at this;exact this);rw [w2,w3];rw [w3] at this;simp [this,c1]
   ·rintro ⟨w,w1,w2⟩;simp only [Av,decide_eq_true_eq] at w2;have wd:=habove w w1 w2.2 (fun e=>w2.1.2 e.symm);obtain ⟨c0,c1⟩:=hI.cut2 x (.head _) w wd w2.1.1 w2.2;rw [if_neg (by simp [c1])];exact c0
  have hred:decide (Ds x.name red≠[])=Fm4 z x.name:=by
   rw [Ct,decide_eq_true_eq];unfold Fm4 Ds D4;rw [Ck];constructor
   ·intro k;have c0:red≠[]:=fun e=>by rw [e] at k;simp at k
    have c1:under x.name red=true:=by
     rcases Aq (under x.name red) with q|q
     ·exact q
     ·rw [if_pos ⟨c0,q⟩] at k;exact absurd rfl k
    obtain ⟨w,w1,w2,w3⟩:=hI.red1 c0;refine ⟨w,by rw [hz];exact B3 _ w1,?_⟩;have:x.name≠w.name:=fun e=>to_N.irr _ (by have:=hlt w w1 x (.head _);rw [e] at this;exact this);rw [w3] at this ⊢;simp [this,c1,w2]
   ·rintro ⟨w,w1,w2⟩;simp only [Av,decide_eq_true_eq] at w2;have wd:=habove w w1 w2.2.2 w2.2.1;obtain ⟨c0,c1⟩:=hI.red2 x (.head _) w wd w2.1 w2.2.2;rw [if_neg (by simp [c1])];exact c0
  have hex:(∃w∈x::r,w.name=z.origin)↔(x.name=z.origin∨∃w∈l',w.name=z.origin):=by
   rw [h1];constructor
   ·rintro ⟨w,w1,w2⟩;rcases Bc.1 w1 with w1|w1
    ·exact .inl (by rw [←h3 w w1];exact w2)
    ·exact .inr ⟨w,w1,w2⟩
   ·rintro (k|⟨w,w1,w2⟩)
    ·obtain ⟨w,hw⟩:=Fh g h2;exact ⟨w,B3 _ hw,by rw [h3 w hw];exact k⟩
    ·exact ⟨w,Br _ w1,w2⟩
  rw [h5,hex];simp only [j9,hnm,Am,forall_eq_or_imp];have hp0:Z0 z g=propG z.origin g (Xb z x.name) (Fm4 z x.name):=by unfold Z0;rw [hnm]
  rw [hp0];rw [hcut,hred];by_cases hp:propG z.origin g (Xb z x.name) (Fm4 z x.name)=true
  ·rw [if_pos hp];obtain ⟨pu,pr⟩:=g8 hp;rw [hnm] at pu;have hlen:=congrArg List.length h1;have hg0:0<g.length:=Bd.2 h2;simp only [Ab,A0] at hlen hn;have hmid:∀m∈l',∀w∈done,under m.name w.name=true→under x.name w.name=true:=fun m hm w hw hu=>
    Ag4 hvx hu (fun k=>to_N.asym (hlt w hw x (.head _)) k) (fun k=>to_N.asym (hgl m hm) k)
   have hredE:Ds x.name red=[]:=by have:=hred;rw [pr] at this;simpa using this
   have ih:=uq z hv hs n (done++g) l' (if Ds x.name cut=[]∧x.name≠z.origin∧F5 g 2=true then x.name else Ds x.name cut) (if F5 g 39=true then x.name else Ds x.name red) (soa||decide (x.name=z.origin)) (by omega) (by rw [hz,h1,As])
    (fun a ha b hb=>by
     rcases Bc.1 ha with ha|ha
     ·exact hlt a ha b (hmem' b hb)
     ·rw [h3 a ha];exact hgl b hb)
    ⟨?_,?_,?_,?_⟩
   ·rw [ih];simp only [Ap,decide_eq_true_eq,hp,true_and];constructor
    ·rintro ⟨k1,(k2|k2)|k2⟩
     ·exact ⟨k1, .inl k2⟩
     ·exact ⟨k1, .inr (.inl k2)⟩
     ·exact ⟨k1, .inr (.inr k2)⟩
    ·rintro ⟨k1,k2|k2|k2⟩
     ·exact ⟨k1, .inl (.inl k2)⟩
     ·exact ⟨k1, .inl (.inr k2)⟩
     ·exact ⟨k1, .inr k2⟩
   ·-- the cut is one
    intro k;by_cases c:Ds x.name cut=[]∧x.name≠z.origin∧F5 g 2=true
    ·rw [if_pos c];obtain ⟨w,w1,w2⟩:=Ck.1 c.2.2;simp only [decide_eq_true_eq] at w2;refine ⟨w,Br _ w1,?_,h3 w w1⟩;unfold Dp D4;rw [h3 w w1];simp [w2,pu,c.2.1]
    ·rw [if_neg c] at k ⊢;have c0:cut≠[]:=fun e=>by rw [e] at k;simp [Ds] at k
     have c1:Ds x.name cut=cut:=by
      unfold Ds at k ⊢;by_cases q:cut≠[]∧under x.name cut=false
      ·rw [if_pos q] at k;exact absurd rfl k
      ·rw [if_neg q]
     rw [c1];obtain ⟨w,w1,w2⟩:=hI.cut1 c0;exact ⟨w,B3 _ w1,w2⟩
   ·intro m hm w hw hc hu;rcases Bc.1 hw with hw|hw
    ·have hxu:=hmid m hm w hw hu;obtain ⟨c0,c1⟩:=hI.cut2 x (.head _) w hw hc hxu;obtain ⟨_,c2⟩:=hI.cut2 m (hmem' m hm) w hw hc hu;have c3:Ds x.name cut=cut:=by unfold Ds;rw [if_neg (by simp [c1])]
     rw [c3,if_neg (by simp [c0])];exact ⟨c0,c2⟩
    ·rw [h3 w hw] at hu;have hc':=hc;unfold Dp D4 at hc';rw [h3 w hw] at hc';simp only [Av,decide_eq_true_eq] at hc';have hns:F5 g 2=true:=Ck.2 ⟨w,hw,by simp [hc'.1]⟩;by_cases c:Ds x.name cut=[]
     ·rw [if_pos ⟨c,hc'.2.1,hns⟩];exact ⟨fz hvx,hu⟩
     ·rw [if_neg (by simp [c])];have q:¬(cut≠[]∧under x.name cut=false):=fun q=>c (by unfold Ds;rw [if_pos q]);have c1:Ds x.name cut=cut:=by unfold Ds;rw [if_neg q]
      rw [c1] at c ⊢;have c2:under x.name cut=true:=by
       rcases Aq (under x.name cut) with k|k
       ·exact k
       ·exact absurd ⟨c,k⟩ q
      exact ⟨c,Ad0 hu c2⟩
   ·intro k;rw [hredE] at k ⊢;by_cases c:F5 g 39=true
    ·rw [if_pos c];obtain ⟨w,w1,w2⟩:=Ck.1 c;simp only [decide_eq_true_eq] at w2;exact ⟨w,Br _ w1,w2,h3 w w1⟩
    ·rw [if_neg c] at k;exact absurd rfl k
   ·intro m hm w hw hc hu;rcases Bc.1 hw with hw|hw
    ·exfalso;have hxu:=hmid m hm w hw hu;obtain ⟨c0,c1⟩:=hI.red2 x (.head _) w hw hc hxu;have:Ds x.name red=red:=by unfold Ds;rw [if_neg (by simp [c1])]
     rw [this] at hredE;exact c0 hredE
    ·rw [h3 w hw] at hu;have hd:F5 g 39=true:=Ck.2 ⟨w,hw,by simp [hc]⟩;rw [if_pos hd];exact ⟨fz hvx,hu⟩
  ·rw [if_neg hp];simp [hp]
end Go.X.G
/- Zones by the names of their records: the program's conditions are the reference's. -/
namespace Go.X.G
open Go Go.X
theorem Am6 {l:List Rec} (h:l.Pairwise ltR):Hq2 l:=h.imp fun {a b} k=>by
 rcases k with k|⟨k,_⟩
 ·exact to_N.asym k
 ·have k':a.name=b.name:=k;rw [k'];exact to_N.irr _
theorem Bg2:∀(n:Nat) (l:List Rec),l.length≤n→Hq2 l→(∀g∈grp l,g≠[]∧g=l.filter fun r=>decide (r.name=nmG g))∧∀r∈l,∃g∈grp l,nmG g=r.name∧r∈g
 |_,[],_,_=>by simp [grp,T4]
 |0,x::r,hn,_=>by simp at hn
 |n+1,x::r,hn,hs=>by
  obtain ⟨g,l',h1,h2,h3,h4,h5⟩:=Qp x r;have hnm:nmG g=x.name:=Ez1 h2 h3;have hs2:Hq2 (g++l'):=by rw [←h1];exact hs
  have hs3:=Fj.1 hs2;have hgl:∀b∈l',ltN x.name b.name:=by
   cases l' with
   |nil=>intro b hb;cases hb
   |cons y l''=>
    have hy:ltN x.name y.name:=by
     obtain ⟨w,hw⟩:=Fh g h2;have k:=hs3.2.2 w hw y (.head _);rw [h3 w hw] at k;rcases to_N.tri x.name y.name with q|q|q
     ·exact q
     ·exact absurd q.symm (h4 y rfl)
     ·exact absurd q k
    intro b hb;rcases Am.1 hb with rfl|hb
    ·exact hy
    ·have k:=(A3.1 hs3.2.1).1 b hb;rcases to_N.tri y.name b.name with q|q|q
     ·exact to_N.tr _ _ _ hy q
     ·rw [←q];exact hy
     ·exact absurd q k
  have hlen:=congrArg List.length h1;have hg0:0<g.length:=Bd.2 h2;simp only [Ab,A0] at hlen hn;obtain ⟨i1,i2⟩:=Bg2 n l' (by omega) hs3.2.1;rw [h5];refine ⟨fun g' hg'=> ?_,fun w hw=> ?_⟩
  ·rcases Am.1 hg' with rfl|hg'
   ·refine ⟨h2,?_⟩;rw [hnm,h1,Dq];have e1:(g'.filter fun r=>decide (r.name=x.name))=g':=List.filter_eq_self.2 fun y hy=>by simp [h3 y hy]
    have e2:(l'.filter fun r=>decide (r.name=x.name))=[]:=Ed.2 fun y hy=>by have:=hgl y hy;intro k;simp only [decide_eq_true_eq] at k;rw [k] at this;exact to_N.irr _ this
    rw [e1,e2,Dd]
   ·obtain ⟨j1,j2⟩:=i1 g' hg';refine ⟨j1,?_⟩;rw [h1,Dq];have e1:(g.filter fun r=>decide (r.name=nmG g'))=[]:=Ed.2 fun y hy=>by intro k;simp only [decide_eq_true_eq] at k;obtain ⟨w,hw⟩:=Fh g' j1;have hw2:=hw;rw [j2] at hw2;obtain ⟨q1,q2⟩:=Bh.1 hw2;simp only [decide_eq_true_eq] at q2;have:=hgl w q1;rw [q2,←k,h3 y hy] at this;exact to_N.irr _ this
    rw [e1,Cq];exact j2
  ·rw [h1] at hw;rcases Bc.1 hw with hw|hw
   ·exact ⟨g, .head _,by rw [hnm,h3 w hw],hw⟩
   ·obtain ⟨g',q1,q2⟩:=i2 w hw;exact ⟨g', .tail _ q1,q2⟩
theorem Hf7 (l:List Rec) (n:List UInt8) (t:Int):F5 (l.filter fun r=>decide (r.name=n)) t=T3 l n t:=by
 rw [Ct];unfold F5 T3 findR;rw [Ck,decide_eq_true_eq,List.length_pos_iff_exists_mem];constructor
 ·rintro ⟨x,h1,h2⟩;obtain ⟨h3,h4⟩:=Bh.1 h1;exact ⟨x,Bh.2 ⟨h3,by unfold isK;rw [h4,h2];rfl⟩⟩
 ·rintro ⟨x,h1⟩;obtain ⟨h3,h4⟩:=Bh.1 h1;unfold isK at h4;rw [Av] at h4;exact ⟨x,Bh.2 ⟨h3,h4.1⟩,h4.2⟩
theorem Ds7 (l:List Rec) (n:List UInt8) (t:Int):T3 l n t=true↔∃r∈l,r.name=n∧r.typ=t:=by
 unfold T3 findR;rw [decide_eq_true_eq,List.length_pos_iff_exists_mem];constructor
 ·rintro ⟨x,h1⟩;obtain ⟨h3,h4⟩:=Bh.1 h1;unfold isK at h4;simp only [Av,decide_eq_true_eq] at h4;exact ⟨x,h3,h4⟩
 ·rintro ⟨x,h1,h2,h3⟩;exact ⟨x,Bh.2 ⟨h1,by unfold isK;simp [h2,h3]⟩⟩
abbrev sng (t:Int):Prop:=t=6∨t=5∨t=39
def two (x y:Rec):Prop:=x.typ=y.typ→(x≠y→¬sng x.typ)∧(x.typ≠46→x.ttl=y.ttl)
theorem Dy0 {x y:Rec} (h:two x y):two y x:=fun e=>by obtain ⟨h1,h2⟩:=h e.symm;exact ⟨fun k=>by rw [e];exact h1 k.symm,fun k=>(h2 (by rw [←e];exact k)).symm⟩
theorem Dy1 (x:Rec):two x x:=fun _=>⟨fun k=>absurd rfl k,fun _=>rfl⟩
theorem By9 {a b:Rec} (h:ltR a b) (e:a.name=b.name):a.typ≤b.typ:=by
 rcases h with h|⟨_,h|⟨h,_⟩⟩
 ·have h':ltN a.name b.name:=h;rw [e] at h';exact absurd h' (to_N.irr _)
 ·have h':a.typ<b.typ:=h;omega
 ·have h':a.typ=b.typ:=h;omega
theorem Bz0 {a b:Rec} (h:ltR a b):a≠b:=fun e=>by rw [e] at h;exact to_K.irr _ h
theorem nr:∀(r:List Rec) (p:Rec),(p::r).Pairwise ltR→(∀x∈r,x.name=p.name)→(Uq p r=true↔(p::r).Pairwise two)
 |[],p,_,_=>by simp [Uq]
 |x::r,p,hs,hn=>by
  obtain ⟨h1,h2⟩:=A3.1 hs;obtain ⟨h3,h4⟩:=A3.1 h2;have hx:=hn x (.head _);have ih:=nr r x h2 (fun y hy=>by rw [hn y (.tail _ hy),hx]);have hpx:(!decide (x.typ=p.typ)||(!(decide (x.typ=6)||decide (x.typ=5)||decide (x.typ=39)) && (decide (x.typ=46)||decide (x.ttl=p.ttl))))=true↔two p x:=by
   have hne:p≠x:=Bz0 (h1 x (.head _));unfold two sng;simp only [Ap,Av,A8,decide_eq_false_iff_not,decide_eq_true_eq,Im];constructor
   ·rintro (k|⟨k1,k2⟩) e
    ·exact absurd e.symm k
    ·refine ⟨fun _=>by rw [e];omega,fun k=> ?_⟩;rcases k2 with k2|k2
     ·exact absurd (e.trans k2) k
     ·exact k2.symm
   ·intro h;by_cases e:x.typ=p.typ
    ·obtain ⟨a,b⟩:=h e.symm;have a':=a hne;refine .inr ⟨by rw [e];omega,?_⟩;by_cases k:x.typ=46
     ·exact .inl k
     ·exact .inr (b (by rw [←e];exact k)).symm
    ·exact .inl e
  have step:Uq p (x::r)=true↔two p x∧Uq x r=true:=by simp only [Uq];rw [Av,hpx]
  rw [step,ih,A3 (a:=p)];constructor
  ·rintro ⟨k1,k2⟩;refine ⟨fun y hy=> ?_,k2⟩;rcases Am.1 hy with rfl|hy
   ·exact k1
   ·intro e;have t1:=By9 (h1 x (.head _)) hx.symm;have t2:=By9 (h3 y hy) (by rw [hx,hn y (.tail _ hy)]);have e1:p.typ=x.typ:=by omega
    obtain ⟨a1,a2⟩:=k1 e1;obtain ⟨b1,b2⟩:=(A3.1 k2).1 y hy (by omega);exact ⟨fun _=>a1 (Bz0 (h1 x (.head _))),fun k=>by rw [a2 k];exact b2 (by omega)⟩
  ·rintro ⟨k1,k2⟩;exact ⟨k1 x (.head _),k2⟩
theorem Dx8 {g:List Rec} {n:List UInt8} (hs:g.Pairwise ltR) (hn:∀x∈g,x.name=n):Dv2 g=true↔∀x∈g,∀y∈g,two x y:=by
 have:Dv2 g=true↔g.Pairwise two:=by
  cases g with
  |nil=>simp [Dv2]
  |cons p r=>exact nr r p hs fun x hx=>by rw [hn x (.tail _ hx),hn p (.head _)]
 rw [this];constructor
 ·intro h x hx y hy;obtain ⟨i,hi⟩:=Db hx;obtain ⟨j,hj⟩:=Db hy;obtain ⟨i1,i2⟩:=Aw.1 hi;obtain ⟨j1,j2⟩:=Aw.1 hj;rcases Nat.lt_trichotomy i j with k|k|k
  ·have:=Mf.1 h i j i1 j1 k;rw [i2,j2] at this;exact this
  ·subst k;rw [←i2,←j2];exact Dy1 _
  ·have:=Mf.1 h j i j1 i1 k;rw [i2,j2] at this;exact Dy0 this
 ·intro h;rw [Mf];intro i j hi hj _;exact h _ (Dt hi) _ (Dt hj)
theorem P7 (r x:Rec):Iy r x=true↔(x.name=r.name→two r x∧(r.typ=5→x.typ=5∨x.typ=46∨x.typ=47)):=by
 unfold Iy two sng;by_cases h:x.name=r.name
 ·simp only [h,decide_true,Kv,Kw,true_implies,Av,A8,Hg,decide_eq_false_iff_not,Im,ne_eq,I7];by_cases e:x.typ=r.typ
  ·have e':r.typ=x.typ:=e.symm;simp only [e,not_true_eq_false,false_or,true_implies];constructor
   ·rintro ⟨⟨h1,h2⟩,h3⟩;refine ⟨⟨fun k q=> ?_,fun k=> ?_⟩,fun k=>by omega⟩
    ·rcases h2 with h2|h2
     ·omega
     ·exact k h2.symm
    ·rcases h1 with h1|h1
     ·exact absurd h1 k
     ·exact h1.symm
   ·rintro ⟨⟨h1,h2⟩,h3⟩;refine ⟨⟨?_,?_⟩,by omega⟩
    ·by_cases k:r.typ=46
     ·exact .inl k
     ·exact .inr (h2 k).symm
    ·by_cases k:r=x
     ·exact .inr k.symm
     ·have:=h1 k;left;omega
  ·have e':¬r.typ=x.typ:=fun q=>e q.symm;simp only [e,e',not_false_eq_true,true_or,true_and,false_implies];omega
 ·simp [h]
set_option maxHeartbeats 1000000 in
theorem An9 (z:Zone) (hv:∀r∈z.recs,Iz r=true) (hr:z.recs.Pairwise ltR):
  ((∀g∈grp z.recs,Z0 z g=true)∧∃r∈z.recs,r.name=z.origin)↔((findR z.recs z.origin 6).length=1∧T3 z.recs z.origin 2=true∧∀r∈z.recs,H4 z r=true):=by
 obtain ⟨ga,gb⟩:=Bg2 z.recs.length z.recs (Af _) (Am6 hr);have gm:∀g∈grp z.recs,∀x,x∈g↔x∈z.recs∧x.name=nmG g:=fun g hg x=>by
  have:=(ga g hg).2;constructor
  ·intro h;rw [this] at h;obtain ⟨a,b⟩:=Bh.1 h;exact ⟨a,by simpa using b⟩
  ·rintro ⟨a,b⟩;rw [this];exact Bh.2 ⟨a,by simpa using b⟩
 have gh:∀g∈grp z.recs,∀t,F5 g t=T3 z.recs (nmG g) t:=fun g hg t=>by have:=Hf7 z.recs (nmG g) t;rwa [←(ga g hg).2] at this
 have gu:∀g∈grp z.recs,(Dv2 g=true↔∀x∈g,∀y∈g,two x y):=fun g hg=>by refine Dx8 (n:=nmG g) ?_ fun x hx=>((gm g hg x).1 hx).2;rw [(ga g hg).2];exact hr.filter _
 have hstar:∀r∈z.recs,(r.name[0]? =some 42↔(lbl r.name)[0]? =some [42]):=fun r h=>O2 (Y4 (hv r h));constructor
 ·rintro ⟨hp,r0,hr0,hr0n⟩;have hpg:∀r∈z.recs,∃g∈grp z.recs,nmG g=r.name∧r∈g∧Z0 z g=true:=fun r h=>by obtain ⟨g,h1,h2,h3⟩:=gb r h;exact ⟨g,h1,h2,h3,hp g h1⟩
  obtain ⟨g0,k1,k2,k3,k4⟩:=hpg r0 hr0;rw [hr0n] at k2;have k5:=k4;unfold Z0 propG at k5;simp only [k2,Av,decide_eq_true_eq,decide_true,Kv,Kw] at k5;have s6:T3 z.recs z.origin 6=true:=by rw [←k2,←gh g0 k1,k5.1.1.1.1.1.1.1.2]
  have s2:T3 z.recs z.origin 2=true:=by rw [←k2,←gh g0 k1,k5.1.1.1.1.1.2]
  refine ⟨?_,s2,fun r h=> ?_⟩
  ·-- one SOA record
   have hpos:0<(findR z.recs z.origin 6).length:=by unfold T3 at s6;simpa using s6
   have hpw:(findR z.recs z.origin 6).Pairwise ltR:=hr.filter _;have hmm:∀x∈findR z.recs z.origin 6,x∈g0∧x.typ=6:=fun x hx=>by obtain ⟨a,b⟩:=Bh.1 hx;unfold isK at b;simp only [Av,decide_eq_true_eq] at b;exact ⟨(gm g0 k1 x).2 ⟨a,by rw [b.1,k2]⟩,b.2⟩
   have hu:=(gu g0 k1).1 k5.1.1.1.1.1.1.2;generalize findR z.recs z.origin 6=l at*
   match l,hpos,hpw,hmm with
   |[a],_,_,_=>rfl
   |a::b::r,_,hpw,hmm=>
    exfalso;have hab:=(A3.1 hpw).1 b (.head _);obtain ⟨a1,a2⟩:=hmm a (.head _);obtain ⟨b1,b2⟩:=hmm b (.tail _ (.head _));exact ((hu a a1 b b1 (by rw [a2,b2])).1 (Bz0 hab)) (.inl a2)
  ·obtain ⟨g,h1,h2,h3,h4⟩:=hpg r h;unfold Z0 propG at h4;rw [h2] at h4;simp only [Av,decide_eq_true_eq,Ap,A8,decide_eq_false_iff_not,Hg] at h4;obtain ⟨⟨⟨⟨⟨⟨⟨⟨p1,p2⟩,p3⟩,p4⟩,p5⟩,p6⟩,p7⟩,p8⟩,p9⟩:=h4;have hu:=(gu g h1).1 p3;have hon:∀ts,I2 g ts=true→r.typ∈ts:=fun ts k=>by have:=Bw.1 k r h3;simpa using this
   have has:∀t,r.typ=t→F5 g t=true:=fun t e=>Ck.2 ⟨r,h3,by simp [e]⟩;unfold H4;simp only [Av,A8,Hg,decide_eq_false_iff_not,ne_eq,I7];refine ⟨⟨⟨p1,?_⟩,?_⟩,?_⟩
   ·by_cases e:r.typ=6
    ·right;rw [has 6 e] at p2;simpa using p2.symm
    ·exact .inl e
   ·unfold Px;rw [Bw];intro x hx;rw [P7];intro e;have hxg:x∈g:=(gm g h1 x).2 ⟨hx,by rw [h2,e]⟩;refine ⟨hu r h3 x hxg,fun e5=> ?_⟩;rcases p5 with p5|p5
    ·rw [has 5 e5] at p5;cases p5
    ·have:=Bw.1 p5 x hxg;simpa using this
   ·unfold K4;have h9:¬((lbl r.name)[0]? =some [42]∧(r.typ=2∨r.typ=39)):=by
     rintro ⟨e1,e2⟩;rcases p9 with p9|⟨q1,q2⟩
     ·exact p9 ((hstar r h).2 e1)
     ·rcases e2 with e2|e2
      ·rw [has 2 e2] at q1;cases q1
      ·rw [has 39 e2] at q2;cases q2
    rw [if_neg h9,Av];refine ⟨Bw.2 fun x hx=> ?_,?_⟩
    ·unfold Nh;simp only [Av,A8,Hg,decide_eq_false_iff_not,ne_eq,I7];constructor
     ·by_cases e:x.typ=39
      ·right;rcases Aq (D4 r.name x.name) with q|q
       ·have:Fm4 z r.name=true:=Ck.2 ⟨x,hx,by simp [e,q]⟩;rw [this] at p6;cases p6
       ·exact q
      ·exact .inl e
     ·by_cases e:x.typ=2∧D4 x.name z.origin=true∧D4 r.name x.name=true
      ·have q:=e.2.2;unfold D4 at q;simp only [Av,decide_eq_true_eq] at q;have:Xb z r.name=true:=Ck.2 ⟨x,hx,by unfold Dp;simp [e.1,e.2.1,q.2];exact fun k=>q.1 k.symm⟩;rcases p7 with p7|p7
       ·rw [this] at p7;cases p7
       ·have:=hon _ p7;simp at this;rcases this with this|this
        ·exact .inl (.inr this)
        ·exact .inr this
      ·by_cases e1:x.typ=2
       ·by_cases e2:D4 x.name z.origin=true
        ·have e3:D4 r.name x.name=false:=by
          rcases Aq (D4 r.name x.name) with q|q
          ·exact absurd ⟨e1,e2,q⟩ e
          ·exact q
         exact .inl (.inl (.inr e3))
        ·exact .inl (.inl (.inl (.inr (by simpa using e2))))
       ·exact .inl (.inl (.inl (.inl e1)))
    ·have hb:D4 r.name z.origin= !decide (r.name=z.origin):=by unfold D4;rw [p1];simp
     rw [hb,←h2,←gh g h1 2,h2];by_cases c:¬r.name=z.origin∧F5 g 2=true
     ·have cb:(!decide (r.name=z.origin) && F5 g 2)=true:=by simp [c]
      rw [if_pos c] at p8;rw [if_pos cb];have:=hon _ p8;unfold Rt;simp at this ⊢;omega
     ·have cb:¬(!decide (r.name=z.origin) && F5 g 2)=true:=by simpa using c
      rw [if_neg c] at p8;rw [if_neg cb];simp only [A8] at p8;rw [decide_eq_true_eq];intro e;rw [has 43 e] at p8;cases p8
 ·rintro ⟨h1,h2,h3⟩;have hrr:∃r∈z.recs,r.name=z.origin:=by obtain ⟨r,k1,k2,_⟩:=(Ds7 _ _ _).1 h2;exact ⟨r,k1,k2⟩
  refine ⟨fun g hg=> ?_,hrr⟩;obtain ⟨r,hrg⟩:=Fh g (ga g hg).1;obtain ⟨hrz,hrn⟩:=(gm g hg r).1 hrg;have hrec:∀x∈g,under x.name z.origin=true∧(x.typ=6→x.name=z.origin)∧(∀y∈g,two x y∧(x.typ=5→y.typ=5∨y.typ=46∨y.typ=47))∧K4 z x=true:=fun x hx=>by
   obtain ⟨a,b⟩:=(gm g hg x).1 hx;have k:=h3 x a;unfold H4 at k;simp only [Av,A8,Hg,decide_eq_false_iff_not,ne_eq,I7] at k;refine ⟨k.1.1.1,fun e=> ?_,fun y hy=> ?_,k.2⟩
   ·rcases k.1.1.2 with q|q
    ·exact absurd e q
    ·exact q
   ·obtain ⟨c,d⟩:=(gm g hg y).1 hy;have q:=k.1.2;unfold Px at q;exact (P7 x y).1 (Bw.1 q y c) (by rw [d,b])
  have hpl:∀x∈g,¬((lbl x.name)[0]? =some [42]∧(x.typ=2∨x.typ=39))∧z.recs.all (Nh z x)=true∧(if D4 x.name z.origin && T3 z.recs x.name 2 then Rt x.typ else decide (x.typ≠43))=true:=fun x hx=>by
   have k:=(hrec x hx).2.2.2;unfold K4 at k;by_cases q:(lbl x.name)[0]? =some [42]∧(x.typ=2∨x.typ=39)
   ·rw [if_pos q] at k;cases k
   ·rw [if_neg q,Av] at k;exact ⟨q,k⟩
  have hnx:∀x∈g,x.name=nmG g:=fun x hx=>((gm g hg x).1 hx).2;unfold Z0 propG;simp only [Av,decide_eq_true_eq,Ap,A8,decide_eq_false_iff_not,Hg];refine ⟨⟨⟨⟨⟨⟨⟨⟨?_,?_⟩,?_⟩,?_⟩,?_⟩,?_⟩,?_⟩,?_⟩,?_⟩
  ·rw [←hrn];exact (hrec r hrg).1
  ·rw [Ct,decide_eq_true_eq];constructor
   ·intro k;obtain ⟨x,x1,x2⟩:=Ck.1 k;rw [←hnx x x1];exact (hrec x x1).2.1 (by simpa using x2)
   ·intro k;rw [gh g hg,k];unfold T3;simp [h1]
  ·exact (gu g hg).2 fun x hx y hy=>((hrec x hx).2.2.1 y hy).1
  ·by_cases e:nmG g=z.origin
   ·right;rw [gh g hg,e];exact h2
   ·exact .inl e
  ·by_cases e:F5 g 5=true
   ·right;obtain ⟨x,x1,x2⟩:=Ck.1 e;refine Bw.2 fun y hy=> ?_;have:=((hrec x x1).2.2.1 y hy).2 (by simpa using x2);simpa using this
   ·exact .inl (by simpa using e)
  ·rcases Aq (Fm4 z (nmG g)) with q|q
   ·exfalso;obtain ⟨w,w1,w2⟩:=Ck.1 q;have k:=Bw.1 (hpl r hrg).2.1 w w1;unfold Nh at k;rw [hrn] at k;rw [w2] at k;simp at k
   ·exact q
  ·rcases Aq (Xb z (nmG g)) with q|q
   ·right;obtain ⟨w,w1,w2⟩:=Ck.1 q;unfold Dp at w2;simp only [Av,decide_eq_true_eq] at w2;refine Bw.2 fun x hx=> ?_;have k:=Bw.1 (hpl x hx).2.1 w w1;unfold Nh at k;have hb:D4 x.name w.name=true:=by unfold D4;rw [hnx x hx];have:nmG g≠w.name:=fun e=>w2.1.2 e.symm;simp [this,w2.2]
    rw [hb,w2.1.1.2] at k;simp [w2.1.1.1] at k;have k':x.typ=1∨x.typ=28:=by omega
    simpa using k'
   ·exact .inl q
  ·have hbn:D4 (nmG g) z.origin= !decide (nmG g=z.origin):=by unfold D4;rw [←hrn,(hrec r hrg).1];simp
   by_cases c0:¬nmG g=z.origin∧F5 g 2=true
   ·have c:(!decide (nmG g=z.origin) && F5 g 2)=true:=by simp [c0]
    rw [if_pos c0];refine Bw.2 fun x hx=> ?_;have k:=(hpl x hx).2.2;rw [hnx x hx,hbn,←gh g hg,if_pos c] at k;unfold Rt at k;simp at k ⊢;omega
   ·have c:¬(!decide (nmG g=z.origin) && F5 g 2)=true:=by simpa using c0
    rw [if_neg c0];simp only [A8];rcases Aq (F5 g 43) with q|q
    ·exfalso;obtain ⟨x,x1,x2⟩:=Ck.1 q;have k:=(hpl x x1).2.2;rw [hnx x x1,hbn,←gh g hg,if_neg c] at k;simp at x2 k;exact k x2
    ·exact q
  ·by_cases e:(nmG g)[0]? =some 42
   ·right;rw [←hrn] at e;have e2:=(hstar r hrz).1 e;constructor
    ·rcases Aq (F5 g 2) with q|q
     ·exfalso;obtain ⟨x,x1,x2⟩:=Ck.1 q;refine (hpl x x1).1 ⟨by rw [hnx x x1,←hrn];exact e2, .inl (by simpa using x2)⟩
     ·exact q
    ·rcases Aq (F5 g 39) with q|q
     ·exfalso;obtain ⟨x,x1,x2⟩:=Ck.1 q;refine (hpl x x1).1 ⟨by rw [hnx x x1,←hrn];exact e2, .inr (by simpa using x2)⟩
     ·exact q
   ·exact .inl e
end Go.X.G
