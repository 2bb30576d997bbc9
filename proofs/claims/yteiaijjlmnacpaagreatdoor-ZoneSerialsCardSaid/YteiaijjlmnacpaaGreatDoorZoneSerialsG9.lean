/- Names: what the reference's functions give. -/
import Derived.Test.YteiaijjlmnacpaaGreatDoorZoneSerialsG7
import Derived.Test.YteiaijjlmnacpaaGreatDoorZoneSerialsG8
open Bool renaming and_eq_true→Aq,eq_false_or_eq_true→Av,false_eq_true→Ab,or_eq_true→Am,not_eq_true'→A3,eq_iff_iff→Cf,not_eq_false→Dm,and_eq_false_iff→Fg,or_eq_false_iff→H9,not_true→J4,false_or→J5,and_true→J6
open Classical renaming not_not→En
open List renaming getElem?_eq_some_iff→Ak,getElem?_eq_getElem→Ay,length_append→Az,mem_cons→Ah,pairwise_cons→An,append_assoc→Ar,length_cons→As,mem_of_getElem?→A6,all_eq_true→Bj,length_pos_iff→Bw,getElem?_map→By,length_nil→Bc,getD_eq_getElem?_getD→Bf,mem_append_right→Bh,take_append_drop→Bl,mem_filter→Bp,mem_append→Br,length_drop→Bs,cons_append→Bt,any_eq_true→B6,drop_eq_getElem_cons→B9,getElem?_range→Cj,nil_append→Cy,mem_append_left→Cb,getElem?_cons_zero→Cc,mem_map→Cs,take_length→C2,drop_drop→C5,getElem?_of_mem→Dv,getElem_mem→Dh,append_nil→D1,drop_zero→D3,filter_eq_nil_iff→Ev,pairwise_append→E4,mem_range→E5,filter_append→E7,exists_mem_of_ne_nil→Fx,mem_cons_self→F5,flatMap_cons→Gd,suffix_iff_eq_drop→Ic,getLast_eq_getElem→Ig,drop_eq_nil_of_le→Jc,isSuffixOf_iff_suffix→Kx,cons_prefix_cons→K7,pairwise_iff_getElem→L4,append_cancel_right→Nr,length_mergeSort→dy,count_eq_zero→Hb5
open Nat renaming le_refl→Ac,zero_le→C4
open Option renaming map_eq_some_iff→Aw,map_some→A0
set_option maxHeartbeats 1000000
set_option linter.unusedVariables false
set_option linter.unusedSimpArgs false
namespace Go.X.G
open Go Go.X
def Sr (c:UInt8):Bool:=decide (97≤(c.toNat:Int)) && decide ((c.toNat:Int)≤122)||decide (48≤(c.toNat:Int)) && decide ((c.toNat:Int)≤57)||decide ((c.toNat:Int)=45)||decide ((c.toNat:Int)=95)
def Lp (s:List UInt8):Bool:=decide (s=[42])||(decide (1≤s.length) && decide (s.length≤63) && s.all Sr)
end Go.X.G
/- Names: what the reference's functions give. -/
namespace Go.X.G
open Go Go.X
def spl (first:Bool) (cur:List UInt8):List UInt8→Option (List (List UInt8))
 |[]=>some []
 |c::r=>if c=46 then (if Lp cur=true∧(cur=[42]→first=true) then (spl false [] r).map (cur::·) else none) else spl first (cur++[c]) r
def nm (n:List UInt8):Option (List (List UInt8)):=
 if n=[46] then some [] else if 2≤n.length∧n.length≤254∧n[n.length - 1]? =some 46 then spl true [] n else none
def lbl (n:List UInt8):List (List UInt8):=(nm n).getD []
def vld (n:List UInt8):Bool:=(nm n).isSome
end Go.X.G
/- Names: what the reference's functions give, ctd. -/
namespace Go.X.G
open Go Go.X
theorem ew:∀(r:List UInt8) (f:Bool) (cur:List UInt8) (l:List (List UInt8)),spl f cur r=some l→l.length≤r.length
 |[],f,cur,l,h=>by simp [spl] at h;simp [←h]
 |c::r,f,cur,l,h=>by
  simp only [spl] at h
  split at h
  ·split at h
   ·obtain ⟨m,hm,rfl⟩:=Aw.1 h
    have:=ew r _ _ _ hm
    simp;omega
   ·cases h
  ·have:=ew r _ _ _ h
   simp;omega
theorem Gl0 {n:List UInt8} {l:List (List UInt8)} (h:nm n=some l):l.length≤254:=by
 unfold nm at h
 split at h
 ·injection h with h;subst h;simp
 ·split at h
  ·rename_i h2
   have:=ew _ _ _ _ h;omega
  ·cases h
theorem Mz (n:List UInt8):(lbl n).length≤254:=by
 unfold lbl
 cases h:nm n with
 |none=>simp
 |some l=>exact Gl0 h
def ig {α:Type} [DecidableEq α]:List α→List α→Nat
 |x::xs,y::ys=>if x=y then ig xs ys+1 else 0
 |_,_=>0
def ep (a b:List (List UInt8)):Nat:=ig a.reverse b.reverse
def under (n top:List UInt8):Bool:=vld n && vld top && decide (ep (lbl n) (lbl top)=(lbl top).length)
def cmpS (a b:List UInt8):Int:=if Op.bytesLess a b then -1 else if a=b then 0 else 1
def I2 (a b:List UInt8):Int:=
 if vld a && vld b then
  let k:=ep (lbl a) (lbl b)
  if k<(lbl a).length∧k<(lbl b).length then cmpS ((lbl a).getD ((lbl a).length - 1 - k) []) ((lbl b).getD ((lbl b).length - 1 - k) [])
  else if (lbl a).length<(lbl b).length then -1 else if (lbl b).length<(lbl a).length then 1 else 0
 else if vld a then -1 else if vld b then 1 else cmpS a b
end Go.X.G
/- The library's functions on strings. -/
namespace Go.X.G
open Go Go.X
theorem Ff5 (x:List UInt8) (c:UInt8):S o4 2 [.s x, .i .u8 (c.toNat:Int)]=some [.i .i64 (x.count c:Int)]:=
 Gz2 (args:=[.s x, .i .u8 (c.toNat:Int)]) (by simp [XK.run,wb,Lib.countByte])
theorem Fz2 (x:List UInt8) (c:UInt8):S o8 2 [.s x, .i .u8 (c.toNat:Int)]=some [.i .i64 (Lib.indexByte x c)]:=
 Gb8 (args:=[.s x, .i .u8 (c.toNat:Int)]) (by simp [XK.run,wb])
theorem Ff7 (x y:List UInt8):S o7 2 [.s x, .s y]=some [.i .i64 (Lib.compareBytes x y)]:=
 Gz9 (args:=[.s x, .s y]) (by simp [XK.run,Dq2])
theorem Nl (x:List UInt8) (c:UInt8):S T2 2 [.s x, .i .u8 (c.toNat:Int)]=some [.i .i64 (Lib.indexByte x c)]:=by
 refine Gd4 (N:=1) rfl ?_
 simp (disch:=omega) only [Gk8,Fz2,xe,EVP,EV,simprocAttr]
theorem cr (x:List UInt8) (c:UInt8):S As1 2 [.s x, .i .u8 (c.toNat:Int)]=some [.i .i64 (Lib.indexByte x c)]:=by
 refine Hm1 (N:=1) rfl ?_
 simp (disch:=omega) only [Hc2,Nl,xe,EVP,EV,simprocAttr]
theorem L2 (c:UInt8):∀(x:List UInt8),c∉x→Lib.indexByte x c= -1
 |[],_=>rfl
 |b::l,h=>by
  have h1:b≠c:=fun e=>h (by simp [e])
  have h2:=L2 c l (fun e=>h (by simp [e]))
  simp [Lib.indexByte,h1,h2]
theorem I9 (c:UInt8) (post:List UInt8):∀(pre:List UInt8),c∉pre→Lib.indexByte (pre++c::post) c=(pre.length:Int)
 |[],_=>by simp [Lib.indexByte]
 |b::l,h=>by
  have h1:b≠c:=fun e=>h (by simp [e])
  have h2:=I9 c post l (fun e=>h (by simp [e]))
  simp only [Bt,Lib.indexByte,h2]
  simp [h1]
  try omega
theorem dot_split (c:UInt8):∀(s:List UInt8),c∉s∨∃pre post,s=pre++c::post∧c∉pre
 |[]=> .inl (by simp)
 |b::l=>by
  by_cases h:b=c
  ·exact .inr ⟨[],l,by simp [h],by simp⟩
  ·rcases dot_split c l with h1|⟨pre,post,rfl,h2⟩
   ·exact .inl (by simp [h1,Ne.symm h])
   ·exact .inr ⟨b::pre,post,by simp,by simp [h2,Ne.symm h]⟩
def pcs (cur:List UInt8):List UInt8→List (List UInt8)
 |[]=>[cur]
 |c::r=>if c=46 then cur::pcs [] r else pcs (cur++[c]) r
def cut (s:List UInt8):List (List UInt8):=pcs [] s
theorem Ap9 (post:List UInt8):∀(pre cur:List UInt8),(46:UInt8)∉pre→pcs cur (pre++46::post)=(cur++pre)::pcs [] post
 |[],cur,_=>by simp [pcs]
 |b::l,cur,h=>by
  have h1:b≠46:=fun e=>h (by simp [e])
  have h2:=Ap9 post l (cur++[b]) (fun e=>h (by simp [e]))
  simp [pcs,h1,h2]
theorem Vl:∀(s cur:List UInt8),(46:UInt8)∉s→pcs cur s=[cur++s]
 |[],cur,_=>by simp [pcs]
 |b::l,cur,h=>by
  have h1:b≠46:=fun e=>h (by simp [e])
  have h2:=Vl l (cur++[b]) (fun e=>h (by simp [e]))
  simp [pcs,h1,h2]
theorem Bb5 (s:List UInt8):(cut s).length=s.count 46+1:=by
 have:∀(s cur:List UInt8),(pcs cur s).length=s.count 46+1:=by
  intro s
  induction s with
  |nil=>intro cur;rfl
  |cons c r ih=>
   intro cur
   by_cases h:c=46<;>simp [pcs,h,ih]
 exact this s []
theorem Aq9 (s:List UInt8) (hs:s.length≤9223372036854775807):S Zz 2 [.s s, .s [46]]=some [.i .i64 (Lib.indexByte s 46)]:=by
 refine Gz1 (N:=1) rfl ?_
 have h1:=Nl s 46
 have e:(((46:UInt8).toNat:Nat):Int)=46:=rfl
 rw [e] at h1
 by_cases h:[46]=s
 ·subst h
  simp (disch:=omega) only [Dh3,xe,EVP,EV,simprocAttr]
  rfl
 ·simp (disch:=omega) only [Dh3,h,h1,e,xe,EVP,EV,simprocAttr]
theorem cp (s:List UInt8) (hs:s.length≤9223372036854775807):S Tl 2 [.s s, .s [46]]=some [.i .i64 (Lib.indexByte s 46)]:=by
 refine Gb3 (N:=1) rfl ?_
 simp (disch:=omega) only [Gj9,Aq9,xe,EVP,EV,simprocAttr]
theorem Ch1 (s:List UInt8):S Zl 2 [.s s, .s [46]]=some [.i .i64 (s.count 46:Int)]:=by
 refine Gb4 (N:=1) rfl ?_
 have h1:=Ff5 s 46
 have e:(((46:UInt8).toNat:Nat):Int)=46:=rfl
 rw [e] at h1
 simp (disch:=omega) only [Gk0,h1,e,xe,EVP,EV,simprocAttr]
def By1 (done rest:List (List UInt8)):Out:=
 .yld 0 [.s ((done++rest).getLastD []),Bd ((done++rest).dropLast++[[]]), .i .i64 (((done++rest).length:Int) - 1)]
theorem g8 (s:List UInt8) (N:Nat) (hN:s.length<N) (hs:s.length≤1000000) (p q:PV):
  gz.ev S N [.s s, .s [46], .i .i64 0,p, .i .i64 ((s.count 46:Int)+1)]=some (By1 [] (cut s)):=by
 have hc0:s.count 46≤s.length:=List.count_le_length
 have key:=M8 (fn:=S) (N:=N) (η:=[.s s, .s [46], .i .i64 0,p, .i .i64 ((s.count 46:Int)+1)]) (id:=1) (init:=[(.v 0),(.rep 1 (.mn (.v 4) (.bin .add (.slen (.v 0)) (.c (.i .i64 (1))))) (.c (.s []))),(.c (.i .i64 (0)))]) (body:=kq) (α:=List (List UInt8)×List UInt8)
  (fun a=>[.s a.2,Bd (a.1++List.replicate (a.2.count 46+1) []), .i .i64 (a.1.length:Int)]) (fun a=>By1 a.1 (cut a.2)) (fun a=>a.1.length+a.2.count 46=s.count 46∧a.2.length≤s.length) (fun a=>a.2.length) ([],s) ?_ ⟨by simp,Ac _⟩ hN ?_
 ·simpa [gz] using key
 ·have e:((s.count 46:Int)+1).toNat=s.count 46+1:=by omega
  simp (disch:=omega) only [e,xe,EVP,EV,simprocAttr]
 ·rintro ⟨done,rest⟩ ⟨h1,h2⟩
  simp only at h1 h2 ⊢
  rcases dot_split 46 rest with h|⟨pre,post,rfl,h⟩
  ·right
   have c0:rest.count 46=0:=Hb5.2 h
   have i0:=L2 46 rest h
   have cu:cut rest=[rest]:=by simpa [cut] using Vl rest [] h
   refine ⟨?_,rfl⟩
   rw [c0]
   rw [c0] at h1
   simp (disch:=omega) only [Ax9,cp,i0,xe,EVP,EV,simprocAttr]
   simp [By1,cu,List.getLastD_eq_getLast?]
  ·left
   have c0:(pre++46::post).count 46=post.count 46+1:=by
    rw [List.count_append,Hb5.2 h];simp
   have i0:=I9 46 post pre h
   have cu:cut (pre++46::post)=pre::cut post:=by simpa [cut] using Ap9 post pre [] h
   have hl:(pre++46::post).length=pre.length+post.length+1:=by simp;omega
   have sl1:List.drop (0:Int).toNat (List.take ((pre.length:Int)+0).toNat (pre++46::post))=pre:=by
    simp
   have sl2:List.drop ((pre.length:Int)+1).toNat (List.take (pre++46::post).length (pre++46::post))=post:=by
    have:((pre.length:Int)+1).toNat=pre.length+1:=by omega
    rw [this,C2,List.drop_append]
    simp
   have sl3:(done++[]::[]::List.replicate (post.count 46) ([]:List UInt8)).length=done.length+post.count 46+2:=by simp;omega
   refine ⟨(done++[pre],post),?_,⟨by simp;omega,by simp only;omega⟩,by simp;omega,by simp [By1,cu]⟩
   rw [c0]
   rw [c0] at h1
   simp (disch:=omega) only [Ax9,cp,i0,sl1,sl2,xe,EVP,EV,simprocAttr]
   simp [List.replicate_succ,List.set_append]
theorem g7 (s:List UInt8) (hs:s.length≤1000000):S Zt 4 [.s s, .s [46], .i .i64 0, .i .i64 (-1)]=some [Bd (cut s)]:=by
 refine Gc9 (N:=s.length+1) rfl ?_
 have h1:=Bb5 s
 have h2:s.count 46≤s.length:=List.count_le_length
 obtain ⟨l,x,hx⟩:∃l x,cut s=l++[x]:=⟨(cut s).dropLast,(cut s).getLast (by intro e;simp [e] at h1),(List.dropLast_concat_getLast _).symm⟩
 have h3:l.length=s.count 46:=by rw [hx] at h1;simpa using h1
 have h4:((l.length:Int)+1 - 1)=(l.length:Int):=by omega
 have h5:((l++[([]:List UInt8)]).length:Int)=l.length+1:=by simp
 have h6:((l++[x]).length:Int)=l.length+1:=by simp
 have g1:(l++[([]:List UInt8)])[l.length]? =some []:=by simp
 have g2:(l++[x]).getLastD []=x:=by simp [List.getLastD_eq_getLast?]
 have g3:(l++[([]:List UInt8)]).set l.length x=l++[x]:=by simp
 have hk:=g8 s (s.length+1) (by omega) hs (.i .i64 (-1)) .u
 rw [hx] at hk ⊢
 simp only [By1,Cy,List.dropLast_concat] at hk
 simp (disch:=omega) only [Ax9,Ch1,hk,h4,h6,g1,g2,g3,xe,EVP,EV,simprocAttr]
 have g4:((l.length:Int)+1).toNat=(l++[x]).length:=by simp
 rw [g4,C2]
 rfl
theorem cg (s:List UInt8) (hs:s.length≤1000000):S y4 2 [.s s, .s [46]]=some [Bd (cut s)]:=by
 refine Hl4 (N:=1) rfl ?_
 simp (disch:=omega) only [Hb8,g7,xe,EVP,EV,simprocAttr]
theorem Xv (s t:List UInt8) (hs:s.length≤9223372036854775807):S Z0 2 [.s s, .s t]=some [.b (t.isSuffixOf s)]:=by
 refine Gd0 (N:=1) rfl ?_
 by_cases h:t.length≤s.length
 ·have e:((s.length:Int) - (t.length:Int)).toNat=s.length - t.length:=by omega
  simp (disch:=omega) only [Dh6,e,xe,EVP,EV,simprocAttr]
  simp only [C2]
  congr 4
  rw [Cf,Kx,decide_eq_true_eq]
  refine ⟨fun h=>h▸List.drop_suffix _ _,fun h=> ?_⟩
  obtain ⟨p,rfl⟩:=h
  simp
 ·have h2:t.isSuffixOf s=false:=by
   rw [Bool.eq_false_iff,ne_eq,Kx]
   exact fun h'=>h h'.length_le
  simp (disch:=omega) only [Dh6,h2,xe,EVP,EV,simprocAttr]
theorem K6 (s t:List UInt8) (hs:s.length≤9223372036854775807):S y5 2 [.s s, .s t]=some [.b (t.isSuffixOf s)]:=by
 refine Hl5 (N:=1) rfl ?_
 simp (disch:=omega) only [Hb9,Xv,xe,EVP,EV,simprocAttr]
theorem kg (x y:List UInt8):S Zm 2 [.s x, .s y]=some [.i .i64 (Lib.compareBytes x y)]:=by
 refine Gb9 (N:=1) rfl ?_
 simp (disch:=omega) only [Gk2,Ff7,xe,EVP,EV,simprocAttr]
theorem ky (x y:List UInt8):S O4 2 [.s x, .s y]=some [.i .i64 (Lib.compareBytes x y)]:=by
 refine Gd7 (N:=1) rfl ?_
 simp (disch:=omega) only [Gk9,kg,xe,EVP,EV,simprocAttr]
end Go.X.G
/- Names and their labels. -/
namespace Go.X.G
open Go Go.X
def flat (l:List (List UInt8)):List UInt8:=l.flatMap fun x=>x++[46]
def jn (l:List (List UInt8)):List UInt8:=if l=[] then [46] else flat l
def Gz (first:Bool):List (List UInt8)→Bool
 |[]=>true
 |p::r=>Lp p && (!decide (p=[42])||first) && Gz false r
theorem Fy4:Sr 46=false:=by decide
theorem Kr {p:List UInt8} (h:Lp p=true):(46:UInt8)∉p:=by
 unfold Lp at h
 simp at h
 rcases h with rfl|⟨_,h⟩
 ·decide
 ·intro h2
  have:=h 46 h2
  rw [Fy4] at this
  cases this
theorem pp {p:List UInt8} (h:Lp p=true):p≠[]:=by
 rintro rfl
 simp [Lp] at h
theorem Hv {p:List UInt8}:∀{f:Bool} {l:List (List UInt8)},Gz f l=true→p∈l→Lp p=true
 |f,q::r,h,hp=>by
  simp only [Gz,Aq] at h
  rcases Ah.1 hp with rfl|hp
  ·exact h.1.1
  ·exact Hv h.2 hp
theorem z6:∀{l:List (List UInt8)},Gz false l=true→Gz true l=true
 |[],_=>rfl
 |p::r,h=>by
  simp only [Gz,Aq] at h ⊢
  exact ⟨⟨h.1.1,by simp⟩,h.2⟩
theorem al:∀{f:Bool} {a b:List (List UInt8)},Gz f (a++b)=(Gz f a && Gz (f && a.isEmpty) b)
 |f,[],b=>by simp [Gz]
 |f,p::r,b=>by
  simp only [Bt,Gz,al (a:=r)]
  simp [Bool.and_assoc]
theorem z7 {f:Bool} {l:List (List UInt8)} (h:Gz f l=true) (k:Nat):Gz f (l.drop k)=true:=by
 rw [←Bl k l,al,Aq] at h
 have h2:=h.2
 cases f with
 |false=>simpa using h2
 |true=>
  cases he:(l.take k).isEmpty with
  |true=>rw [he] at h2;exact h2
  |false=>rw [he] at h2;exact z6 h2
theorem Qg:∀(m:List UInt8) (f:Bool) (cur:List UInt8),spl f cur (m++[46])=if Gz f (pcs cur m)=true then some (pcs cur m) else none
 |[],f,cur=>by
  simp only [Cy,spl,if_true,pcs,Gz,A0,J6]
  by_cases h:Lp cur=true<;>by_cases h2:cur=[42]<;>cases f<;>simp [h,h2]
 |c::r,f,cur=>by
  simp only [Bt,spl,pcs]
  by_cases hc:c=46
  ·simp only [if_pos hc]
   rw [Qg r false []]
   simp only [Gz]
   by_cases h:Lp cur=true<;>by_cases h2:cur=[42]<;>cases f<;>by_cases h3:Gz false (pcs [] r)=true<;>simp [h,h2,h3]
  ·simp only [if_neg hc]
   exact Qg r f (cur++[c])
theorem Q3 (b:List UInt8):∀(a cur:List UInt8),pcs cur (a++46::b)=pcs cur a++cut b
 |[],cur=>by simp [pcs,cut]
 |c::r,cur=>by
  simp only [Bt,pcs]
  split
  ·rw [Q3 b r []];rfl
  ·exact Q3 b r _
theorem P4:∀(m cur:List UInt8),flat (pcs cur m)=cur++m++[46]
 |[],cur=>by simp [pcs,flat]
 |c::r,cur=>by
  simp only [pcs]
  split
  ·rename_i h
   have:=P4 r []
   simp only [flat,Gd] at this ⊢
   rw [this,h];simp
  ·rw [P4 r (cur++[c])];simp
theorem Wx (a b:List (List UInt8)):flat (a++b)=flat a++flat b:=by simp [flat]
theorem Gg6 (cur m:List UInt8):pcs cur m≠[]:=by
 cases m with
 |nil=>simp [pcs]
 |cons c r=>
  simp only [pcs]
  split
  ·simp
  ·intro h
   have:=P4 r (cur++[c])
   rw [h] at this
   simp [flat] at this
theorem P7:∀(l:List (List UInt8)),(∀p∈l,(46:UInt8)∉p)→cut (flat l)=l++[[]]
 |[],_=>rfl
 |p::l,h=>by
  have h1:flat (p::l)=p++46::flat l:=by simp [flat]
  rw [h1]
  show pcs [] _=_
  rw [Q3,Vl p [] (h p (by simp)),P7 l (fun q hq=>h q (by simp [hq]))]
  simp
theorem Jv:∀(l:List (List UInt8)),l≠[]→∃m,flat l=m++[46]
 |[p],_=>⟨p,by simp [flat]⟩
 |p::q::r,_=>by
  obtain ⟨m,hm⟩:=Jv (q::r) (by simp)
  exact ⟨p++[46]++m,by simp only [flat,Gd] at hm ⊢;rw [hm];simp⟩
theorem qg {l:List (List UInt8)} (hl:l≠[]) (h:∀p∈l,(46:UInt8)∉p) {m:List UInt8} (hm:flat l=m++[46]):cut m=l:=by
 have h1:=P7 l h
 rw [hm] at h1
 have h2:cut (m++[46])=cut m++[[]]:=by
  show pcs [] (m++46::[])=_
  rw [Q3];rfl
 rw [h2] at h1
 exact Nr h1
theorem I0 {l:List (List UInt8)} (h:Gz true l=true) (hl:l≠[]):2≤(flat l).length:=by
 cases l with
 |nil=>exact absurd rfl hl
 |cons p r=>
  have h1:=pp (Hv h (F5 ..))
  have:0<p.length:=Bw.2 h1
  simp [flat];omega
theorem Fw6 {l:List (List UInt8)} (h:Gz true l=true) (hl:l≠[]) (hlen:(flat l).length≤254):nm (flat l)=some l:=by
 obtain ⟨m,hm⟩:=Jv l hl
 have h1:=qg hl (fun p hp=>Kr (Hv h hp)) hm
 have h2:=I0 h hl
 unfold nm
 rw [if_neg (by intro e;rw [e] at h2;simp at h2),if_pos ⟨h2,hlen,by rw [hm];simp⟩,hm,Qg]
 have:pcs [] m=l:=h1
 rw [this,if_pos h]
theorem Fw5 {n:List UInt8} {l:List (List UInt8)} (h:nm n=some l):(n=[46]∧l=[])∨(l≠[]∧Gz true l=true∧n=flat l∧n.length≤254):=by
 unfold nm at h
 split at h
 ·rename_i e;injection h with h;exact .inl ⟨e,h.symm⟩
 ·split at h
  ·rename_i h1
   right
   obtain ⟨h2,h3,h4⟩:=h1
   obtain ⟨m,hm⟩:∃m,n=m++[46]:=by
    refine ⟨n.dropLast,?_⟩
    have:n≠[]:=by intro e;simp [e] at h2
    have h5:=List.dropLast_concat_getLast this
    rw [←h5]
    congr 1
    ·simp
    ·have h6:n[n.length - 1]? =some (n.getLast this):=by rw [Ig];exact Ay _
     rw [h6] at h4
     injection h4 with h4
     simp [h4]
   rw [hm,Qg] at h
   split at h
   ·rename_i h5
    injection h with h
    subst h
    refine ⟨Gg6 _ _,h5,?_,by omega⟩
    rw [P4,hm];simp
   ·cases h
  ·cases h
theorem Fj2 {n:List UInt8}:vld n=true↔nm n=some (lbl n):=by
 unfold vld lbl
 cases nm n<;>simp
theorem vld_cases {n:List UInt8} (h:vld n=true):(n=[46]∧lbl n=[])∨(lbl n≠[]∧Gz true (lbl n)=true∧n=flat (lbl n)∧n.length≤254):=Fw5 (Fj2.1 h)
theorem lm {n:List UInt8} (h:vld n=true):Gz true (lbl n)=true:=by
 rcases vld_cases h with ⟨_,h⟩|⟨_,h,_⟩
 ·rw [h];rfl
 ·exact h
theorem Qx {n:List UInt8} (h:vld n=true):n=jn (lbl n):=by
 unfold jn
 rcases vld_cases h with ⟨h1,h2⟩|⟨h1,_,h2,_⟩
 ·rw [h2,if_pos rfl];exact h1
 ·rw [if_neg h1];exact h2
theorem Qw {n:List UInt8} (h:vld n=true):n.length≤254:=by
 rcases vld_cases h with ⟨h1,_⟩|⟨_,_,_,h⟩
 ·simp [h1]
 ·exact h
theorem P2:lbl [46]=[]:=rfl
theorem bv {l:List (List UInt8)} (h:Gz true l=true) (hl:l≠[]):flat l≠[46]:=by
 intro e
 have:=I0 h hl
 rw [e] at this;simp at this
theorem Fy5 {n:List UInt8} (h:vld n=true):lbl n=[]↔n=[46]:=by
 rcases vld_cases h with ⟨h1,h2⟩|⟨h1,h2,h3,_⟩
 ·simp [h1,P2]
 ·constructor
  ·intro e;exact absurd e h1
  ·intro e;rw [h3] at e;exact absurd e (bv h2 h1)
theorem Gv4 {l:List (List UInt8)} (h:Gz true l=true) (hlen:(flat l).length≤254):vld (jn l)=true∧lbl (jn l)=l:=by
 unfold jn
 by_cases hl:l=[]
 ·subst hl;exact ⟨rfl,rfl⟩
 ·rw [if_neg hl]
  have:=Fw6 h hl hlen
  exact ⟨by simp [vld,this],by simp [lbl,this]⟩
theorem Oz {a b:List UInt8} (ha:vld a=true) (hb:vld b=true) (h:lbl a=lbl b):a=b:=by
 rw [Qx ha,Qx hb,h]
theorem Wv (l:List (List UInt8)) (k:Nat):(flat (l.drop k)).length≤(flat l).length:=by
 have:flat l=flat (l.take k)++flat (l.drop k):=by rw [←Wx,Bl]
 rw [this,Az];omega
theorem Pm {n:List UInt8} (h:vld n=true) (k:Nat):vld (jn ((lbl n).drop k))=true∧lbl (jn ((lbl n).drop k))=(lbl n).drop k:=by
 refine Gv4 (z7 (lm h) k) ?_
 rcases vld_cases h with ⟨_,h1⟩|⟨_,_,h1,h2⟩
 ·rw [h1];simp [flat]
 ·have:=Wv (lbl n) k
  rw [←h1] at this;omega
end Go.X.G
/- Names: what the program's functions give. -/
namespace Go.X.G
open Go Go.X
def ord (s:List UInt8):Bool:=decide (1≤s.length) && decide (s.length≤63) && s.all Sr
theorem Bx4 (s:List UInt8):Lp s=(decide (s=[42])||ord s):=rfl
theorem Dw7:ord [42]=false:=by decide
theorem fz (s:List UInt8) (N:Nat) (hN:s.length<N) (hs:s.length≤9223372036854775807):
  Dp2.ev S N [.s s]=some (if s.all Sr=true then .yld 0 [] else .ret [.b false]):=by
 refine Ey s (fun i=>[.i .i64 (i:Int)]) (fun i r=>if r.all Sr=true then .yld 0 [] else .ret [.b false]) rfl hN (fun i c r hd hi hc=> ?_) ?_
 ·have key:Cd1.ev S N ([.s s]++[.i .i64 (i:Int)])=some (if Sr c=true then .yld 1 [.i .i64 ((i:Int)+1)] else .ret [.b false]):=by
   simp (disch:=omega) only [Aw9,hc,xe,EVP,EV,simprocAttr]
   unfold Sr
   grind
  rw [key]
  rcases Av (Sr c) with h|h<;>simp [h,Out.goes]
 ·simp (disch:=omega) [Aw9,xe,EVP,EV,simprocAttr,Out.goes]
theorem Jn (s:List UInt8) (hs:s.length≤9223372036854775807):S Ar8 1 [.s s]=some [.b (ord s)]:=by
 refine Hl3 (N:=s.length+1) rfl ?_
 unfold ord
 by_cases h1:s=[]
 ·subst h1
  simp (disch:=omega) [Aw9,xe,EVP,EV,simprocAttr]
 ·have h2:1≤s.length:=Bw.2 h1
  by_cases h3:s.length≤63
  ·simp (disch:=omega) only [Aw9,fz,h1,xe,EVP,EV,simprocAttr]
   cases s.all Sr<;>simp [h2,h3]
  ·simp (disch:=omega) only [Aw9,h1,xe,EVP,EV,simprocAttr]
   simp [h3]
def okP (i:Nat) (p:List UInt8):Bool:=ord p||(decide (i=0) && decide (p=[42]))
def Dx6:Nat→List (List UInt8)→Bool
 |_,[]=>true
 |i,p::r=>okP i p && Dx6 (i+1) r
theorem Zj:∀(l:List (List UInt8)) (i:Nat),Dx6 i l=Gz (decide (i=0)) l
 |[],_=>rfl
 |p::r,i=>by
  have h1:=Zj r (i+1)
  simp only [Dx6,Gz,h1,okP,Bx4]
  by_cases h2:p=[42]
  ·subst h2
   by_cases h3:i=0<;>simp [Dw7,h3]
  ·simp [h2]
theorem Cg3 (p q:PV) (l:List (List UInt8)) (hl:l.length≤1000000) (hw:∀x∈l,x.length≤9223372036854775807) (N:Nat) (hN:l.length<N):
  Dr0.ev S N [p,q,Bd l]=some (if Dx6 0 l=true then .yld 0 [] else .ret [.b false]):=by
 refine Ey l (fun i=>[.i .i64 (i:Int)]) (fun i r=>if Dx6 i r=true then .yld 0 [] else .ret [.b false]) rfl hN (fun i c r hd hi hc=> ?_) ?_
 ·have hcw:=hw c (A6 hc)
  have key:Cd5.ev S N ([p,q,Bd l]++[.i .i64 (i:Int)])=some (if okP i c=true then .yld 1 [.i .i64 ((i:Int)+1)] else .ret [.b false]):=by
   rcases Av (ord c) with h1|h1
   ·simp (disch:=omega) only [U2,Jn,hc,h1,xe,EVP,EV,simprocAttr]
    simp [okP,h1]
   ·by_cases h2:i=0
    ·subst h2
     by_cases h3:c=[42]
     ·subst h3
      simp (disch:=omega) only [U2,Jn,hc,h1,xe,EVP,EV,simprocAttr]
      simp [okP]
     ·simp (disch:=omega) only [U2,Jn,hc,h1,h3,xe,EVP,EV,simprocAttr]
      simp [okP,h1,h3]
    ·simp (disch:=omega) only [U2,Jn,hc,h1,xe,EVP,EV,simprocAttr]
     simp [okP,h1,h2]
  rw [key]
  rcases Av (okP i c) with h|h<;>simp [h,Dx6,Out.goes]
 ·simp (disch:=omega) only [U2,xe,EVP,EV,simprocAttr]
  simp [Out.goes,Dx6]
theorem Vm:∀(m cur:List UInt8) (x:List UInt8),x∈pcs cur m→x.length≤cur.length+m.length
 |[],cur,x,h=>by simp [pcs] at h;subst h;simp
 |c::r,cur,x,h=>by
  simp only [pcs] at h
  split at h
  ·rcases Ah.1 h with rfl|h
   ·omega
   ·have:=Vm r [] x h;simp at this ⊢;omega
  ·have:=Vm r _ x h;simp at this ⊢;omega
theorem Dd3 (m x:List UInt8) (h:x∈cut m):x.length≤m.length:=by simpa using Vm m [] x h
theorem Hw2 (m:List UInt8):(cut m).length≤m.length+1:=by
 have:=Bb5 m
 have:m.count 46≤m.length:=List.count_le_length
 omega
theorem Az5 (n:List UInt8):([46]:List UInt8).isSuffixOf n=true↔∃m,n=m++[46]:=by
 rw [Kx]
 exact ⟨fun ⟨m,h⟩=>⟨m,h.symm⟩,fun ⟨m,h⟩=>⟨m,h.symm⟩⟩
theorem Cm3 (m:List UInt8) (hm:m≠[]) (hl:m.length≤253):vld (m++[46])=Dx6 0 (cut m):=by
 have h1:m++[46]≠[46]:=fun e=>hm (Nr (bs:=[46]) (by simpa using e))
 have h2:0<m.length:=Bw.2 hm
 unfold vld nm
 rw [if_neg h1,if_pos ⟨by simp;omega,by simp;omega,by simp⟩,Qg,Zj]
 have e:pcs [] m=cut m:=rfl
 have e2:Gz (decide ((0:Nat)=0)) (cut m)=Gz true (cut m):=rfl
 rw [e,e2]
 cases Gz true (cut m)<;>rfl
theorem Dz2 (m:List UInt8) (h:vld (m++[46])=true) (hm:m≠[]):lbl (m++[46])=cut m:=by
 rcases vld_cases h with ⟨h1,_⟩|⟨h1,h2,h3,_⟩
 ·exact absurd (Nr (bs:=[46]) (by simpa using h1)) hm
 ·exact (qg h1 (fun p hp=>Kr (Hv h2 hp)) h3.symm).symm
theorem B0 (n:List UInt8) (hn:n.length≤9223372036854775807):S M6 1 [.s n]=some [.b (vld n)]:=by
 refine Hp1 (N:=300) rfl ?_
 by_cases h0:n=[46]
 ·subst h0
  simp (disch:=omega) only [U2,xe,EVP,EV,simprocAttr]
  rfl
 ·by_cases h1:255≤n.length
  ·have hv:vld n=false:=by
    rw [Bool.eq_false_iff];intro h;have:=Qw h;omega
   simp (disch:=omega) only [U2,h0,hv,xe,EVP,EV,simprocAttr]
  ·rcases Av (([46]:List UInt8).isSuffixOf n) with h2|h2
   ·obtain ⟨m,rfl⟩:=(Az5 n).1 h2
    have hm:m≠[]:=fun e=>h0 (by simp [e])
    have hl:(m++[46]).length=m.length+1:=by simp
    have hml:m.length≤1000000:=by omega
    have e:List.drop 0 (List.take (((m++[46]).length:Int) - 1).toNat (m++[46]))=m:=by
     have:(((m++[46]).length:Int) - 1).toNat=m.length:=by omega
     rw [this];simp
    have hc:=Hw2 m
    have hv:=Cm3 m hm (by omega)
    have hk:=Cg3 (.s (m++[46])) (.b true) (cut m) (by omega) (fun x hx=>by have:=Dd3 m x hx;omega) 300 (by omega)
    simp (disch:=omega) only [U2,K6,cg,e,hk,h0,h2,xe,EVP,EV,simprocAttr]
    rw [hv]
    cases Dx6 0 (cut m)<;>simp
   ·have hv:vld n=false:=by
     rw [Bool.eq_false_iff];intro h
     rcases vld_cases h with ⟨h3,_⟩|⟨h3,_,h5,_⟩
     ·exact h0 h3
     ·obtain ⟨m,hm⟩:=Jv _ h3
      have:=(Az5 n).2 ⟨m,h5.trans hm⟩
      rw [h2] at this;cases this
    simp (disch:=omega) only [U2,K6,h0,h2,hv,xe,EVP,EV,simprocAttr]
theorem Og (n:List UInt8) (hn:n.length≤9223372036854775807):S Q8 1 [.s n]=some [Bd (lbl n)]:=by
 refine Gd6 (N:=1) rfl ?_
 by_cases h0:n=[46]
 ·subst h0
  simp (disch:=omega) only [Ay1,P2,xe,EVP,EV,simprocAttr]
 ·rcases Av (vld n) with h1|h1
  ·obtain ⟨m,hm,rfl⟩:∃m,m≠[]∧n=m++[46]:=by
    rcases vld_cases h1 with ⟨h3,_⟩|⟨h3,_,h5,_⟩
    ·exact absurd h3 h0
    ·obtain ⟨m,hm⟩:=Jv _ h3
     exact ⟨m,fun e=>h0 (by rw [h5,hm,e];rfl),h5.trans hm⟩
   have hl:(m++[46]).length=m.length+1:=by simp
   have e:List.drop 0 (List.take (((m++[46]).length:Int) - 1).toNat (m++[46]))=m:=by
    have:(((m++[46]).length:Int) - 1).toNat=m.length:=by omega
    rw [this];simp
   have hl2:=Qw h1
   have e2:=Dz2 m h1 hm
   simp (disch:=omega) only [Ay1,B0,cg,e,e2,h0,h1,xe,EVP,EV,simprocAttr]
  ·have e:lbl n=[]:=by
    unfold lbl;unfold vld at h1
    cases h:nm n with
    |none=>rfl
    |some l=>rw [h] at h1;cases h1
   simp (disch:=omega) only [Ay1,B0,h0,h1,e,xe,EVP,EV,simprocAttr]
theorem Nz (p:List UInt8) (l:List (List UInt8)):flat (p::l)=p++46::flat l:=by simp [flat]
def Vr (n:List UInt8):List UInt8:=if vld n=true∧n≠[46] then jn ((lbl n).drop 1) else []
def qk (n:List UInt8):Bool:=vld n && !decide (n=[46])
theorem Uf (n:List UInt8) (hn:n.length≤9223372036854775807):S zx 1 [.s n]=some [.s (Vr n), .b (qk n)]:=by
 refine Hp4 (N:=1) rfl ?_
 unfold Vr qk
 by_cases h0:n=[46]
 ·subst h0
  simp (disch:=omega) only [Cl9,xe,EVP,EV,simprocAttr]
  simp
 ·rcases Av (vld n) with h1|h1
  ·rcases vld_cases h1 with ⟨h3,_⟩|⟨h3,h4,h5,h6⟩
   ·exact absurd h3 h0
   ·cases hl:lbl n with
    |nil=>exact absurd hl h3
    |cons p r=>
     rw [hl] at h4 h5
     have hp:=Kr (Hv h4 (F5 ..))
     have hi:=cr n 46
     have hc:(((46:UInt8).toNat:Nat):Int)=46:=rfl
     have hx:Lib.indexByte n 46=(p.length:Int):=by rw [h5,Nz];exact I9 46 _ p hp
     rw [hc,hx] at hi
     have hlen:n.length=p.length+1+(flat r).length:=by rw [h5,Nz];simp;omega
     have e:List.drop ((p.length:Int)+1).toNat (List.take n.length n)=flat r:=by
      have:((p.length:Int)+1).toNat=p.length+1:=by omega
      rw [this,C2,h5,Nz]
      simp
     by_cases h7:r=[]
     ·subst h7
      have e2:flat []=[]:=rfl
      simp (disch:=omega) only [Cl9,B0,hi,e,e2,h0,h1,xe,EVP,EV,simprocAttr]
      simp [jn]
     ·have e2:¬flat r=[]:=by
       obtain ⟨m,hm⟩:=Jv r h7
       rw [hm];simp
      simp (disch:=omega) only [Cl9,B0,hi,e,e2,h0,h1,xe,EVP,EV,simprocAttr]
      simp [jn,h7]
  ·simp (disch:=omega) only [Cl9,B0,h0,h1,xe,EVP,EV,simprocAttr]
   simp
def Bz4 (n top:List UInt8):Bool:=(decide (top=[46])||decide (n=top))||(46::top).isSuffixOf n
theorem Fd2 (n top:List UInt8) (hn:n.length≤9223372036854775807) (ht:top.length≤1000000):S As2 2 [.s n, .s top]=some [.b (Bz4 n top)]:=by
 refine Hm2 (N:=1) rfl ?_
 unfold Bz4
 have h0:([46]:List UInt8).length=1:=rfl
 by_cases h1:top=[46]<;>by_cases h2:n=top<;>simp (disch:=omega) only [Hc3,K6,h1,h2,xe,EVP,EV,simprocAttr]
 all_goals simp
theorem ik {a b:List (List UInt8)} (ha:Gz true a=true) (hb:Gz true b=true) (h:(46::flat b)<:+flat a):b<:+a:=by
 obtain ⟨p,hp⟩:=h
 have h1:=P7 a (fun x hx=>Kr (Hv ha hx))
 have h2:=P7 b (fun x hx=>Kr (Hv hb hx))
 rw [←hp] at h1
 have h3:cut (p++46::flat b)=cut p++cut (flat b):=Q3 (flat b) p []
 rw [h3,h2,←Ar] at h1
 exact ⟨cut p,Nr h1⟩
theorem Dc6 {n top:List UInt8} (hn:vld n=true) (ht:vld top=true):Bz4 n top=true↔lbl top<:+lbl n:=by
 unfold Bz4
 simp only [Am,decide_eq_true_eq,Kx]
 constructor
 ·rintro ((rfl|rfl)|h)
  ·rw [P2];exact List.nil_suffix
  ·exact List.suffix_refl _
  ·rcases vld_cases ht with ⟨h1,h2⟩|⟨h1,h2,h3,_⟩
   ·rw [h2];exact List.nil_suffix
   ·rcases vld_cases hn with ⟨h5,_⟩|⟨h5,h6,h7,_⟩
    ·rw [h5] at h
     have h9:=h.length_le
     have h8:=I0 h2 h1
     rw [←h3] at h8
     simp only [As,Bc] at h9;omega
    ·rw [h3,h7] at h
     exact ik h6 h2 h
 ·intro h
  obtain ⟨p,hp⟩:=h
  rcases vld_cases ht with ⟨h1,h2⟩|⟨h1,h2,h3,_⟩
  ·exact .inl (.inl h1)
  ·by_cases hp0:p=[]
   ·left;right
    subst hp0
    exact Oz hn ht hp.symm
   ·right
    rcases vld_cases hn with ⟨_,h5⟩|⟨h5,h6,h7,_⟩
    ·rw [h5] at hp
     exact absurd (List.append_eq_nil_iff.1 hp).1 hp0
    ·obtain ⟨m,hm⟩:=Jv p hp0
     rw [h7,←hp,Wx,hm]
     exact ⟨m,by rw [Ar,←h3];simp⟩
theorem R5 {α:Type} [DecidableEq α]:∀(a b:List α),ig a b=b.length↔b<+:a
 |[],[]=>by simp [ig]
 |[],y::ys=>by simp [ig]
 |x::xs,[]=>by simp [ig]
 |x::xs,y::ys=>by
  have:=R5 xs ys
  simp only [ig]
  split
  ·rename_i h;subst h
   simp [this,K7]
  ·rename_i h
   simp [K7,Ne.symm h]
theorem Yn (a b:List (List UInt8)):ep a b=b.length↔b<:+a:=by
 unfold ep
 have:=R5 a.reverse b.reverse
 rw [List.length_reverse] at this
 rw [this,List.reverse_prefix]
theorem Ct {n top:List UInt8}:under n top=true↔vld n=true∧vld top=true∧lbl top<:+lbl n:=by
 unfold under
 simp [Yn,and_assoc]
theorem v7 {n top:List UInt8} (hn:vld n=true) (ht:vld top=true):Bz4 n top=under n top:=by
 rw [Cf,Dc6 hn ht,Ct]
 simp [hn,ht]
theorem Gt (n top:List UInt8) (hn:n.length≤9223372036854775807) (ht:top.length≤9223372036854775807):S Ow 2 [.s n, .s top]=some [.b (under n top)]:=by
 refine Hp5 (N:=1) rfl ?_
 rcases Av (vld n) with h1|h1
 ·rcases Av (vld top) with h2|h2
  ·have h3:=Qw h2
   simp (disch:=omega) only [Et7,B0,Fd2,h1,h2,xe,EVP,EV,simprocAttr]
   rw [v7 h1 h2]
  ·have h3:under n top=false:=by simp [under,h2]
   simp (disch:=omega) only [Et7,B0,h1,h2,h3,xe,EVP,EV,simprocAttr]
 ·have h3:under n top=false:=by simp [under,h1]
  simp (disch:=omega) only [Et7,B0,h1,h3,xe,EVP,EV,simprocAttr]
end Go.X.G
/- Names: order, common ancestors, wildcards. -/
namespace Go.X.G
open Go Go.X
theorem Pk:∀(a:List UInt8),Op.bytesLess a a=false
 |[]=>rfl
 |a::x=>by simp [Op.bytesLess,Pk x]
theorem K1:∀(a b:List UInt8),Lib.compareBytes a b=cmpS a b
 |[],[]=>rfl
 |[],_::_=>rfl
 |_::_,[]=>rfl
 |a::x,b::y=>by
  have ih:=K1 x y
  unfold cmpS at ih ⊢
  simp only [Lib.compareBytes,Op.bytesLess,ih]
  by_cases h1:a<b
  ·simp [h1]
  ·by_cases h2:b<a
   ·have h3:a≠b:=fun e=>by subst e;exact h1 h2
    simp [h1,h2,h3]
   ·have h3:a=b:=UInt8.le_antisymm (UInt8.not_lt.1 h2) (UInt8.not_lt.1 h1)
    subst h3
    simp [h1]
theorem Iw {a b:List UInt8}:cmpS a b=0↔a=b:=by
 unfold cmpS
 by_cases h:a=b
 ·subst h;simp [Pk]
 ·cases h2:Op.bytesLess a b<;>simp [h]
theorem J3 (x y:List UInt8):S O4 2 [.s x, .s y]=some [.i .i64 (cmpS x y)]:=by
 rw [ky,K1]
def Sb:List (List UInt8)→List (List UInt8)→Option Int
 |x::xs,y::ys=>if x=y then Sb xs ys else some (cmpS x y)
 |_,_=>none
theorem Bb9:∀(a b:List (List UInt8)),Sb a b=if ig a b<a.length∧ig a b<b.length then some (cmpS (a.getD (ig a b) []) (b.getD (ig a b) [])) else none
 |[],b=>by simp [Sb,ig]
 |x::xs,[]=>by simp [Sb,ig]
 |x::xs,y::ys=>by
  have ih:=Bb9 xs ys
  simp only [Sb,ig]
  by_cases h:x=y
  ·simp only [if_pos h,ih]
   simp
  ·simp [h]
def Ak4 (a b:List (List UInt8)):Int:=match Sb a.reverse b.reverse with
 |some c=>c
 |none=>if a.length<b.length then -1 else if b.length<a.length then 1 else 0
theorem qw (a:List (List UInt8)) (k:Nat) (h:k<a.length):a.reverse.getD k []=a.getD (a.length - 1 - k) []:=by
 simp [Bf,List.getElem?_reverse h]
theorem Wl {a b:List UInt8} (ha:vld a=true) (hb:vld b=true):I2 a b=Ak4 (lbl a) (lbl b):=by
 unfold I2 Ak4
 rw [Bb9]
 have e:ig (lbl a).reverse (lbl b).reverse=ep (lbl a) (lbl b):=rfl
 rw [e,ha,hb]
 simp only [List.length_reverse,Bool.and_self,if_true]
 by_cases h:ep (lbl a) (lbl b)<(lbl a).length∧ep (lbl a) (lbl b)<(lbl b).length
 ·rw [if_pos h,if_pos h,qw _ _ h.1,qw _ _ h.2]
 ·rw [if_neg h,if_neg h]
theorem kf (a b:List (List UInt8)) (p1 p2 p3 p4:PV) (ha:a.length≤1000) (hb:b.length≤1000) (N:Nat) (hN:1001<N):
  Bq9.ev S N [p1,p2,p3,p4,Bd a,Bd b]=some (match Sb a.reverse b.reverse with|some c=> .ret [.i .i64 c]|none=> .yld 0 []):=by
 have key:=M8 (fn:=S) (N:=N) (η:=[p1,p2,p3,p4,Bd a,Bd b]) (id:=1) (init:=[(.c (.i .i64 (1)))]) (body:=Cd4) (α:=Nat) (fun k=>[.i .i64 ((k:Int)+1)])
  (fun k=>match Sb (a.reverse.drop k) (b.reverse.drop k) with|some c=> .ret [.i .i64 c]|none=> .yld 0 []) (fun k=>k≤a.length∧k≤b.length) (fun k=>a.length - k) 0 rfl ⟨C4 _,C4 _⟩ (by omega) ?_
 ·simpa [Bq9] using key
 ·rintro k ⟨h1,h2⟩
  by_cases h3:k<a.length
  ·by_cases h4:k<b.length
   ·have e1:((a.length:Int) - ((k:Int)+1)).toNat=a.length - 1 - k:=by omega
    have e2:((b.length:Int) - ((k:Int)+1)).toNat=b.length - 1 - k:=by omega
    have g1:a[a.length - 1 - k]? =some (a[a.length - 1 - k]'(by omega)):=Ay (by omega)
    have g2:b[b.length - 1 - k]? =some (b[b.length - 1 - k]'(by omega)):=Ay (by omega)
    have d1:a.reverse.drop k=(a[a.length - 1 - k]'(by omega))::a.reverse.drop (k+1):=by
     rw [B9 (by simpa using h3)];simp
    have d2:b.reverse.drop k=(b[b.length - 1 - k]'(by omega))::b.reverse.drop (k+1):=by
     rw [B9 (by simpa using h4)];simp
    rw [d1,d2]
    generalize (a[a.length - 1 - k]'(by omega))=x at g1
    generalize (b[b.length - 1 - k]'(by omega))=y at g2
    simp only [Sb]
    by_cases h:x=y
    ·left
     have h5:cmpS x y=0:=Iw.2 h
     refine ⟨k+1,?_,⟨by omega,by omega⟩,by omega,by rw [if_pos h]⟩
     simp (disch:=omega) only [dl,J3,e1,e2,g1,g2,h5,xe,EVP,EV,simprocAttr]
    ·right
     have h5:¬cmpS x y=0:=fun e=>h (Iw.1 e)
     rw [if_neg h]
     simp (disch:=omega) only [dl,J3,e1,e2,g1,g2,h5,xe,EVP,EV,simprocAttr]
     simp [Out.goes]
   ·right
    have d2:b.reverse.drop k=[]:=Jc (by simp;omega)
    have z:Sb (a.reverse.drop k) []=none:=by cases a.reverse.drop k<;>rfl
    rw [d2,z]
    simp (disch:=omega) [dl,xe,EVP,EV,simprocAttr,Out.goes]
  ·right
   have d1:a.reverse.drop k=[]:=Jc (by simp;omega)
   have z:Sb [] (b.reverse.drop k)=none:=rfl
   rw [d1,z]
   simp (disch:=omega) [dl,xe,EVP,EV,simprocAttr,Out.goes]
theorem Sw (a b:List UInt8) (hn:a.length≤9223372036854775807) (ht:b.length≤9223372036854775807):S Ov 2 [.s a, .s b]=some [.i .i64 (I2 a b)]:=by
 refine Hm7 (N:=1002) rfl ?_
 have h1:=Mz a
 have h2:=Mz b
 rcases Av (vld a) with h3|h3<;>rcases Av (vld b) with h4|h4
 ·rw [Wl h3 h4]
  unfold Ak4
  have hk:=kf (lbl a) (lbl b) (.s a) (.s b) (.b true) (.b true) (by omega) (by omega) 1002 (by omega)
  cases h5:Sb (lbl a).reverse (lbl b).reverse with
  |some c=>
   rw [h5] at hk
   simp (disch:=omega) only [dl,B0,Og,hk,h3,h4,xe,EVP,EV,simprocAttr]
  |none=>
   rw [h5] at hk
   simp (disch:=omega) only [dl,B0,Og,hk,h3,h4,xe,EVP,EV,simprocAttr]
   grind
 all_goals unfold I2
 all_goals simp (disch:=omega) only [dl,B0,J3,h3,h4,xe,EVP,EV,simprocAttr]
 all_goals simp
theorem Dr9 {n:List UInt8} (h:vld n=true) (k:Nat):(jn ((lbl n).drop k)).length≤254:=Qw (Pm h k).1
theorem wq {n:List UInt8} (h:vld n=true):(n[0]? =some 42↔(lbl n)[0]? =some [42]):=by
 rcases vld_cases h with ⟨h1,h2⟩|⟨h1,h2,h3,_⟩
 ·subst h1;simp [P2]
 ·cases hl:lbl n with
  |nil=>exact absurd hl h1
  |cons p r=>
   rw [hl] at h2 h3
   have hp:=Hv h2 (F5 ..)
   have hne:=pp hp
   cases p with
   |nil=>exact absurd rfl hne
   |cons c q=>
    rw [h3,Nz]
    simp only [Bt,Cc,Option.some.injEq]
    constructor
    ·rintro rfl
     unfold Lp at hp
     simp at hp
     rcases hp with h|h
     ·rw [h]
     ·exfalso
      have:Sr 42=false:=by decide
      rw [this] at h;simp at h
    ·intro h;injection h
end Go.X.G
/- The canonical order of names is a total order. -/
namespace Go.X.G
open Go Go.X
structure TO {α:Type} (lt:α→α→Prop):Prop where
 irr:∀a,¬lt a a
 tr:∀a b c,lt a b→lt b c→lt a c
 tri:∀a b,lt a b∨a=b∨lt b a
theorem TO.asym {α:Type} {lt:α→α→Prop} (h:TO lt) {a b:α} (h1:lt a b):¬lt b a:=fun h2=>h.irr a (h.tr _ _ _ h1 h2)
theorem TO.ntr {α:Type} {lt:α→α→Prop} (h:TO lt) {a b c:α} (h1:¬lt a b) (h2:¬lt b c):¬lt a c:=by
 intro h3
 rcases h.tri b a with h4|h4|h4
 ·exact h2 (h.tr _ _ _ h4 h3)
 ·subst h4;exact h2 h3
 ·exact h1 h4
def lex {α:Type} (lt:α→α→Prop):List α→List α→Prop
 |[],[]=>False
 |[],_::_=>True
 |_::_,[]=>False
 |a::x,b::y=>lt a b∨(a=b∧lex lt x y)
theorem Bk8 {α:Type} {lt:α→α→Prop} (h:TO lt):∀x:List α,¬lex lt x x
 |[]=>by simp [lex]
 |a::x=>by
  simp only [lex,true_and,not_or]
  exact ⟨h.irr a,Bk8 h x⟩
theorem Dn6 {α:Type} {lt:α→α→Prop} (h:TO lt):∀x y z:List α,lex lt x y→lex lt y z→lex lt x z
 |[],[],_,h1,_=>by simp [lex] at h1
 |[],_::_,[],_,h2=>by simp [lex] at h2
 |[],_::_,_::_,_,_=>by simp [lex]
 |_::_,[],_,h1,_=>by simp [lex] at h1
 |_::_,_::_,[],_,h2=>by simp [lex] at h2
 |a::x,b::y,c::z,h1,h2=>by
  simp only [lex] at h1 h2 ⊢
  rcases h1 with h1|⟨rfl,h1⟩
  ·rcases h2 with h2|⟨rfl,h2⟩
   ·exact .inl (h.tr _ _ _ h1 h2)
   ·exact .inl h1
  ·rcases h2 with h2|⟨rfl,h2⟩
   ·exact .inl h2
   ·exact .inr ⟨rfl,Dn6 h x y z h1 h2⟩
theorem lex_tri {α:Type} {lt:α→α→Prop} (h:TO lt):∀x y:List α,lex lt x y∨x=y∨lex lt y x
 |[],[]=> .inr (.inl rfl)
 |[],_::_=> .inl (by simp [lex])
 |_::_,[]=> .inr (.inr (by simp [lex]))
 |a::x,b::y=>by
  simp only [lex]
  rcases h.tri a b with h1|rfl|h1
  ·exact .inl (.inl h1)
  ·rcases lex_tri h x y with h2|rfl|h2
   ·exact .inl (.inr ⟨rfl,h2⟩)
   ·exact .inr (.inl rfl)
   ·exact .inr (.inr (.inr ⟨rfl,h2⟩))
  ·exact .inr (.inr (.inl h1))
theorem TO.lex {α:Type} {lt:α→α→Prop} (h:TO lt):TO (G.lex lt):=⟨Bk8 h,Dn6 h,lex_tri h⟩
theorem Hg2:TO (fun a b:UInt8=>a<b):=⟨fun a=>UInt8.lt_irrefl a,fun a b c h1 h2=>UInt8.lt_trans h1 h2,fun a b=>by
 rcases UInt8.lt_or_le a b with h|h
 ·exact .inl h
 ·rcases UInt8.lt_or_le b a with h2|h2
  ·exact .inr (.inr h2)
  ·exact .inr (.inl (UInt8.le_antisymm h2 h))⟩
abbrev ltB:List UInt8→List UInt8→Prop:=lex fun a b:UInt8=>a<b
theorem Ch6:TO ltB:=Hg2.lex
theorem R9:∀a b:List UInt8,Op.bytesLess a b=true↔ltB a b
 |[],[]=>by simp [Op.bytesLess,lex]
 |[],_::_=>by simp [Op.bytesLess,lex]
 |_::_,[]=>by simp [Op.bytesLess,lex]
 |a::x,b::y=>by
  have ih:=R9 x y
  simp only [Op.bytesLess,Am,decide_eq_true_eq,Aq,beq_iff_eq,lex]
  rw [ih]
theorem P8 (a b:List UInt8):cmpS a b<0↔ltB a b:=by
 rw [←R9]
 unfold cmpS
 cases h:Op.bytesLess a b
 ·simp only [Ab,if_false,iff_false]
  split<;>omega
 ·simp
abbrev ltL:List (List UInt8)→List (List UInt8)→Prop:=lex ltB
theorem to_L:TO ltL:=Ch6.lex
def Ak5 (a b:List (List UInt8)):Int:=match Sb a b with
 |some c=>c
 |none=>if a.length<b.length then -1 else if b.length<a.length then 1 else 0
theorem q8:∀a b:List (List UInt8),Ak5 a b<0↔ltL a b
 |[],[]=>by simp [Ak5,Sb,lex]
 |[],_::_=>by simp [Ak5,Sb,lex]
 |_::_,[]=>by simp [Ak5,Sb,lex]
 |x::xs,y::ys=>by
  have ih:=q8 xs ys
  simp only [Ak5,Sb,lex] at ih ⊢
  by_cases h:x=y
  ·subst h
   rw [if_pos rfl]
   simp only [As,Nat.add_lt_add_iff_right,true_and]
   rw [ih]
   constructor
   ·exact fun h=> .inr h
   ·rintro (h|h)
    ·exact absurd h (Ch6.irr x)
    ·exact h
  ·rw [if_neg h]
   simp only
   rw [P8]
   simp [h]
theorem im (a b:List (List UInt8)):Ak4 a b=Ak5 a.reverse b.reverse:=by
 unfold Ak4 Ak5
 cases Sb a.reverse b.reverse<;>simp
theorem Bb8 (a b:List (List UInt8)):Ak4 a b<0↔ltL a.reverse b.reverse:=by
 rw [←q8,im]
def ltN (a b:List UInt8):Prop:=if vld a=true then (if vld b=true then ltL (lbl a).reverse (lbl b).reverse else True) else (if vld b=true then False else ltB a b)
theorem Es (a b:List UInt8):I2 a b<0↔ltN a b:=by
 unfold ltN
 rcases Av (vld a) with ha|ha
 ·rcases Av (vld b) with hb|hb
  ·rw [Wl ha hb,Bb8,if_pos ha,if_pos hb]
  ·unfold I2;simp [ha,hb]
 ·rcases Av (vld b) with hb|hb
  ·unfold I2;simp [ha,hb]
  ·have e:I2 a b=cmpS a b:=by unfold I2;simp [ha,hb]
   rw [e,P8];simp [ha,hb]
theorem to_N:TO ltN:=by
 refine ⟨fun a h=> ?_,fun a b c h1 h2=> ?_,fun a b=> ?_⟩
 ·unfold ltN at h
  split at h
  ·exact to_L.irr _ h
  ·exact Ch6.irr _ h
 ·unfold ltN at*
  rcases Av (vld a) with ha|ha<;>rcases Av (vld b) with hb|hb<;>rcases Av (vld c) with hc|hc<;>
   simp only [ha,hb,hc,if_true,Ab,if_false] at h1 h2 ⊢
  ·exact to_L.tr _ _ _ h1 h2
  ·exact Ch6.tr _ _ _ h1 h2
 ·unfold ltN
  rcases Av (vld a) with ha|ha<;>rcases Av (vld b) with hb|hb<;>simp only [ha,hb,if_true,Ab,if_false]
  ·rcases to_L.tri (lbl a).reverse (lbl b).reverse with h|h|h
   ·exact .inl h
   ·exact .inr (.inl (Oz ha hb (List.reverse_inj.1 h)))
   ·exact .inr (.inr h)
  ·simp
  ·simp
  ·exact Ch6.tri a b
theorem Hb {a b:List UInt8}:I2 a b=0↔a=b:=by
 constructor
 ·intro h
  rcases Av (vld a) with ha|ha
  ·rcases Av (vld b) with hb|hb
   ·rw [Wl ha hb] at h
    have key:∀x y:List (List UInt8),Ak5 x y=0→x=y:=by
     intro x
     induction x with
     |nil=>intro y hy;cases y with
      |nil=>rfl
      |cons=>simp [Ak5,Sb] at hy
     |cons x xs ih=>intro y hy;cases y with
      |nil=>simp [Ak5,Sb] at hy
      |cons y ys=>
       simp only [Ak5,Sb] at hy ih
       by_cases e:x=y
       ·subst e
        rw [if_pos rfl] at hy
        simp only [As,Nat.add_lt_add_iff_right] at hy
        rw [ih ys hy]
       ·rw [if_neg e] at hy
        exact absurd (Iw.1 hy) e
    rw [im] at h
    exact Oz ha hb (List.reverse_inj.1 (key _ _ h))
   ·unfold I2 at h;simp [ha,hb] at h
  ·rcases Av (vld b) with hb|hb
   ·unfold I2 at h;simp [ha,hb] at h
   ·have e:I2 a b=cmpS a b:=by unfold I2;simp [ha,hb]
    rw [e] at h;exact Iw.1 h
 ·rintro rfl
  have h1:=Es a a
  have h2:¬I2 a a<0:=fun h=>to_N.irr a (h1.1 h)
  have key:∀x:List (List UInt8),Ak5 x x=0:=by
   intro x
   induction x with
   |nil=>rfl
   |cons x xs ih=>
    simp only [Ak5,Sb] at ih ⊢
    simp only [if_true,As,Nat.add_lt_add_iff_right]
    exact ih
  rcases Av (vld a) with ha|ha
  ·rw [Wl ha ha]
   rw [im];exact key _
  ·have e:I2 a a=cmpS a a:=by unfold I2;simp [ha]
   rw [e];exact Iw.2 rfl
end Go.X.G
/- Data of records: what the reference's functions give. -/
namespace Go.X.G
open Go Go.X
theorem t15 (t:Int):t=1∨t=2∨t=5∨t=6∨t=12∨t=15∨t=16∨t=28∨t=33∨t=39∨t=43∨t=46∨t=47∨t=48∨(t≠1∧t≠2∧t≠5∧t≠6∧t≠12∧t≠15∧t≠16∧t≠28∧t≠33∧t≠39∧t≠43∧t≠46∧t≠47∧t≠48):=by omega
def knw (t:Int):Bool:=decide (t=1)||decide (t=2)||decide (t=5)||decide (t=6)||decide (t=12)||decide (t=15)||decide (t=16)||decide (t=28)||decide (t=33)||decide (t=39)||decide (t=43)||decide (t=46)||decide (t=47)||decide (t=48)
def D7 (d:Dat):Bool:=d.v6||(decide (d.hi=0) && decide (d.lo<4294967296))
def inB (n most:Int):Bool:=decide (0≤n) && decide (n≤most)
def Iz (s:List UInt8):Bool:=decide (1≤s.length) && decide (s.length≤255)
def Hq (n:List UInt8):Bool:=vld n && decide (n[0]? ≠some 42)
def bit (set:Int) (t:Nat):Int:=set / 2 ^ t % 2
theorem Ib6 (x:Int):IntKind.u64.wrap ((BitVec.ofInt IntKind.u64.bits x &&& BitVec.ofInt IntKind.u64.bits 1).toNat:Int)=x % 2:=by
 have h2:(BitVec.ofInt 64 x &&& BitVec.ofInt 64 1).toNat=(BitVec.ofInt 64 x).toNat % 2:=by
  rw [BitVec.toNat_and]
  show (BitVec.ofInt 64 x).toNat &&& 1=_
  exact Nat.and_one_is_mod _
 show IntKind.u64.wrap (((BitVec.ofInt 64 x &&& BitVec.ofInt 64 1).toNat:Nat):Int)=_
 rw [h2,BitVec.toNat_ofInt]
 rw [Hd7]<;>omega
end Go.X.G
/- Data of records: bytes. -/
namespace Go.X.G
open Go Go.X
def Fr7 (set:Int) (i:Nat):Nat→Bool
 |0=>true
 |k+1=>(!decide (bit set i=1)||knw (i:Int)) && Fr7 set (i+1) k
def be (v:Int):Nat→List UInt8
 |0=>[]
 |n+1=>UInt8.ofNat (v / 256 ^ n % 256).toNat::be v n
theorem Ed (v:Int):∀n,(be v n).length=n
 |0=>rfl
 |n+1=>by simp [be,Ed v n]
theorem Ar6 (z:Int) (h1:0≤z) (h2:z<256):((UInt8.ofNat z.toNat).toNat:Int)=z:=by
 simp;omega
theorem Ff1 (v:Int) (j:Nat):v / 256 ^ j / 256=v / 256 ^ (j+1):=by
 rw [Int.pow_succ,Int.ediv_ediv_of_nonneg (Int.le_of_lt (Int.pow_pos (by decide)))]
theorem Hv9 (v:Int) (j:Nat) (h:0≤v):0≤v / 256 ^ j:=Int.ediv_nonneg h (Int.le_of_lt (Int.pow_pos (by decide)))
theorem Hw0 (v:Int) (j:Nat) (h:0≤v):v / 256 ^ j≤v:=Int.ediv_le_self _ h
end Go.X.G
/- Data of records: the wire form. -/
namespace Go.X.G
open Go Go.X
theorem ay {s:List UInt8} (h:Lp s=true):s.length≤63:=by
 unfold Lp at h
 simp at h
 rcases h with h|h
 ·simp [h]
 ·omega
theorem U8:∀(r:List UInt8) (f:Bool) (cur:List UInt8) (l:List (List UInt8)),spl f cur r=some l→∀x∈l,Lp x=true
 |[],f,cur,l,h=>by simp [spl] at h;subst h;simp
 |c::r,f,cur,l,h=>by
  simp only [spl] at h
  split at h
  ·split at h
   ·rename_i h2
    obtain ⟨m,hm,rfl⟩:=Aw.1 h
    intro x hx
    simp at hx
    rcases hx with rfl|hx
    ·exact h2.1
    ·exact U8 r _ _ _ hm x hx
   ·cases h
  ·exact U8 r _ _ _ h
theorem V7 (n:List UInt8):∀x∈lbl n,Lp x=true:=by
 unfold lbl nm
 split
 ·simp
 ·split
  ·cases h:spl true [] n with
   |none=>simp
   |some l=>simpa using U8 _ _ _ _ h
  ·simp
def wireL (l:List (List UInt8)):List UInt8:=l.flatMap fun x=>be (x.length:Int) 1++x
def Ij (n:List UInt8):List UInt8:=wireL (lbl n)++be 0 1
theorem Qv:∀(l:List (List UInt8)),(∀x∈l,Lp x=true)→(wireL l).length≤64*l.length
 |[],_=>by simp [wireL]
 |x::l,h=>by
  have h1:=ay (h x (by simp))
  have h2:=Qv l (fun y hy=>h y (by simp [hy]))
  simp only [wireL,Gd,Az,Ed,As] at h2 ⊢
  omega
theorem X0 (n:List UInt8):(Ij n).length≤20000:=by
 have h1:=Qv (lbl n) (V7 n)
 have h2:=Mz n
 simp only [Ij,Az,Ed]
 omega
def bmV (set:Int) (i:Nat):Nat→Int
 |0=>0
 |j+1=>bmV set i j*2+bit set (i*8+j)
theorem Er4 (set:Int) (t:Nat):0≤bit set t∧bit set t≤1:=by unfold bit;omega
theorem uh (set:Int) (i:Nat):∀j,0≤bmV set i j∧bmV set i j<2 ^ j
 |0=>by simp [bmV]
 |j+1=>by
  have h1:=uh set i j
  have h2:=Er4 set (i*8+j)
  simp only [bmV,Int.pow_succ]
  omega
def bmB (set:Int) (i:Nat):UInt8:=UInt8.ofNat (bmV set i 8).toNat
def bmL (set:Int):Nat→Nat
 |0=>0
 |i+1=>if bmV set i 8≠0 then i+1 else bmL set i
theorem Er2 (set:Int):∀i,bmL set i≤i
 |0=>Ac _
 |i+1=>by have:=Er2 set i;simp only [bmL];split<;>omega
def bmap (set:Int):List UInt8:=((List.range 8).map (bmB set)).take (bmL set 8)
theorem ug (set:Int):(bmap set).length≤8:=by simp [bmap];omega
def Py (d:Dat):List UInt8:=if d.v6 then be d.hi 8++be d.lo 8 else be d.lo 4
def usd (t:Int) (d:Dat):Dat:=
 if t=1∨t=28 then ⟨d.v6,d.hi,d.lo,[],[],[],0,0,0,0,0,0,0⟩
 else if t=2∨t=5∨t=12∨t=39 then ⟨false,0,0,d.host,[],[],0,0,0,0,0,0,0⟩
 else if t=6 then ⟨false,0,0,d.host,d.mail,[],d.a,d.b,d.c,d.d,d.e,0,0⟩
 else if t=15 then ⟨false,0,0,d.host,[],[],d.a,0,0,0,0,0,0⟩
 else if t=16 then ⟨false,0,0,[],[],d.text,0,0,0,0,0,0,0⟩
 else if t=33 then ⟨false,0,0,d.host,[],[],d.a,d.b,d.c,0,0,0,0⟩
 else if t=43∨t=48 then ⟨false,0,0,[],[],d.text,d.a,d.b,d.c,0,0,0,0⟩
 else if t=46 then ⟨false,0,0,d.host,[],d.text,d.a,d.b,d.c,d.d,d.e,d.f,0⟩
 else ⟨false,0,0,d.host,[],[],0,0,0,0,0,0,d.bits⟩
end Go.X.G
/- Data of records: which are valid. -/
namespace Go.X.G
open Go Go.X
def Dk (t:Int) (d:Dat):Bool:=
 if t=1 then D7 d && !d.v6
 else if t=28 then d.v6
 else if t=6 then Hq d.host && Hq d.mail && inB d.a 4294967295 && inB d.b 2147483647 && inB d.c 2147483647 && inB d.d 2147483647 && inB d.e 2147483647
 else if t=15 then Hq d.host && inB d.a 65535
 else if t=16 then decide (d.text.length≤255)
 else if t=33 then Hq d.host && inB d.a 65535 && inB d.b 65535 && inB d.c 65535
 else if t=43 then inB d.a 65535 && inB d.b 255 && inB d.c 255 && Iz d.text
 else if t=46 then knw d.a && decide (d.a≠46) && inB d.b 127 && inB d.c 2147483647 && inB d.d 4294967295 && inB d.e 4294967295 && inB d.f 65535 && Hq d.host && Iz d.text
 else if t=47 then vld d.host && decide (d.bits≠0) && Fr7 d.bits 0 64
 else if t=48 then (decide (d.a=256)||decide (d.a=257)) && decide (d.b=3) && inB d.c 255 && Iz d.text
 else Hq d.host
def Ej (t:Int) (d:Dat):Bool:=knw t && decide (usd t d=d) && Dk t d
def Jf (t:Int) (d:Dat):List UInt8:=
 if t=1∨t=28 then Py d
 else if t=6 then Ij d.host++Ij d.mail++be d.a 4++be d.b 4++be d.c 4++be d.d 4++be d.e 4
 else if t=15 then be d.a 2++Ij d.host
 else if t=16 then be (d.text.length:Int) 1++d.text
 else if t=33 then be d.a 2++be d.b 2++be d.c 2++Ij d.host
 else if t=43∨t=48 then be d.a 2++be d.b 1++be d.c 1++d.text
 else if t=46 then be d.a 2++be 253 1++be d.b 1++be d.c 4++be d.d 4++be d.e 4++be d.f 2++Ij d.host++d.text
 else if t=47 then Ij d.host++be 0 1++be ((bmap d.bits).length:Int) 1++bmap d.bits
 else Ij d.host
theorem knw_cases {t:Int} (h:knw t=true):t=1∨t=2∨t=5∨t=6∨t=12∨t=15∨t=16∨t=28∨t=33∨t=39∨t=43∨t=46∨t=47∨t=48:=by
 simp [knw] at h;omega
def Dd7 (t:Int) (a b:Dat):Int:=
 if Ej t a && Ej t b then cmpS (Jf t a) (Jf t b) else if Ej t a then -1 else if Ej t b then 1 else 0
end Go.X.G
/- Lists of records: what the reference's functions give. -/
namespace Go.X.G
open Go Go.X
def Lr (r:Rec):Bool:=vld r.name && knw r.typ && decide (0≤r.ttl) && decide (r.ttl≤2147483647) && Ej r.typ r.data
def qt (a b:Int):Int:=if a<b then -1 else if b<a then 1 else 0
def Sd (a b:Rec):Int:=
 if I2 a.name b.name≠0 then I2 a.name b.name else if qt a.typ b.typ≠0 then qt a.typ b.typ else Dd7 a.typ a.data b.data
def isK (n:List UInt8) (t:Int) (r:Rec):Bool:=decide (r.name=n) && decide (r.typ=t)
def findR (l:List Rec) (n:List UInt8) (t:Int):List Rec:=l.filter (isK n t)
theorem Dg6 (l:List Rec) (n:List UInt8) (t:Int) (hl:l.length≤1000000):S As5 3 [Af l, .s n, .i .i64 t]=some [Af (findR l n t)]:=by
 refine Hm9 (N:=l.length+1) rfl ?_
 have key:Dp6.ev S (l.length+1) [Af l, .s n, .i .i64 t]=some (.yld 0 [Af ([]++findR l n t)]):=by
  refine H0 l (fun i (g:List Rec)=>[Af g, .i .i64 (i:Int)]) (fun i g r=> .yld 0 [Af (g++findR r n t)]) (fun i g=>g.length≤i) [] rfl (C4 _) (by omega) (fun i g c r hd hi hc hI=> ?_) (fun g hI=> ?_)
  ·left
   by_cases h:isK n t c=true
   ·refine ⟨g++[c],?_,by simp;omega,by simp [findR,h]⟩
    simp [isK] at h
    simp (disch:=omega) only [Ax0,hc,h.1,h.2,xe,EVP,EV,simprocAttr]
   ·refine ⟨g,?_,by omega,by simp [findR,h]⟩
    simp [isK] at h
    by_cases h1:c.name=n
    ·simp (disch:=omega) only [Ax0,hc,h1,h h1,xe,EVP,EV,simprocAttr]
    ·by_cases h2:c.typ=t<;>simp (disch:=omega) only [Ax0,hc,h1,h2,xe,EVP,EV,simprocAttr]
  ·simp (disch:=omega) only [Ax0,xe,EVP,EV,simprocAttr]
   simp [findR,Out.goes]
 simp (disch:=omega) only [Ax0,key,xe,EVP,EV,simprocAttr]
theorem Ch0 (a b:List Rec) (ha:a.length≤1000000):S At5 2 [Af a,Af b]=some [.b (decide (a=b))]:=by
 refine Hr3 (N:=a.length+1) rfl ?_
 by_cases hl:a.length=b.length
 ·have key:Dr6.ev S (a.length+1) [Af a,Af b]=some (if a.drop 0=b.drop 0 then .yld 0 [] else .ret [.b false]):=by
   refine Ey a (fun i=>[.i .i64 (i:Int)]) (fun i r=>if r=b.drop i then .yld 0 [] else .ret [.b false]) rfl (by omega) (fun i c r hd hi hc=> ?_) ?_
   ·obtain ⟨y,r',hb,hd2,hd3⟩:∃y r',b[i]? =some y∧b.drop i=y::r'∧b.drop (i+1)=r':=⟨b[i]'(by omega),_,Ay (by omega),B9 (by omega),rfl⟩
    rw [hd2,hd3]
    by_cases h:c=y
    ·subst h
     left
     simp (disch:=omega) only [vh,hc,hb,xe,EVP,EV,simprocAttr]
     simp
    ·right
     simp (disch:=omega) only [vh,hc,hb,h,xe,EVP,EV,simprocAttr]
     simp [h,Out.goes]
   ·have hd2:b.drop a.length=[]:=Jc (by omega)
    rw [hd2]
    simp (disch:=omega) only [vh,xe,EVP,EV,simprocAttr]
    simp [Out.goes]
  simp only [D3] at key
  by_cases h:a=b
  ·rw [if_pos h] at key
   simp (disch:=omega) only [vh,key,xe,EVP,EV,simprocAttr]
   try simp [h]
  ·rw [if_neg h] at key
   simp (disch:=omega) only [vh,key,xe,EVP,EV,simprocAttr]
   try simp [h]
 ·have h:a≠b:=fun h=>hl (by rw [h])
  simp (disch:=omega) [vh,h,xe,EVP,EV,simprocAttr]
def dv (x:Rec):List Rec→List Rec
 |[]=>[x]
 |y::r=>if Sd y x<0 then y::dv x r else if Sd y x=0 then (if x.ttl<y.ttl then x::r else y::r) else x::y::r
def sortR (l:List Rec):List Rec:=l.foldl (fun acc x=>dv x acc) []
theorem insR_mem (x:Rec):∀(l:List Rec) (y:Rec),y∈dv x l→y=x∨y∈l
 |[],y,h=>by simp [dv] at h;exact .inl h
 |z::r,y,h=>by
  simp only [dv] at h
  split at h
  ·simp at h
   rcases h with h|h
   ·exact .inr (by simp [h])
   ·rcases insR_mem x r y h with h|h
    ·exact .inl h
    ·exact .inr (by simp [h])
  ·split at h
   ·split at h
    ·simp at h;rcases h with h|h
     ·exact .inl h
     ·exact .inr (by simp [h])
    ·exact .inr h
   ·simp at h;rcases h with h|h
    ·exact .inl h
    ·exact .inr (by simpa using h)
end Go.X.G
/- Zones: what the reference's check gives. -/
namespace Go.X.G
open Go Go.X
def D9 (n top:List UInt8):Bool:=decide (n≠top) && under n top
def Sx (l:List Rec) (n:List UInt8) (t:Int):Bool:=decide (0<(findR l n t).length)
def I4 (r x:Rec):Bool:=
 !decide (x.name=r.name)||(!(decide (x.typ=r.typ) && decide (r.typ≠46) && decide (x.ttl≠r.ttl)) && !(decide (x.typ=r.typ) && (decide (r.typ=6)||decide (r.typ=5)||decide (r.typ=39)) && decide (x≠r)) &&
  !(decide (r.typ=5) && decide (x.typ≠5) && decide (x.typ≠46) && decide (x.typ≠47)))
def Sk (z:Zone) (r:Rec):Bool:=z.recs.all (I4 r)
def Ir (z:Zone) (r x:Rec):Bool:=
 !(decide (x.typ=39) && D9 r.name x.name) && !(decide (x.typ=2) && D9 x.name z.origin && D9 r.name x.name && decide (r.typ≠1) && decide (r.typ≠28))
def Vh (t:Int):Bool:=decide (t=2)||decide (t=43)||decide (t=47)||decide (t=46)||decide (t=1)||decide (t=28)
def Mw (z:Zone) (r:Rec):Bool:=
 if (lbl r.name)[0]? =some [42]∧(r.typ=2∨r.typ=39) then false
 else z.recs.all (Ir z r) && (if D9 r.name z.origin && Sx z.recs r.name 2 then Vh r.typ else decide (r.typ≠43))
def Mq (z:Zone) (r:Rec):Bool:=under r.name z.origin && !(decide (r.typ=6) && decide (r.name≠z.origin)) && Sk z r && Mw z r
def G1 (z:Zone):Int:=
 if vld z.origin=false then 2
 else if 2048<z.recs.length then 9
 else if z.recs.all (fun r=>decide ((findR z.recs r.name r.typ).length≤64))=false then 9
 else if z.recs.all Lr=false then 5
 else if z.recs≠sortR z.recs then 7
 else if (findR z.recs z.origin 6).length≠1∨Sx z.recs z.origin 2=false then 13
 else if z.recs.all (Mq z)=false then 13
 else 0
end Go.X.G
/- The order of records; what a checked zone is like. -/
namespace Go.X.G
open Go Go.X
theorem TO.prod {α β:Type} {l1:α→α→Prop} {l2:β→β→Prop} (h1:TO l1) (h2:TO l2):TO (fun p q:α×β=>l1 p.1 q.1∨(p.1=q.1∧l2 p.2 q.2)) where
 irr:=fun p h=>by
  rcases h with h|⟨_,h⟩
  ·exact h1.irr _ h
  ·exact h2.irr _ h
 tr:=fun p q r a b=>by
  rcases a with a|⟨a,a'⟩<;>rcases b with b|⟨b,b'⟩
  ·exact .inl (h1.tr _ _ _ a b)
  ·exact .inl (b▸a)
  ·exact .inl (a▸b)
  ·exact .inr ⟨a.trans b,h2.tr _ _ _ a' b'⟩
 tri:=fun p q=>by
  rcases h1.tri p.1 q.1 with a|a|a
  ·exact .inl (.inl a)
  ·rcases h2.tri p.2 q.2 with b|b|b
   ·exact .inl (.inr ⟨a,b⟩)
   ·exact .inr (.inl (Prod.ext a b))
   ·exact .inr (.inr (.inr ⟨a.symm,b⟩))
  ·exact .inr (.inr (.inl a))
theorem Gw1:TO (fun a b:Int=>a<b):=⟨fun a h=>by omega,fun a b c h1 h2=>by omega,fun a b=>by omega⟩
theorem Wm (a b:Int):qt a b<0↔a<b:=by unfold qt;split<;>(try split)<;>omega
theorem Hc (a b:Int):qt a b=0↔a=b:=by unfold qt;split<;>(try split)<;>omega
abbrev Key:=List UInt8×Int×List UInt8
abbrev ltK:Key→Key→Prop:=fun p q=>ltN p.1 q.1∨(p.1=q.1∧(p.2.1<q.2.1∨(p.2.1=q.2.1∧ltB p.2.2 q.2.2)))
theorem to_K:TO ltK:=to_N.prod (Gw1.prod Ch6)
def Ch7 (r:Rec):Key:=(r.name,r.typ,Jf r.typ r.data)
abbrev ltR (a b:Rec):Prop:=ltK (Ch7 a) (Ch7 b)
theorem Mp {r:Rec} (h:Lr r=true):Ej r.typ r.data=true:=by
 unfold Lr at h
 simp only [Aq] at h
 exact h.2
theorem X1 {r:Rec} (h:Lr r=true):vld r.name=true:=by
 unfold Lr at h
 simp only [Aq] at h
 exact h.1.1.1.1
theorem Dt0 {t:Int} {a b:Dat} (ha:Ej t a=true) (hb:Ej t b=true):Dd7 t a b=cmpS (Jf t a) (Jf t b):=by
 unfold Dd7;rw [ha,hb];rfl
theorem q7 {a b:Rec} (ha:Lr a=true) (hb:Lr b=true):Sd a b<0↔ltR a b:=by
 unfold Sd ltR ltK Ch7
 simp only
 by_cases h1:I2 a.name b.name=0
 ·rw [if_neg (by simp [h1])]
  have e1:=Hb.1 h1
  have n1:¬ltN a.name b.name:=by rw [e1];exact to_N.irr _
  by_cases h2:qt a.typ b.typ=0
  ·rw [if_neg (by simp [h2])]
   have e2:=(Hc _ _).1 h2
   have ha':=Mp ha
   have hb':=Mp hb
   rw [e2] at ha' ⊢
   rw [Dt0 ha' hb',P8]
   constructor
   ·intro h;exact .inr ⟨e1, .inr ⟨rfl,h⟩⟩
   ·rintro (h|⟨_,h|⟨_,h⟩⟩)
    ·exact absurd h n1
    ·omega
    ·exact h
  ·rw [if_pos h2,Wm]
   have e2:a.typ≠b.typ:=fun e=>h2 ((Hc _ _).2 e)
   constructor
   ·intro h;exact .inr ⟨e1, .inl h⟩
   ·rintro (h|⟨_,h|⟨h,_⟩⟩)
    ·exact absurd h n1
    ·exact h
    ·exact absurd h e2
 ·rw [if_pos h1,Es]
  have e1:a.name≠b.name:=fun e=>h1 (Hb.2 e)
  constructor
  ·intro h;exact .inl h
  ·rintro (h|⟨h,_⟩)
   ·exact h
   ·exact absurd h e1
theorem br {a b:Rec} (ha:Lr a=true) (hb:Lr b=true):Sd a b=0↔Ch7 a=Ch7 b:=by
 unfold Sd Ch7
 by_cases h1:I2 a.name b.name=0
 ·rw [if_neg (by simp [h1])]
  have e1:=Hb.1 h1
  by_cases h2:qt a.typ b.typ=0
  ·rw [if_neg (by simp [h2])]
   have e2:=(Hc _ _).1 h2
   have ha':=Mp ha
   have hb':=Mp hb
   rw [e2] at ha' ⊢
   rw [Dt0 ha' hb',Iw]
   simp [e1]
  ·rw [if_pos h2]
   have e2:a.typ≠b.typ:=fun e=>h2 ((Hc _ _).2 e)
   constructor
   ·intro h;exact absurd h h2
   ·intro h;injection h with _ h;injection h with h _;exact absurd h e2
 ·rw [if_pos h1]
  have e1:a.name≠b.name:=fun e=>h1 (Hb.2 e)
  constructor
  ·intro h;exact absurd h h1
  ·intro h;injection h with h _;exact absurd h e1
theorem Rz {x:Rec} (hx:Lr x=true):∀(l:List Rec),(∀r∈l,Lr r=true)→l.Pairwise ltR→(dv x l).Pairwise ltR
 |[],_,_=>by simp [dv]
 |y::r,hv,h=>by
  obtain ⟨h1,h2⟩:=An.1 h
  have hy:=hv y (.head _)
  have ih:=Rz hx r (fun w hw=>hv w (.tail _ hw)) h2
  simp only [dv]
  by_cases c:Sd y x<0
  ·rw [if_pos c]
   refine An.2 ⟨fun w hw=> ?_,ih⟩
   rcases insR_mem x r w hw with rfl|hw
   ·exact (q7 hy hx).1 c
   ·exact h1 w hw
  ·rw [if_neg c]
   by_cases e:Sd y x=0
   ·rw [if_pos e]
    split
    ·have ke:=(br hy hx).1 e
     refine An.2 ⟨fun w hw=> ?_,h2⟩
     have:=h1 w hw
     show ltK (Ch7 x) (Ch7 w)
     rw [←ke];exact this
    ·exact h
   ·rw [if_neg e]
    have hxy:ltR x y:=by
     rcases to_K.tri (Ch7 x) (Ch7 y) with q|q|q
     ·exact q
     ·exact absurd ((br hy hx).2 q.symm) e
     ·exact absurd ((q7 hy hx).2 q) c
    refine An.2 ⟨fun w hw=> ?_,h⟩
    rcases Ah.1 hw with rfl|hw
    ·exact hxy
    ·exact to_K.tr _ _ _ hxy (h1 w hw)
theorem Or (l:List Rec) (hv:∀r∈l,Lr r=true):(sortR l).Pairwise ltR∧∀r∈sortR l,r∈l:=by
 have:∀(l a:List Rec),(∀r∈l,Lr r=true)→(∀r∈a,Lr r=true)→a.Pairwise ltR→(l.foldl (fun acc x=>dv x acc) a).Pairwise ltR∧∀r∈l.foldl (fun acc x=>dv x acc) a,r∈a∨r∈l:=by
  intro l
  induction l with
  |nil=>intro a _ _ h;exact ⟨h,fun r hr=> .inl hr⟩
  |cons x r ih=>
   intro a h1 h2 h3
   have hx:=h1 x (.head _)
   obtain ⟨g1,g2⟩:=ih (dv x a) (fun w hw=>h1 w (.tail _ hw)) (fun w hw=>by
    rcases insR_mem x a w hw with rfl|hw
    ·exact hx
    ·exact h2 w hw) (Rz hx a h2 h3)
   refine ⟨g1,fun w hw=> ?_⟩
   rcases g2 w hw with hw|hw
   ·rcases insR_mem x a w hw with rfl|hw
    ·exact .inr (.head _)
    ·exact .inl hw
   ·exact .inr (.tail _ hw)
 obtain ⟨h1,h2⟩:=this l [] hv (fun r hr=>by cases hr) .nil
 exact ⟨h1,fun r hr=>(h2 r hr).resolve_left (by simp)⟩
structure ZOk (z:Zone):Prop where
 origin:vld z.origin=true
 small:z.recs.length≤2048
 valid:∀r∈z.recs,Lr r=true
 rising:z.recs.Pairwise ltR
 soa:(findR z.recs z.origin 6).length=1
 ns:Sx z.recs z.origin 2=true
 recs:∀r∈z.recs,Mq z r=true
theorem R6 {z:Zone} (h:G1 z=0):ZOk z:=by
 unfold G1 at h
 split at h
 ·cases h
 ·rename_i h1
  split at h
  ·cases h
  ·rename_i h2
   split at h
   ·cases h
   ·split at h
    ·cases h
    ·rename_i h4
     split at h
     ·cases h
     ·rename_i h5
      split at h
      ·cases h
      ·rename_i h6
       split at h
       ·cases h
       ·rename_i h7
        simp only [Dm,Bj] at h1 h4 h7
        simp only [not_or,ne_eq,En,Dm] at h5 h6
        refine ⟨h1,by omega,h4,?_,h6.1,h6.2,h7⟩
        rw [h5]
        exact (Or z.recs h4).1
theorem ZOk.beside {z:Zone} (h:ZOk z) {r x:Rec} (hr:r∈z.recs) (hx:x∈z.recs):I4 r x=true:=by
 have:=h.recs r hr
 unfold Mq at this
 simp only [Aq] at this
 have h2:=this.1.2
 unfold Sk at h2
 exact Bj.1 h2 x hx
theorem ZOk.under {z:Zone} (h:ZOk z) {r:Rec} (hr:r∈z.recs):under r.name z.origin=true:=by
 have:=h.recs r hr
 unfold Mq at this
 simp only [Aq] at this
 exact this.1.1.1
theorem ZOk.single {z:Zone} (h:ZOk z) (n:List UInt8) (t:Int) (ht:t=6∨t=5∨t=39):(findR z.recs n t).length≤1:=by
 have hp:(findR z.recs n t).Pairwise ltR:=h.rising.filter _
 have hm:∀x∈findR z.recs n t,x∈z.recs∧x.name=n∧x.typ=t:=fun x hx=>by
  obtain ⟨h1,h2⟩:=Bp.1 hx
  simp only [isK,Aq,decide_eq_true_eq] at h2
  exact ⟨h1,h2.1,h2.2⟩
 generalize findR z.recs n t=l at*
 match l,hp,hm with
 |[],_,_=>simp
 |[_],_,_=>simp
 |a::b::r,hp,hm=>
  exfalso
  have hab:ltR a b:=(An.1 hp).1 b (.head _)
  obtain ⟨a1,a2,a3⟩:=hm a (.head _)
  obtain ⟨b1,b2,b3⟩:=hm b (.tail _ (.head _))
  have hb:=h.beside a1 b1
  have e:b=a:=by
   unfold I4 at hb
   rw [a2,a3,b2,b3] at hb
   have ht':(decide (t=6)||decide (t=5)||decide (t=39))=true:=by rcases ht with h|h|h<;>simp [h]
   rw [ht'] at hb
   simp only [decide_true,J4,J5,J6,Bool.true_and,Aq,A3,decide_eq_false_iff_not,ne_eq,En] at hb
   exact hb.1.2
  rw [e] at hab
  exact to_K.irr _ hab
end Go.X.G
/- Sorted lists of names, each once. -/
namespace Go.X.G
open Go Go.X
def Pf {α:Type} (e:α→α→Bool):α→List α→List α
 |_,[]=>[]
 |p,c::r=>if e c p=true then Pf e c r else c::Pf e c r
def cpt {α:Type} (e:α→α→Bool):List α→List α
 |[]=>[]
 |x::r=>x::Pf e x r
theorem bn {α:Type} (e:α→α→Bool) (c:α):∀(r:List α) (p:α),Pf e p (r++[c])=Pf e p r++(if e c ((p::r).getLast (by simp))=true then [] else [c])
 |[],p=>by
  simp only [Cy,Pf,List.getLast_singleton]
  rfl
 |x::r,p=>by
  have ih:=bn e c r x
  simp only [Bt,Pf,List.getLast_cons_cons]
  split
  ·exact ih
  ·rw [ih];rfl
theorem Lh {α:Type} (e:α→α→Bool) (c:α) (l:List α) (h:l≠[]):cpt e (l++[c])=cpt e l++(if e c (l.getLast h)=true then [] else [c]):=by
 cases l with
 |nil=>exact absurd rfl h
 |cons x r=>
  show x::Pf e x (r++[c])=_
  rw [bn];rfl
theorem qh {α:Type} (e:α→α→Bool):∀(r:List α) (p:α),(Pf e p r).length≤r.length
 |[],_=>by simp [Pf]
 |c::r,p=>by
  have:=qh e r c
  simp only [Pf]
  split<;>simp<;>omega
theorem R3 {α:Type} (e:α→α→Bool) (l:List α):(cpt e l).length≤l.length:=by
 cases l with
 |nil=>simp [cpt]
 |cons x r=>have:=qh e r x;simp [cpt];exact this
theorem Wg {α:Type} (e:α→α→Bool):∀(r:List α) (p:α),∀x∈Pf e p r,x∈r
 |[],_,x,h=>by simp [Pf] at h
 |c::r,p,x,h=>by
  simp only [Pf] at h
  split at h
  ·exact .tail _ (Wg e r c x h)
  ·rcases Ah.1 h with rfl|h
   ·exact .head _
   ·exact .tail _ (Wg e r c x h)
theorem Ff3 {α:Type} (e:α→α→Bool) (l:List α):∀x∈cpt e l,x∈l:=by
 cases l with
 |nil=>intro x h;simp [cpt] at h
 |cons y r=>
  intro x h
  rcases Ah.1 (show x∈y::Pf e y r from h) with rfl|h
  ·exact .head _
  ·exact .tail _ (Wg e r y x h)
abbrev eqs {α:Type} [DecidableEq α]:α→α→Bool:=fun a b=>decide (a=b)
theorem cptG_mem {α:Type} [DecidableEq α]:∀(r:List α) (p x:α),x∈r→x=p∨x∈Pf eqs p r
 |[],_,x,h=>by simp at h
 |c::r,p,x,h=>by
  simp only [Pf]
  by_cases hc:c=p
  ·subst hc
   rw [if_pos (by simp [eqs])]
   rcases Ah.1 h with rfl|h
   ·exact .inl rfl
   ·exact cptG_mem r c x h
  ·rw [if_neg (by simp [eqs,hc])]
   right
   rcases Ah.1 h with rfl|h
   ·exact .head _
   ·rcases cptG_mem r c x h with rfl|h
    ·exact .head _
    ·exact .tail _ h
theorem Ff4 {α:Type} [DecidableEq α] (l:List α) (x:α):x∈cpt eqs l↔x∈l:=by
 refine ⟨Ff3 _ l x,fun h=> ?_⟩
 cases l with
 |nil=>simp at h
 |cons y r=>
  rcases Ah.1 h with rfl|h
  ·exact .head _
  ·rcases cptG_mem r y x h with rfl|h
   ·exact .head _
   ·exact .tail _ h
theorem R4 {α:Type} [DecidableEq α] {lt:α→α→Prop} (ht:TO lt):∀(r:List α) (p:α),(p::r).Pairwise (fun a b=>¬lt b a)→(p::Pf eqs p r).Pairwise lt
 |[],p,_=>by simp [Pf]
 |c::r,p,h=>by
  rw [An] at h
  have ih:=R4 ht r c h.2
  simp only [Pf]
  by_cases hc:c=p
  ·subst hc
   rw [if_pos (by simp [eqs])]
   exact ih
  ·rw [if_neg (by simp [eqs,hc])]
   rw [An]
   refine ⟨fun x hx=> ?_,ih⟩
   have hpc:lt p c:=by
    rcases ht.tri p c with h1|h1|h1
    ·exact h1
    ·exact absurd h1.symm hc
    ·exact absurd h1 (h.1 c (.head _))
   rcases Ah.1 hx with rfl|hx
   ·exact hpc
   ·exact ht.tr _ _ _ hpc ((An.1 ih).1 x hx)
theorem Ak2 {α:Type} [DecidableEq α] {lt:α→α→Prop} (ht:TO lt) (l:List α) (h:l.Pairwise (fun a b=>¬lt b a)):(cpt eqs l).Pairwise lt:=by
 cases l with
 |nil=>simp [cpt]
 |cons x r=>exact R4 ht r x h
theorem Q0 {α:Type} {lt:α→α→Prop} (ht:TO lt):∀(a b:List α),a.Pairwise lt→b.Pairwise lt→(∀x,x∈a↔x∈b)→a=b
 |[],[],_,_,_=>rfl
 |[],y::b,_,_,h=>absurd ((h y).2 (.head _)) (by simp)
 |x::a,[],_,_,h=>absurd ((h x).1 (.head _)) (by simp)
 |x::a,y::b,ha,hb,h=>by
  rw [An] at ha hb
  have hxy:x=y:=by
   rcases Ah.1 ((h x).1 (.head _)) with h1|h1
   ·exact h1
   ·rcases Ah.1 ((h y).2 (.head _)) with h2|h2
    ·exact h2.symm
    ·exact absurd (hb.1 x h1) (ht.asym (ha.1 y h2))
  subst hxy
  rw [Q0 ht a b ha.2 hb.2 fun z=> ?_]
  constructor
  ·intro hz
   rcases Ah.1 ((h z).1 (.tail _ hz)) with rfl|h1
   ·exact absurd (ha.1 z hz) (ht.irr z)
   ·exact h1
  ·intro hz
   rcases Ah.1 ((h z).2 (.tail _ hz)) with rfl|h1
   ·exact absurd (hb.1 z hz) (ht.irr z)
   ·exact h1
def setN (l:List (List UInt8)):List (List UInt8):=cpt eqs (l.mergeSort fun x y=> !decide (I2 y x<0))
theorem Fx2 (l:List (List UInt8)):(l.mergeSort fun x y=> !decide (I2 y x<0)).Pairwise (fun a b=>¬ltN b a):=by
 have:=List.pairwise_mergeSort (le:=fun x y:List UInt8=> !decide (I2 y x<0)) (fun a b c h1 h2=>by
  simp only [A3,decide_eq_false_iff_not,Es] at h1 h2 ⊢
  exact to_N.ntr h2 h1) (fun a b=>by
  simp only [Am,A3,decide_eq_false_iff_not,Es]
  rcases to_N.tri a b with h|h|h
  ·exact .inl (to_N.asym h)
  ·subst h;exact .inl (to_N.irr a)
  ·exact .inr (to_N.asym h)) l
 refine this.imp fun {a b} h=> ?_
 simpa only [A3,decide_eq_false_iff_not,Es] using h
theorem L9 (l:List (List UInt8)):(setN l).Pairwise ltN:=Ak2 to_N _ (Fx2 l)
theorem Jm (l:List (List UInt8)) (x:List UInt8):x∈setN l↔x∈l:=by
 unfold setN
 rw [Ff4]
 exact (List.mergeSort_perm _ _).mem_iff
theorem Vq (l:List (List UInt8)):(setN l).length≤l.length:=by
 have:=R3 eqs (l.mergeSort fun x y=> !decide (I2 y x<0))
 rw [dy] at this
 exact this
end Go.X.G
/- Names on the way up; delegations above a name. -/
namespace Go.X.G
open Go Go.X
def upN (o n:List UInt8):List (List UInt8):=(List.range ((lbl n).length - (lbl o).length+1)).map fun k=>jn ((lbl n).drop k)
theorem Qy {o n x:List UInt8} (h:under n o=true):x∈upN o n↔under n x=true∧under x o=true:=by
 obtain ⟨hn,ho,hs⟩:=Ct.1 h
 have hle:=hs.length_le
 rw [Ic] at hs
 unfold upN
 rw [Cs]
 constructor
 ·rintro ⟨k,hk,rfl⟩
  rw [E5] at hk
  obtain ⟨v1,v2⟩:=Pm hn k
  refine ⟨Ct.2 ⟨hn,v1,by rw [v2];exact List.drop_suffix _ _⟩,Ct.2 ⟨v1,ho,?_⟩⟩
  rw [v2,hs]
  have:(lbl n).length - (lbl o).length=k+((lbl n).length - (lbl o).length - k):=by omega
  rw [this,←C5]
  exact List.drop_suffix _ _
 ·rintro ⟨h1,h2⟩
  obtain ⟨_,hx,h3⟩:=Ct.1 h1
  obtain ⟨_,_,h4⟩:=Ct.1 h2
  have l1:=h3.length_le
  have l2:=h4.length_le
  rw [Ic] at h3
  refine ⟨(lbl n).length - (lbl x).length,?_,?_⟩
  ·rw [E5];omega
  ·rw [←h3];exact (Qx hx).symm
theorem dt (o n:List UInt8):(upN o n).length≤256:=by
 have:=Mz n
 simp [upN];omega
theorem U6 {o n:List UInt8} {k:Nat} (hk:k≤(lbl n).length - (lbl o).length):(upN o n)[k]? =some (jn ((lbl n).drop k)):=by
 unfold upN
 rw [By,Cj (by omega)];rfl
theorem Bw8 {n:List UInt8} (h:vld n=true):jn ((lbl n).drop 0)=n:=by rw [D3];exact (Qx h).symm
theorem ln {o n:List UInt8} (h:under n o=true) {k:Nat} (hk:k≤(lbl n).length - (lbl o).length):jn ((lbl n).drop k)=o↔k=(lbl n).length - (lbl o).length:=by
 obtain ⟨hn,ho,hs⟩:=Ct.1 h
 have hle:=hs.length_le
 rw [Ic] at hs
 obtain ⟨v1,v2⟩:=Pm hn k
 constructor
 ·intro e
  have:=congrArg (fun x=>(lbl x).length) e
  simp only [v2,Bs] at this
  omega
 ·rintro rfl
  rw [←hs];exact (Qx ho).symm
theorem Dh9 {o n:List UInt8} (h:under n o=true) {k:Nat} (hk:k<(lbl n).length - (lbl o).length):Vr (jn ((lbl n).drop k))=jn ((lbl n).drop (k+1))∧qk (jn ((lbl n).drop k))=true:=by
 obtain ⟨hn,ho,hs⟩:=Ct.1 h
 obtain ⟨v1,v2⟩:=Pm hn k
 have hne:jn ((lbl n).drop k)≠[46]:=by
  intro e
  have:=(Fy5 v1).2 e
  rw [v2] at this
  have:=congrArg List.length this
  simp at this
  omega
 unfold Vr qk
 rw [if_pos ⟨v1,hne⟩,v2,C5]
 exact ⟨rfl,by simp [v1,hne]⟩
theorem Ww (l:List (List UInt8)) (i j:Nat) (h:i<j) (hj:j≤l.length):(flat (l.drop j)).length<(flat (l.drop i)).length:=by
 have e:l.drop i=(l.drop i).take (j - i)++l.drop j:=by
  have:=(Bl (j - i) (l.drop i)).symm
  rw [C5,show i+(j - i)=j by omega] at this
  exact this
 rw [e,Wx,Az]
 have:0<(flat ((l.drop i).take (j - i))).length:=by
  cases hc:(l.drop i).take (j - i) with
  |nil=>
   have:=congrArg List.length hc
   simp at this;omega
  |cons x r=>simp [flat];omega
 omega
theorem Cg1 {n a b:List UInt8} (ha:under n a=true) (hb:under n b=true):a.length<b.length↔(lbl a).length<(lbl b).length:=by
 have key:∀{a b:List UInt8},under n a=true→under n b=true→(lbl a).length<(lbl b).length→a.length<b.length:=by
  intro a b ha hb hl
  obtain ⟨hn,va,sa⟩:=Ct.1 ha
  obtain ⟨_,vb,sb⟩:=Ct.1 hb
  have la:=sa.length_le
  have lb:=sb.length_le
  rw [Ic] at sa sb
  rw [Qx va,Qx vb]
  have hbne:lbl b≠[]:=fun e=>by rw [e] at hl;simp at hl
  have e2:jn (lbl b)=flat (lbl b):=by unfold jn;rw [if_neg hbne]
  rw [e2]
  by_cases ha0:lbl a=[]
  ·have e1:jn (lbl a)=[46]:=by unfold jn;rw [if_pos ha0]
   rw [e1]
   have:=I0 (lm vb) hbne
   simp;omega
  ·have e1:jn (lbl a)=flat (lbl a):=by unfold jn;rw [if_neg ha0]
   rw [e1,sa,sb]
   exact Ww _ _ _ (by omega) (by omega)
 constructor
 ·intro h
  rcases Nat.lt_or_ge (lbl a).length (lbl b).length with h1|h1
  ·exact h1
  ·rcases Nat.lt_or_eq_of_le h1 with h2|h2
   ·have:=key hb ha h2;omega
   ·obtain ⟨_,va,sa⟩:=Ct.1 ha
    obtain ⟨_,vb,sb⟩:=Ct.1 hb
    rw [Ic] at sa sb
    have:a=b:=Oz va vb (by rw [sa,sb,h2])
    subst this;omega
 ·exact key ha hb
def Dn (z:Zone) (r:Rec):Bool:=decide (r.typ=2) && D9 r.name z.origin
def Ft7 (z:Zone) (n:List UInt8):List UInt8→List Rec→List UInt8
 |b,[]=>b
 |b,r::rs=>Ft7 z n (if Dn z r && under n r.name && (decide (b=[])||decide ((lbl r.name).length<(lbl b).length)) then r.name else b) rs
def Dd4 (z:Zone) (n:List UInt8):List UInt8:=Ft7 z n [] z.recs
def Wj (z:Zone) (n:List UInt8):Bool:=z.recs.any fun r=>Dn z r && decide (r.name≠n) && under n r.name
theorem vt {a b:List UInt8} (h1:under a b=true) (h2:(lbl a).length≤(lbl b).length):a=b:=by
 obtain ⟨va,vb,s⟩:=Ct.1 h1
 exact Oz va vb (s.eq_of_length_le h2).symm
def Ft9 (z:Zone):List (List UInt8):=(z.recs.filter fun r=>under r.name z.origin && !Wj z r.name).flatMap fun r=>upN z.origin r.name
def namesN (z:Zone):List (List UInt8):=setN (Ft9 z)
def Ds0 (z:Zone) (x:List UInt8):Prop:=∃r∈z.recs,under r.name z.origin=true∧Wj z r.name=false∧under r.name x=true∧under x z.origin=true
theorem u9 (z:Zone) (x:List UInt8):x∈Ft9 z↔Ds0 z x:=by
 unfold Ft9 Ds0
 simp only [List.mem_flatMap,Bp,Aq,A3]
 constructor
 ·rintro ⟨r,⟨hr,h1,h2⟩,h3⟩
  obtain ⟨h4,h5⟩:=(Qy h1).1 h3
  exact ⟨r,hr,h1,h2,h4,h5⟩
 ·rintro ⟨r,hr,h1,h2,h4,h5⟩
  exact ⟨r,⟨hr,h1,h2⟩,(Qy h1).2 ⟨h4,h5⟩⟩
theorem Dx9 (z:Zone) (l:List (List UInt8)) (h:∀x,x∈l↔Ds0 z x):setN l=namesN z:=
 Q0 to_N _ _ (L9 _) (L9 _) fun x=>by rw [Jm,h,namesN,Jm,u9]
theorem y1 (z:Zone) (x:List UInt8):x∈namesN z↔Ds0 z x:=by
 unfold namesN;rw [Jm,u9]
end Go.X.G
/- Zones by the names of their records: groups of a sorted list, in plain words. -/
namespace Go.X.G
open Go Go.X
theorem Bk6 {α:Type} {lt:α→α→Prop}:∀(p q:List α),p<+:q→p≠q→lex lt p q
 |[],[],_,h=>absurd rfl h
 |[],_::_,_,_=>trivial
 |a::p,[],h,_=>by simp at h
 |a::p,b::q,h,hne=>by
  obtain ⟨rfl,hpq⟩:=K7.1 h
  exact .inr ⟨rfl,Bk6 p q hpq fun e=>hne (by rw [e])⟩
theorem Bk7 {α:Type} {lt:α→α→Prop} (ht:TO lt):∀(p q x:List α),p<+:q→¬lex lt x p→¬lex lt q x→p<+:x
 |[],_,_,_,_,_=>List.nil_prefix
 |a::p,[],_,h,_,_=>by simp at h
 |a::p,b::q,[],_,h,_=>absurd trivial h
 |a::p,b::q,c::x,h,h1,h2=>by
  obtain ⟨rfl,hpq⟩:=K7.1 h
  simp only [lex,not_or,not_and] at h1 h2
  have e:a=c:=by
   rcases ht.tri a c with k|k|k
   ·exact absurd k h2.1
   ·exact k
   ·exact absurd k h1.1
  subst e
  exact K7.2 ⟨rfl,Bk7 ht p q x hpq (h1.2 rfl) (h2.2 rfl)⟩
theorem Fx7 {a b:List UInt8} (ha:vld a=true) (hb:vld b=true):ltN a b↔ltL (lbl a).reverse (lbl b).reverse:=by
 unfold ltN;rw [if_pos ha,if_pos hb]
theorem X2 {n top:List UInt8} (h:under n top=true):(lbl top).reverse<+:(lbl n).reverse:=List.reverse_prefix.2 (Ct.1 h).2.2
theorem Cm7 {n top:List UInt8} (h:under n top=true) (hne:n≠top):ltN top n:=by
 obtain ⟨h1,h2,h3⟩:=Ct.1 h
 rw [Fx7 h2 h1]
 refine Bk6 _ _ (X2 h) fun e=>hne ?_
 exact (Oz h2 h1 (List.reverse_inj.1 e)).symm
theorem Ay6 {d x n:List UInt8} (hx:vld x=true) (h:under n d=true) (h1:¬ltN x d) (h2:¬ltN n x):under x d=true:=by
 obtain ⟨k1,k2,k3⟩:=Ct.1 h
 rw [Fx7 hx k2] at h1
 rw [Fx7 k1 hx] at h2
 exact Ct.2 ⟨hx,k2,List.reverse_prefix.1 (Bk7 Ch6 _ _ _ (X2 h) h1 h2)⟩
theorem Aw2 {a b c:List UInt8} (h1:under a b=true) (h2:under b c=true):under a c=true:=by
 obtain ⟨a1,a2,a3⟩:=Ct.1 h1
 obtain ⟨b1,b2,b3⟩:=Ct.1 h2
 exact Ct.2 ⟨a1,b2,b3.trans a3⟩
def Ss (p:List Rec):List Rec→List (List Rec)
 |[]=>[]
 |x::r=>if (match r with|[]=>true|y::_=> !decide (y.name=x.name))=true then (p++[x])::Ss [] r else Ss (p++[x]) r
def grp (l:List Rec):List (List Rec):=Ss [] l
def nmG (g:List Rec):List UInt8:=match g with|[]=>[]|x::_=>x.name
theorem ah (n:List UInt8):∀(r p:List Rec) (x:Rec),x.name=n→(∀y∈p,y.name=n)→∃g l',x::r=g++l'∧g≠[]∧(∀y∈g,y.name=n)∧(∀y,l'.head? =some y→y.name≠n)∧Ss p (x::r)=(p++g)::grp l'
 |[],p,x,hx,hp=>⟨[x],[],rfl,by simp,by simpa using hx,by simp,rfl⟩
 |y::r,p,x,hx,hp=>by
  by_cases h:y.name=x.name
  ·obtain ⟨g,l',h1,h2,h3,h4,h5⟩:=ah n r (p++[x]) y (by rw [h,hx]) (fun w hw=>by
    rcases Br.1 hw with hw|hw
    ·exact hp w hw
    ·have:w=x:=by simpa using hw
     rw [this,hx])
   refine ⟨x::g,l',by rw [h1];rfl,by simp,fun w hw=> ?_,h4,?_⟩
   ·rcases Ah.1 hw with rfl|hw
    ·exact hx
    ·exact h3 w hw
   ·rw [Ss,if_neg (by simp [h]),h5]
    simp
  ·refine ⟨[x],y::r,rfl,by simp,by simpa using hx,fun w hw=> ?_,?_⟩
   ·simp at hw;subst hw;rw [←hx];exact h
   ·rw [Ss,if_pos (by simp [h])]
    rfl
theorem P3 (x:Rec) (r:List Rec):∃g l',x::r=g++l'∧g≠[]∧(∀y∈g,y.name=x.name)∧(∀y,l'.head? =some y→y.name≠x.name)∧grp (x::r)=g::grp l':=by
 obtain ⟨g,l',h1,h2,h3,h4,h5⟩:=ah x.name r [] x rfl (by simp)
 exact ⟨g,l',h1,h2,h3,h4,by rw [grp,h5];rfl⟩
theorem Dn1 {g:List Rec} {n:List UInt8} (h:g≠[]) (h2:∀y∈g,y.name=n):nmG g=n:=by
 cases g with
 |nil=>exact absurd rfl h
 |cons x r=>exact h2 x (.head _)
abbrev Gf0 (l:List Rec):Prop:=l.Pairwise fun a b=>¬ltN b.name a.name
def Fp (g:List Rec) (t:Int):Bool:=g.any fun r=>decide (r.typ=t)
def Ib (g:List Rec) (ts:List Int):Bool:=g.all fun r=>decide (r.typ∈ts)
def S7 (p:Rec):List Rec→Bool
 |[]=>true
 |x::r=>(!decide (x.typ=p.typ)||(!(decide (x.typ=6)||decide (x.typ=5)||decide (x.typ=39)) && (decide (x.typ=46)||decide (x.ttl=p.ttl)))) && S7 x r
def Ch5 (g:List Rec):Bool:=match g with|[]=>true|x::r=>S7 x r
def propG (o:List UInt8) (g:List Rec) (cut red:Bool):Bool:=
 under (nmG g) o && (decide (Fp g 6=decide (nmG g=o))) && Ch5 g && (!decide (nmG g=o)||Fp g 2) && (!Fp g 5||Ib g [5,46,47]) && !red && (!cut||Ib g [1,28]) &&
  (if (!decide (nmG g=o) && Fp g 2)=true then Ib g [2,43,47,46,1,28] else !Fp g 43) && (!decide ((nmG g)[0]? =some 42)||(!Fp g 2 && !Fp g 39))
def Df (n c:List UInt8):List UInt8:=if c≠[]∧under n c=false then [] else c
def i4 (o:List UInt8):List (List Rec)→List UInt8→List UInt8→Bool→Bool
 |[],_,_,soa=>soa
 |g::gs,cut,red,soa=>
  if propG o g (decide (Df (nmG g) cut≠[])) (decide (Df (nmG g) red≠[]))=true then
   i4 o gs (if Df (nmG g) cut=[]∧nmG g≠o∧Fp g 2=true then nmG g else Df (nmG g) cut) (if Fp g 39=true then nmG g else Df (nmG g) red) (soa||decide (nmG g=o))
  else false
def Fv0 (z:Zone) (n:List UInt8):Bool:=z.recs.any fun r=>decide (r.typ=39) && D9 n r.name
def Y1 (z:Zone) (g:List Rec):Bool:=propG z.origin g (Wj z (nmG g)) (Fv0 z (nmG g))
theorem db {n:List UInt8} (h:vld n=true):n≠[]:=fun e=>by
 subst e
 have:vld []=false:=by decide
 rw [this] at h;cases h
structure GInv (z:Zone) (done l:List Rec) (cut red:List UInt8):Prop where
 cut1:cut≠[]→∃r∈done,Dn z r=true∧r.name=cut
 cut2:∀m∈l,∀r∈done,Dn z r=true→under m.name r.name=true→cut≠[]∧under m.name cut=true
 red1:red≠[]→∃r∈done,r.typ=39∧r.name=red
 red2:∀m∈l,∀r∈done,r.typ=39→under m.name r.name=true→red≠[]∧under m.name red=true
theorem fy {o:List UInt8} {g:List Rec} {c r:Bool} (h:propG o g c r=true):under (nmG g) o=true∧r=false:=by
 unfold propG at h
 simp only [Aq,A3] at h
 exact ⟨h.1.1.1.1.1.1.1.1,h.1.1.1.2⟩
theorem q9 (z:Zone) (hv:∀r∈z.recs,vld r.name=true) (hs:Gf0 z.recs):∀(n:Nat) (done l:List Rec) (cut red:List UInt8) (soa:Bool),l.length≤n→z.recs=done++l→(∀a∈done,∀b∈l,ltN a.name b.name)→GInv z done l cut red→
  (i4 z.origin (grp l) cut red soa=true↔(∀g∈grp l,Y1 z g=true)∧(soa=true∨∃r∈l,r.name=z.origin))
 |n,done,[],cut,red,soa,_,_,_,_=>by simp [grp,Ss,i4]
 |0,done,x::r,cut,red,soa,hn,_,_,_=>by simp at hn
 |n+1,done,x::r,cut,red,soa,hn,hz,hlt,hI=>by
  obtain ⟨g,l',h1,h2,h3,h4,h5⟩:=P3 x r
  have hnm:nmG g=x.name:=Dn1 h2 h3
  have hmem:∀y∈g,y∈x::r:=fun y hy=>by rw [h1];exact Cb _ hy
  have hmem':∀y∈l',y∈x::r:=fun y hy=>by rw [h1];exact Bh _ hy
  have hzx:∀y∈x::r,y∈z.recs:=fun y hy=>by rw [hz];exact Bh _ hy
  have hvx:vld x.name=true:=hv x (hzx x (.head _))
  have hgl:∀b∈l',ltN x.name b.name:=by
   have hs2:Gf0 (g++l'):=by
    rw [←h1];have:=hs;rw [hz] at this;exact (E4.1 this).2.1
   have hs3:=E4.1 hs2
   cases l' with
   |nil=>intro b hb;cases hb
   |cons y l''=>
    have hy:ltN x.name y.name:=by
     obtain ⟨w,hw⟩:=Fx g h2
     have k:=hs3.2.2 w hw y (.head _)
     rw [h3 w hw] at k
     rcases to_N.tri x.name y.name with q|q|q
     ·exact q
     ·exact absurd q.symm (h4 y rfl)
     ·exact absurd q k
    intro b hb
    rcases Ah.1 hb with rfl|hb
    ·exact hy
    ·have k:=(An.1 hs3.2.1).1 b hb
     rcases to_N.tri y.name b.name with q|q|q
     ·exact to_N.tr _ _ _ hy q
     ·rw [←q];exact hy
     ·exact absurd q k
  have habove:∀w∈z.recs,under x.name w.name=true→x.name≠w.name→w∈done:=fun w hw hu hne=>by
   rw [hz] at hw
   rcases Br.1 hw with hw|hw
   ·exact hw
   ·exfalso
    have k:=Cm7 hu hne
    rw [h1] at hw
    rcases Br.1 hw with hw|hw
    ·exact hne (h3 w hw).symm
    ·exact to_N.asym k (hgl w hw)
  have hcut:decide (Df x.name cut≠[])=Wj z x.name:=by
   rw [Cf,decide_eq_true_eq]
   unfold Wj Df
   rw [B6]
   constructor
   ·intro k
    have c0:cut≠[]:=fun e=>by rw [e] at k;simp at k
    have c1:under x.name cut=true:=by
     rcases Av (under x.name cut) with q|q
     ·exact q
     ·rw [if_pos ⟨c0,q⟩] at k;exact absurd rfl k
    obtain ⟨w,w1,w2,w3⟩:=hI.cut1 c0
    refine ⟨w,by rw [hz];exact Cb _ w1,?_⟩
    have:w.name≠x.name:=fun e=>to_N.irr _ (by have:=hlt w w1 x (.head _);rw [e] at this;exact this)
    rw [w2,w3]
    rw [w3] at this
    simp [this,c1]
   ·rintro ⟨w,w1,w2⟩
    simp only [Aq,decide_eq_true_eq] at w2
    have wd:=habove w w1 w2.2 (fun e=>w2.1.2 e.symm)
    obtain ⟨c0,c1⟩:=hI.cut2 x (.head _) w wd w2.1.1 w2.2
    rw [if_neg (by simp [c1])]
    exact c0
  have hred:decide (Df x.name red≠[])=Fv0 z x.name:=by
   rw [Cf,decide_eq_true_eq]
   unfold Fv0 Df D9
   rw [B6]
   constructor
   ·intro k
    have c0:red≠[]:=fun e=>by rw [e] at k;simp at k
    have c1:under x.name red=true:=by
     rcases Av (under x.name red) with q|q
     ·exact q
     ·rw [if_pos ⟨c0,q⟩] at k;exact absurd rfl k
    obtain ⟨w,w1,w2,w3⟩:=hI.red1 c0
    refine ⟨w,by rw [hz];exact Cb _ w1,?_⟩
    have:x.name≠w.name:=fun e=>to_N.irr _ (by have:=hlt w w1 x (.head _);rw [e] at this;exact this)
    rw [w3] at this ⊢
    simp [this,c1,w2]
   ·rintro ⟨w,w1,w2⟩
    simp only [Aq,decide_eq_true_eq] at w2
    have wd:=habove w w1 w2.2.2 w2.2.1
    obtain ⟨c0,c1⟩:=hI.red2 x (.head _) w wd w2.1 w2.2.2
    rw [if_neg (by simp [c1])]
    exact c0
  have hex:(∃w∈x::r,w.name=z.origin)↔(x.name=z.origin∨∃w∈l',w.name=z.origin):=by
   rw [h1]
   constructor
   ·rintro ⟨w,w1,w2⟩
    rcases Br.1 w1 with w1|w1
    ·exact .inl (by rw [←h3 w w1];exact w2)
    ·exact .inr ⟨w,w1,w2⟩
   ·rintro (k|⟨w,w1,w2⟩)
    ·obtain ⟨w,hw⟩:=Fx g h2
     exact ⟨w,Cb _ hw,by rw [h3 w hw];exact k⟩
    ·exact ⟨w,Bh _ w1,w2⟩
  rw [h5,hex]
  simp only [i4,hnm,Ah,forall_eq_or_imp]
  have hp0:Y1 z g=propG z.origin g (Wj z x.name) (Fv0 z x.name):=by unfold Y1;rw [hnm]
  rw [hp0]
  rw [hcut,hred]
  by_cases hp:propG z.origin g (Wj z x.name) (Fv0 z x.name)=true
  ·rw [if_pos hp]
   obtain ⟨pu,pr⟩:=fy hp
   rw [hnm] at pu
   have hlen:=congrArg List.length h1
   have hg0:0<g.length:=Bw.2 h2
   simp only [Az,As] at hlen hn
   have hmid:∀m∈l',∀w∈done,under m.name w.name=true→under x.name w.name=true:=fun m hm w hw hu=>
    Ay6 hvx hu (fun k=>to_N.asym (hlt w hw x (.head _)) k) (fun k=>to_N.asym (hgl m hm) k)
   have hredE:Df x.name red=[]:=by
    have:=hred;rw [pr] at this;simpa using this
   have ih:=q9 z hv hs n (done++g) l' (if Df x.name cut=[]∧x.name≠z.origin∧Fp g 2=true then x.name else Df x.name cut) (if Fp g 39=true then x.name else Df x.name red) (soa||decide (x.name=z.origin)) (by omega) (by rw [hz,h1,Ar])
    (fun a ha b hb=>by
     rcases Br.1 ha with ha|ha
     ·exact hlt a ha b (hmem' b hb)
     ·rw [h3 a ha];exact hgl b hb)
    ⟨?_,?_,?_,?_⟩
   ·rw [ih]
    simp only [Am,decide_eq_true_eq,hp,true_and]
    constructor
    ·rintro ⟨k1,(k2|k2)|k2⟩
     ·exact ⟨k1, .inl k2⟩
     ·exact ⟨k1, .inr (.inl k2)⟩
     ·exact ⟨k1, .inr (.inr k2)⟩
    ·rintro ⟨k1,k2|k2|k2⟩
     ·exact ⟨k1, .inl (.inl k2)⟩
     ·exact ⟨k1, .inl (.inr k2)⟩
     ·exact ⟨k1, .inr k2⟩
   ·-- the cut is one
    intro k
    by_cases c:Df x.name cut=[]∧x.name≠z.origin∧Fp g 2=true
    ·rw [if_pos c]
     obtain ⟨w,w1,w2⟩:=B6.1 c.2.2
     simp only [decide_eq_true_eq] at w2
     refine ⟨w,Bh _ w1,?_,h3 w w1⟩
     unfold Dn D9
     rw [h3 w w1]
     simp [w2,pu,c.2.1]
    ·rw [if_neg c] at k ⊢
     have c0:cut≠[]:=fun e=>by rw [e] at k;simp [Df] at k
     have c1:Df x.name cut=cut:=by
      unfold Df at k ⊢
      by_cases q:cut≠[]∧under x.name cut=false
      ·rw [if_pos q] at k;exact absurd rfl k
      ·rw [if_neg q]
     rw [c1]
     obtain ⟨w,w1,w2⟩:=hI.cut1 c0
     exact ⟨w,Cb _ w1,w2⟩
   ·intro m hm w hw hc hu
    rcases Br.1 hw with hw|hw
    ·have hxu:=hmid m hm w hw hu
     obtain ⟨c0,c1⟩:=hI.cut2 x (.head _) w hw hc hxu
     obtain ⟨_,c2⟩:=hI.cut2 m (hmem' m hm) w hw hc hu
     have c3:Df x.name cut=cut:=by unfold Df;rw [if_neg (by simp [c1])]
     rw [c3,if_neg (by simp [c0])]
     exact ⟨c0,c2⟩
    ·rw [h3 w hw] at hu
     have hc':=hc
     unfold Dn D9 at hc'
     rw [h3 w hw] at hc'
     simp only [Aq,decide_eq_true_eq] at hc'
     have hns:Fp g 2=true:=B6.2 ⟨w,hw,by simp [hc'.1]⟩
     by_cases c:Df x.name cut=[]
     ·rw [if_pos ⟨c,hc'.2.1,hns⟩]
      exact ⟨db hvx,hu⟩
     ·rw [if_neg (by simp [c])]
      have q:¬(cut≠[]∧under x.name cut=false):=fun q=>c (by unfold Df;rw [if_pos q])
      have c1:Df x.name cut=cut:=by unfold Df;rw [if_neg q]
      rw [c1] at c ⊢
      have c2:under x.name cut=true:=by
       rcases Av (under x.name cut) with k|k
       ·exact k
       ·exact absurd ⟨c,k⟩ q
      exact ⟨c,Aw2 hu c2⟩
   ·intro k
    rw [hredE] at k ⊢
    by_cases c:Fp g 39=true
    ·rw [if_pos c]
     obtain ⟨w,w1,w2⟩:=B6.1 c
     simp only [decide_eq_true_eq] at w2
     exact ⟨w,Bh _ w1,w2,h3 w w1⟩
    ·rw [if_neg c] at k;exact absurd rfl k
   ·intro m hm w hw hc hu
    rcases Br.1 hw with hw|hw
    ·exfalso
     have hxu:=hmid m hm w hw hu
     obtain ⟨c0,c1⟩:=hI.red2 x (.head _) w hw hc hxu
     have:Df x.name red=red:=by unfold Df;rw [if_neg (by simp [c1])]
     rw [this] at hredE
     exact c0 hredE
    ·rw [h3 w hw] at hu
     have hd:Fp g 39=true:=B6.2 ⟨w,hw,by simp [hc]⟩
     rw [if_pos hd]
     exact ⟨db hvx,hu⟩
  ·rw [if_neg hp]
   simp [hp]
end Go.X.G
/- Zones by the names of their records: the program's conditions are the reference's. -/
namespace Go.X.G
open Go Go.X
theorem Ac8 {l:List Rec} (h:l.Pairwise ltR):Gf0 l:=h.imp fun {a b} k=>by
 rcases k with k|⟨k,_⟩
 ·exact to_N.asym k
 ·have k':a.name=b.name:=k
  rw [k'];exact to_N.irr _
theorem By2:∀(n:Nat) (l:List Rec),l.length≤n→Gf0 l→(∀g∈grp l,g≠[]∧g=l.filter fun r=>decide (r.name=nmG g))∧∀r∈l,∃g∈grp l,nmG g=r.name∧r∈g
 |_,[],_,_=>by simp [grp,Ss]
 |0,x::r,hn,_=>by simp at hn
 |n+1,x::r,hn,hs=>by
  obtain ⟨g,l',h1,h2,h3,h4,h5⟩:=P3 x r
  have hnm:nmG g=x.name:=Dn1 h2 h3
  have hs2:Gf0 (g++l'):=by rw [←h1];exact hs
  have hs3:=E4.1 hs2
  have hgl:∀b∈l',ltN x.name b.name:=by
   cases l' with
   |nil=>intro b hb;cases hb
   |cons y l''=>
    have hy:ltN x.name y.name:=by
     obtain ⟨w,hw⟩:=Fx g h2
     have k:=hs3.2.2 w hw y (.head _)
     rw [h3 w hw] at k
     rcases to_N.tri x.name y.name with q|q|q
     ·exact q
     ·exact absurd q.symm (h4 y rfl)
     ·exact absurd q k
    intro b hb
    rcases Ah.1 hb with rfl|hb
    ·exact hy
    ·have k:=(An.1 hs3.2.1).1 b hb
     rcases to_N.tri y.name b.name with q|q|q
     ·exact to_N.tr _ _ _ hy q
     ·rw [←q];exact hy
     ·exact absurd q k
  have hlen:=congrArg List.length h1
  have hg0:0<g.length:=Bw.2 h2
  simp only [Az,As] at hlen hn
  obtain ⟨i1,i2⟩:=By2 n l' (by omega) hs3.2.1
  rw [h5]
  refine ⟨fun g' hg'=> ?_,fun w hw=> ?_⟩
  ·rcases Ah.1 hg' with rfl|hg'
   ·refine ⟨h2,?_⟩
    rw [hnm,h1,E7]
    have e1:(g'.filter fun r=>decide (r.name=x.name))=g':=List.filter_eq_self.2 fun y hy=>by simp [h3 y hy]
    have e2:(l'.filter fun r=>decide (r.name=x.name))=[]:=Ev.2 fun y hy=>by
     have:=hgl y hy
     intro k
     simp only [decide_eq_true_eq] at k
     rw [k] at this
     exact to_N.irr _ this
    rw [e1,e2,D1]
   ·obtain ⟨j1,j2⟩:=i1 g' hg'
    refine ⟨j1,?_⟩
    rw [h1,E7]
    have e1:(g.filter fun r=>decide (r.name=nmG g'))=[]:=Ev.2 fun y hy=>by
     intro k
     simp only [decide_eq_true_eq] at k
     obtain ⟨w,hw⟩:=Fx g' j1
     have hw2:=hw
     rw [j2] at hw2
     obtain ⟨q1,q2⟩:=Bp.1 hw2
     simp only [decide_eq_true_eq] at q2
     have:=hgl w q1
     rw [q2,←k,h3 y hy] at this
     exact to_N.irr _ this
    rw [e1,Cy]
    exact j2
  ·rw [h1] at hw
   rcases Br.1 hw with hw|hw
   ·exact ⟨g, .head _,by rw [hnm,h3 w hw],hw⟩
   ·obtain ⟨g',q1,q2⟩:=i2 w hw
    exact ⟨g', .tail _ q1,q2⟩
theorem Gt5 (l:List Rec) (n:List UInt8) (t:Int):Fp (l.filter fun r=>decide (r.name=n)) t=Sx l n t:=by
 rw [Cf]
 unfold Fp Sx findR
 rw [B6,decide_eq_true_eq,List.length_pos_iff_exists_mem]
 constructor
 ·rintro ⟨x,h1,h2⟩
  obtain ⟨h3,h4⟩:=Bp.1 h1
  exact ⟨x,Bp.2 ⟨h3,by unfold isK;rw [h4,h2];rfl⟩⟩
 ·rintro ⟨x,h1⟩
  obtain ⟨h3,h4⟩:=Bp.1 h1
  unfold isK at h4
  rw [Aq] at h4
  exact ⟨x,Bp.2 ⟨h3,h4.1⟩,h4.2⟩
theorem Db2 (l:List Rec) (n:List UInt8) (t:Int):Sx l n t=true↔∃r∈l,r.name=n∧r.typ=t:=by
 unfold Sx findR
 rw [decide_eq_true_eq,List.length_pos_iff_exists_mem]
 constructor
 ·rintro ⟨x,h1⟩
  obtain ⟨h3,h4⟩:=Bp.1 h1
  unfold isK at h4
  simp only [Aq,decide_eq_true_eq] at h4
  exact ⟨x,h3,h4⟩
 ·rintro ⟨x,h1,h2,h3⟩
  exact ⟨x,Bp.2 ⟨h1,by unfold isK;simp [h2,h3]⟩⟩
abbrev sng (t:Int):Prop:=t=6∨t=5∨t=39
def two (x y:Rec):Prop:=x.typ=y.typ→(x≠y→¬sng x.typ)∧(x.typ≠46→x.ttl=y.ttl)
theorem Cm8 {x y:Rec} (h:two x y):two y x:=fun e=>by
 obtain ⟨h1,h2⟩:=h e.symm
 exact ⟨fun k=>by rw [e];exact h1 k.symm,fun k=>(h2 (by rw [←e];exact k)).symm⟩
theorem Cm9 (x:Rec):two x x:=fun _=>⟨fun k=>absurd rfl k,fun _=>rfl⟩
theorem Bj8 {a b:Rec} (h:ltR a b) (e:a.name=b.name):a.typ≤b.typ:=by
 rcases h with h|⟨_,h|⟨h,_⟩⟩
 ·have h':ltN a.name b.name:=h
  rw [e] at h';exact absurd h' (to_N.irr _)
 ·have h':a.typ<b.typ:=h
  omega
 ·have h':a.typ=b.typ:=h
  omega
theorem Bj9 {a b:Rec} (h:ltR a b):a≠b:=fun e=>by rw [e] at h;exact to_K.irr _ h
theorem lp:∀(r:List Rec) (p:Rec),(p::r).Pairwise ltR→(∀x∈r,x.name=p.name)→(S7 p r=true↔(p::r).Pairwise two)
 |[],p,_,_=>by simp [S7]
 |x::r,p,hs,hn=>by
  obtain ⟨h1,h2⟩:=An.1 hs
  obtain ⟨h3,h4⟩:=An.1 h2
  have hx:=hn x (.head _)
  have ih:=lp r x h2 (fun y hy=>by rw [hn y (.tail _ hy),hx])
  have hpx:(!decide (x.typ=p.typ)||(!(decide (x.typ=6)||decide (x.typ=5)||decide (x.typ=39)) && (decide (x.typ=46)||decide (x.ttl=p.ttl))))=true↔two p x:=by
   have hne:p≠x:=Bj9 (h1 x (.head _))
   unfold two sng
   simp only [Am,Aq,A3,decide_eq_false_iff_not,decide_eq_true_eq,H9]
   constructor
   ·rintro (k|⟨k1,k2⟩) e
    ·exact absurd e.symm k
    ·refine ⟨fun _=>by rw [e];omega,fun k=> ?_⟩
     rcases k2 with k2|k2
     ·exact absurd (e.trans k2) k
     ·exact k2.symm
   ·intro h
    by_cases e:x.typ=p.typ
    ·obtain ⟨a,b⟩:=h e.symm
     have a':=a hne
     refine .inr ⟨by rw [e];omega,?_⟩
     by_cases k:x.typ=46
     ·exact .inl k
     ·exact .inr (b (by rw [←e];exact k)).symm
    ·exact .inl e
  have step:S7 p (x::r)=true↔two p x∧S7 x r=true:=by
   simp only [S7]
   rw [Aq,hpx]
  rw [step,ih,An (a:=p)]
  constructor
  ·rintro ⟨k1,k2⟩
   refine ⟨fun y hy=> ?_,k2⟩
   rcases Ah.1 hy with rfl|hy
   ·exact k1
   ·intro e
    have t1:=Bj8 (h1 x (.head _)) hx.symm
    have t2:=Bj8 (h3 y hy) (by rw [hx,hn y (.tail _ hy)])
    have e1:p.typ=x.typ:=by omega
    obtain ⟨a1,a2⟩:=k1 e1
    obtain ⟨b1,b2⟩:=(An.1 k2).1 y hy (by omega)
    exact ⟨fun _=>a1 (Bj9 (h1 x (.head _))),fun k=>by rw [a2 k];exact b2 (by omega)⟩
  ·rintro ⟨k1,k2⟩
   exact ⟨k1 x (.head _),k2⟩
theorem Cm6 {g:List Rec} {n:List UInt8} (hs:g.Pairwise ltR) (hn:∀x∈g,x.name=n):Ch5 g=true↔∀x∈g,∀y∈g,two x y:=by
 have:Ch5 g=true↔g.Pairwise two:=by
  cases g with
  |nil=>simp [Ch5]
  |cons p r=>exact lp r p hs fun x hx=>by rw [hn x (.tail _ hx),hn p (.head _)]
 rw [this]
 constructor
 ·intro h x hx y hy
  obtain ⟨i,hi⟩:=Dv hx
  obtain ⟨j,hj⟩:=Dv hy
  obtain ⟨i1,i2⟩:=Ak.1 hi
  obtain ⟨j1,j2⟩:=Ak.1 hj
  rcases Nat.lt_trichotomy i j with k|k|k
  ·have:=L4.1 h i j i1 j1 k
   rw [i2,j2] at this;exact this
  ·subst k
   rw [←i2,←j2];exact Cm9 _
  ·have:=L4.1 h j i j1 i1 k
   rw [i2,j2] at this;exact Cm8 this
 ·intro h
  rw [L4]
  intro i j hi hj _
  exact h _ (Dh hi) _ (Dh hj)
theorem Pv (r x:Rec):I4 r x=true↔(x.name=r.name→two r x∧(r.typ=5→x.typ=5∨x.typ=46∨x.typ=47)):=by
 unfold I4 two sng
 by_cases h:x.name=r.name
 ·simp only [h,decide_true,J4,J5,true_implies,Aq,A3,Fg,decide_eq_false_iff_not,H9,ne_eq,En]
  by_cases e:x.typ=r.typ
  ·have e':r.typ=x.typ:=e.symm
   simp only [e,not_true_eq_false,false_or,true_implies]
   constructor
   ·rintro ⟨⟨h1,h2⟩,h3⟩
    refine ⟨⟨fun k q=> ?_,fun k=> ?_⟩,fun k=>by omega⟩
    ·rcases h2 with h2|h2
     ·omega
     ·exact k h2.symm
    ·rcases h1 with h1|h1
     ·exact absurd h1 k
     ·exact h1.symm
   ·rintro ⟨⟨h1,h2⟩,h3⟩
    refine ⟨⟨?_,?_⟩,by omega⟩
    ·by_cases k:r.typ=46
     ·exact .inl k
     ·exact .inr (h2 k).symm
    ·by_cases k:r=x
     ·exact .inr k.symm
     ·have:=h1 k
      left;omega
  ·have e':¬r.typ=x.typ:=fun q=>e q.symm
   simp only [e,e',not_false_eq_true,true_or,true_and,false_implies]
   omega
 ·simp [h]
set_option maxHeartbeats 1000000 in
theorem Af0 (z:Zone) (hv:∀r∈z.recs,Lr r=true) (hr:z.recs.Pairwise ltR):
  ((∀g∈grp z.recs,Y1 z g=true)∧∃r∈z.recs,r.name=z.origin)↔((findR z.recs z.origin 6).length=1∧Sx z.recs z.origin 2=true∧∀r∈z.recs,Mq z r=true):=by
 obtain ⟨ga,gb⟩:=By2 z.recs.length z.recs (Ac _) (Ac8 hr)
 have gm:∀g∈grp z.recs,∀x,x∈g↔x∈z.recs∧x.name=nmG g:=fun g hg x=>by
  have:=(ga g hg).2
  constructor
  ·intro h
   rw [this] at h
   obtain ⟨a,b⟩:=Bp.1 h
   exact ⟨a,by simpa using b⟩
  ·rintro ⟨a,b⟩
   rw [this]
   exact Bp.2 ⟨a,by simpa using b⟩
 have gh:∀g∈grp z.recs,∀t,Fp g t=Sx z.recs (nmG g) t:=fun g hg t=>by
  have:=Gt5 z.recs (nmG g) t
  rwa [←(ga g hg).2] at this
 have gu:∀g∈grp z.recs,(Ch5 g=true↔∀x∈g,∀y∈g,two x y):=fun g hg=>by
  refine Cm6 (n:=nmG g) ?_ fun x hx=>((gm g hg x).1 hx).2
  rw [(ga g hg).2]
  exact hr.filter _
 have hstar:∀r∈z.recs,(r.name[0]? =some 42↔(lbl r.name)[0]? =some [42]):=fun r h=>wq (X1 (hv r h))
 constructor
 ·rintro ⟨hp,r0,hr0,hr0n⟩
  have hpg:∀r∈z.recs,∃g∈grp z.recs,nmG g=r.name∧r∈g∧Y1 z g=true:=fun r h=>by
   obtain ⟨g,h1,h2,h3⟩:=gb r h
   exact ⟨g,h1,h2,h3,hp g h1⟩
  obtain ⟨g0,k1,k2,k3,k4⟩:=hpg r0 hr0
  rw [hr0n] at k2
  have k5:=k4
  unfold Y1 propG at k5
  simp only [k2,Aq,decide_eq_true_eq,decide_true,J4,J5] at k5
  have s6:Sx z.recs z.origin 6=true:=by rw [←k2,←gh g0 k1,k5.1.1.1.1.1.1.1.2]
  have s2:Sx z.recs z.origin 2=true:=by rw [←k2,←gh g0 k1,k5.1.1.1.1.1.2]
  refine ⟨?_,s2,fun r h=> ?_⟩
  ·-- one SOA record
   have hpos:0<(findR z.recs z.origin 6).length:=by unfold Sx at s6;simpa using s6
   have hpw:(findR z.recs z.origin 6).Pairwise ltR:=hr.filter _
   have hmm:∀x∈findR z.recs z.origin 6,x∈g0∧x.typ=6:=fun x hx=>by
    obtain ⟨a,b⟩:=Bp.1 hx
    unfold isK at b
    simp only [Aq,decide_eq_true_eq] at b
    exact ⟨(gm g0 k1 x).2 ⟨a,by rw [b.1,k2]⟩,b.2⟩
   have hu:=(gu g0 k1).1 k5.1.1.1.1.1.1.2
   generalize findR z.recs z.origin 6=l at*
   match l,hpos,hpw,hmm with
   |[a],_,_,_=>rfl
   |a::b::r,_,hpw,hmm=>
    exfalso
    have hab:=(An.1 hpw).1 b (.head _)
    obtain ⟨a1,a2⟩:=hmm a (.head _)
    obtain ⟨b1,b2⟩:=hmm b (.tail _ (.head _))
    exact ((hu a a1 b b1 (by rw [a2,b2])).1 (Bj9 hab)) (.inl a2)
  ·obtain ⟨g,h1,h2,h3,h4⟩:=hpg r h
   unfold Y1 propG at h4
   rw [h2] at h4
   simp only [Aq,decide_eq_true_eq,Am,A3,decide_eq_false_iff_not,Fg] at h4
   obtain ⟨⟨⟨⟨⟨⟨⟨⟨p1,p2⟩,p3⟩,p4⟩,p5⟩,p6⟩,p7⟩,p8⟩,p9⟩:=h4
   have hu:=(gu g h1).1 p3
   have hon:∀ts,Ib g ts=true→r.typ∈ts:=fun ts k=>by
    have:=Bj.1 k r h3
    simpa using this
   have has:∀t,r.typ=t→Fp g t=true:=fun t e=>B6.2 ⟨r,h3,by simp [e]⟩
   unfold Mq
   simp only [Aq,A3,Fg,decide_eq_false_iff_not,ne_eq,En]
   refine ⟨⟨⟨p1,?_⟩,?_⟩,?_⟩
   ·by_cases e:r.typ=6
    ·right
     rw [has 6 e] at p2
     simpa using p2.symm
    ·exact .inl e
   ·unfold Sk
    rw [Bj]
    intro x hx
    rw [Pv]
    intro e
    have hxg:x∈g:=(gm g h1 x).2 ⟨hx,by rw [h2,e]⟩
    refine ⟨hu r h3 x hxg,fun e5=> ?_⟩
    rcases p5 with p5|p5
    ·rw [has 5 e5] at p5;cases p5
    ·have:=Bj.1 p5 x hxg
     simpa using this
   ·unfold Mw
    have h9:¬((lbl r.name)[0]? =some [42]∧(r.typ=2∨r.typ=39)):=by
     rintro ⟨e1,e2⟩
     rcases p9 with p9|⟨q1,q2⟩
     ·exact p9 ((hstar r h).2 e1)
     ·rcases e2 with e2|e2
      ·rw [has 2 e2] at q1;cases q1
      ·rw [has 39 e2] at q2;cases q2
    rw [if_neg h9,Aq]
    refine ⟨Bj.2 fun x hx=> ?_,?_⟩
    ·unfold Ir
     simp only [Aq,A3,Fg,decide_eq_false_iff_not,ne_eq,En]
     constructor
     ·by_cases e:x.typ=39
      ·right
       rcases Av (D9 r.name x.name) with q|q
       ·have:Fv0 z r.name=true:=B6.2 ⟨x,hx,by simp [e,q]⟩
        rw [this] at p6;cases p6
       ·exact q
      ·exact .inl e
     ·by_cases e:x.typ=2∧D9 x.name z.origin=true∧D9 r.name x.name=true
      ·have q:=e.2.2
       unfold D9 at q
       simp only [Aq,decide_eq_true_eq] at q
       have:Wj z r.name=true:=B6.2 ⟨x,hx,by unfold Dn;simp [e.1,e.2.1,q.2];exact fun k=>q.1 k.symm⟩
       rcases p7 with p7|p7
       ·rw [this] at p7;cases p7
       ·have:=hon _ p7
        simp at this
        rcases this with this|this
        ·exact .inl (.inr this)
        ·exact .inr this
      ·by_cases e1:x.typ=2
       ·by_cases e2:D9 x.name z.origin=true
        ·have e3:D9 r.name x.name=false:=by
          rcases Av (D9 r.name x.name) with q|q
          ·exact absurd ⟨e1,e2,q⟩ e
          ·exact q
         exact .inl (.inl (.inr e3))
        ·exact .inl (.inl (.inl (.inr (by simpa using e2))))
       ·exact .inl (.inl (.inl (.inl e1)))
    ·have hb:D9 r.name z.origin= !decide (r.name=z.origin):=by unfold D9;rw [p1];simp
     rw [hb,←h2,←gh g h1 2,h2]
     by_cases c:¬r.name=z.origin∧Fp g 2=true
     ·have cb:(!decide (r.name=z.origin) && Fp g 2)=true:=by simp [c]
      rw [if_pos c] at p8
      rw [if_pos cb]
      have:=hon _ p8
      unfold Vh
      simp at this ⊢
      omega
     ·have cb:¬(!decide (r.name=z.origin) && Fp g 2)=true:=by simpa using c
      rw [if_neg c] at p8
      rw [if_neg cb]
      simp only [A3] at p8
      rw [decide_eq_true_eq]
      intro e
      rw [has 43 e] at p8;cases p8
 ·rintro ⟨h1,h2,h3⟩
  have hrr:∃r∈z.recs,r.name=z.origin:=by
   obtain ⟨r,k1,k2,_⟩:=(Db2 _ _ _).1 h2
   exact ⟨r,k1,k2⟩
  refine ⟨fun g hg=> ?_,hrr⟩
  obtain ⟨r,hrg⟩:=Fx g (ga g hg).1
  obtain ⟨hrz,hrn⟩:=(gm g hg r).1 hrg
  have hrec:∀x∈g,under x.name z.origin=true∧(x.typ=6→x.name=z.origin)∧(∀y∈g,two x y∧(x.typ=5→y.typ=5∨y.typ=46∨y.typ=47))∧Mw z x=true:=fun x hx=>by
   obtain ⟨a,b⟩:=(gm g hg x).1 hx
   have k:=h3 x a
   unfold Mq at k
   simp only [Aq,A3,Fg,decide_eq_false_iff_not,ne_eq,En] at k
   refine ⟨k.1.1.1,fun e=> ?_,fun y hy=> ?_,k.2⟩
   ·rcases k.1.1.2 with q|q
    ·exact absurd e q
    ·exact q
   ·obtain ⟨c,d⟩:=(gm g hg y).1 hy
    have q:=k.1.2
    unfold Sk at q
    exact (Pv x y).1 (Bj.1 q y c) (by rw [d,b])
  have hpl:∀x∈g,¬((lbl x.name)[0]? =some [42]∧(x.typ=2∨x.typ=39))∧z.recs.all (Ir z x)=true∧(if D9 x.name z.origin && Sx z.recs x.name 2 then Vh x.typ else decide (x.typ≠43))=true:=fun x hx=>by
   have k:=(hrec x hx).2.2.2
   unfold Mw at k
   by_cases q:(lbl x.name)[0]? =some [42]∧(x.typ=2∨x.typ=39)
   ·rw [if_pos q] at k;cases k
   ·rw [if_neg q,Aq] at k
    exact ⟨q,k⟩
  have hnx:∀x∈g,x.name=nmG g:=fun x hx=>((gm g hg x).1 hx).2
  unfold Y1 propG
  simp only [Aq,decide_eq_true_eq,Am,A3,decide_eq_false_iff_not,Fg]
  refine ⟨⟨⟨⟨⟨⟨⟨⟨?_,?_⟩,?_⟩,?_⟩,?_⟩,?_⟩,?_⟩,?_⟩,?_⟩
  ·rw [←hrn];exact (hrec r hrg).1
  ·rw [Cf,decide_eq_true_eq]
   constructor
   ·intro k
    obtain ⟨x,x1,x2⟩:=B6.1 k
    rw [←hnx x x1]
    exact (hrec x x1).2.1 (by simpa using x2)
   ·intro k
    rw [gh g hg,k]
    unfold Sx
    simp [h1]
  ·exact (gu g hg).2 fun x hx y hy=>((hrec x hx).2.2.1 y hy).1
  ·by_cases e:nmG g=z.origin
   ·right;rw [gh g hg,e];exact h2
   ·exact .inl e
  ·by_cases e:Fp g 5=true
   ·right
    obtain ⟨x,x1,x2⟩:=B6.1 e
    refine Bj.2 fun y hy=> ?_
    have:=((hrec x x1).2.2.1 y hy).2 (by simpa using x2)
    simpa using this
   ·exact .inl (by simpa using e)
  ·rcases Av (Fv0 z (nmG g)) with q|q
   ·exfalso
    obtain ⟨w,w1,w2⟩:=B6.1 q
    have k:=Bj.1 (hpl r hrg).2.1 w w1
    unfold Ir at k
    rw [hrn] at k
    rw [w2] at k
    simp at k
   ·exact q
  ·rcases Av (Wj z (nmG g)) with q|q
   ·right
    obtain ⟨w,w1,w2⟩:=B6.1 q
    unfold Dn at w2
    simp only [Aq,decide_eq_true_eq] at w2
    refine Bj.2 fun x hx=> ?_
    have k:=Bj.1 (hpl x hx).2.1 w w1
    unfold Ir at k
    have hb:D9 x.name w.name=true:=by
     unfold D9
     rw [hnx x hx]
     have:nmG g≠w.name:=fun e=>w2.1.2 e.symm
     simp [this,w2.2]
    rw [hb,w2.1.1.2] at k
    simp [w2.1.1.1] at k
    have k':x.typ=1∨x.typ=28:=by omega
    simpa using k'
   ·exact .inl q
  ·have hbn:D9 (nmG g) z.origin= !decide (nmG g=z.origin):=by
    unfold D9
    rw [←hrn,(hrec r hrg).1];simp
   by_cases c0:¬nmG g=z.origin∧Fp g 2=true
   ·have c:(!decide (nmG g=z.origin) && Fp g 2)=true:=by simp [c0]
    rw [if_pos c0]
    refine Bj.2 fun x hx=> ?_
    have k:=(hpl x hx).2.2
    rw [hnx x hx,hbn,←gh g hg,if_pos c] at k
    unfold Vh at k
    simp at k ⊢
    omega
   ·have c:¬(!decide (nmG g=z.origin) && Fp g 2)=true:=by simpa using c0
    rw [if_neg c0]
    simp only [A3]
    rcases Av (Fp g 43) with q|q
    ·exfalso
     obtain ⟨x,x1,x2⟩:=B6.1 q
     have k:=(hpl x x1).2.2
     rw [hnx x x1,hbn,←gh g hg,if_neg c] at k
     simp at x2 k
     exact k x2
    ·exact q
  ·by_cases e:(nmG g)[0]? =some 42
   ·right
    rw [←hrn] at e
    have e2:=(hstar r hrz).1 e
    constructor
    ·rcases Av (Fp g 2) with q|q
     ·exfalso
      obtain ⟨x,x1,x2⟩:=B6.1 q
      refine (hpl x x1).1 ⟨by rw [hnx x x1,←hrn];exact e2, .inl (by simpa using x2)⟩
     ·exact q
    ·rcases Av (Fp g 39) with q|q
     ·exfalso
      obtain ⟨x,x1,x2⟩:=B6.1 q
      refine (hpl x x1).1 ⟨by rw [hnx x x1,←hrn];exact e2, .inr (by simpa using x2)⟩
     ·exact q
   ·exact .inl e
end Go.X.G
