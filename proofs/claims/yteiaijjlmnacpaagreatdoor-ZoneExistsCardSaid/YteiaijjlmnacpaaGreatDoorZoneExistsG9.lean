/- Names: what the reference's functions give. -/
import Derived.Test.YteiaijjlmnacpaaGreatDoorZoneExistsG7
import Derived.Test.YteiaijjlmnacpaaGreatDoorZoneExistsG8
open Bool renaming eq_false_or_eq_true→Ak,and_eq_true→Av,false_eq_true→Ab,or_eq_true→Am,not_eq_true'→A8,eq_iff_iff→Cr,not_eq_false→Fv,and_eq_false_iff→G3,or_eq_false_iff→H2,not_true→Jp,false_or→Jr,and_true→Ns,true_and→Ft1
open Classical renaming not_not→Iy
open List renaming getElem?_eq_some_iff→Aq,getElem?_eq_getElem→Ay,length_append→Az,mem_cons→Af,append_assoc→Ap,pairwise_cons→Ar,length_cons→As,mem_of_getElem?→A5,all_eq_true→Bv,length_pos_iff→Bw,length_nil→Bb,getD_eq_getElem?_getD→Bd,mem_append_right→Bg,getElem?_map→Bh,take_append_drop→Bl,mem_append→Bp,length_drop→Br,mem_filter→Bs,any_eq_true→Bt,cons_append→B3,getElem?_range→Cj,nil_append→Cy,drop_eq_getElem_cons→Cb,mem_append_left→Cc,getElem?_cons_zero→Cd,take_length→C1,getElem?_of_mem→C3,drop_drop→C4,getElem_mem→Dc,mem_map→Dn,append_nil→Dp,filter_eq_nil_iff→D9,drop_zero→Ev,pairwise_append→Er,mem_range→Es,filter_append→E1,exists_mem_of_ne_nil→E8,mem_cons_self→F2,suffix_iff_eq_drop→F6,flatMap_cons→Gc,getLast_eq_getElem→Iv,isSuffixOf_iff_suffix→J7,cons_prefix_cons→K4,pairwise_iff_getElem→L2,append_cancel_right→Nr,drop_eq_nil_of_le→Uh,length_mergeSort→dy,count_eq_zero→Hz2
open Nat renaming le_refl→Ac,zero_le→Ct
open Option renaming map_eq_some_iff→Aw,map_some→A3
set_option maxHeartbeats 1000000
set_option linter.unusedVariables false
set_option linter.unusedSimpArgs false
namespace Go.X.G
open Go Go.X
def Sn (c:UInt8):Bool:=decide (97≤(c.toNat:Int)) && decide ((c.toNat:Int)≤122)||decide (48≤(c.toNat:Int)) && decide ((c.toNat:Int)≤57)||decide ((c.toNat:Int)=45)||decide ((c.toNat:Int)=95)
def Lm (s:List UInt8):Bool:=decide (s=[42])||(decide (1≤s.length) && decide (s.length≤63) && s.all Sn)
end Go.X.G
/- Names: what the reference's functions give. -/
namespace Go.X.G
open Go Go.X
def spl (first:Bool) (cur:List UInt8):List UInt8→Option (List (List UInt8))
 |[]=>some []
 |c::r=>if c=46 then (if Lm cur=true∧(cur=[42]→first=true) then (spl false [] r).map (cur::·) else none) else spl first (cur++[c]) r
def nm (n:List UInt8):Option (List (List UInt8)):=
 if n=[46] then some [] else if 2≤n.length∧n.length≤254∧n[n.length - 1]? =some 46 then spl true [] n else none
def lbl (n:List UInt8):List (List UInt8):=(nm n).getD []
def vld (n:List UInt8):Bool:=(nm n).isSome
end Go.X.G
/- Names: what the reference's functions give, ctd. -/
namespace Go.X.G
open Go Go.X
theorem eq:∀(r:List UInt8) (f:Bool) (cur:List UInt8) (l:List (List UInt8)),spl f cur r=some l→l.length≤r.length
 |[],f,cur,l,h=>by simp [spl] at h;simp [←h]
 |c::r,f,cur,l,h=>by
  simp only [spl] at h
  split at h
  ·split at h
   ·obtain ⟨m,hm,rfl⟩:=Aw.1 h
    have:=eq r _ _ _ hm
    simp;omega
   ·cases h
  ·have:=eq r _ _ _ h
   simp;omega
theorem Gg8 {n:List UInt8} {l:List (List UInt8)} (h:nm n=some l):l.length≤254:=by
 unfold nm at h
 split at h
 ·injection h with h;subst h;simp
 ·split at h
  ·rename_i h2
   have:=eq _ _ _ _ h;omega
  ·cases h
theorem Mk (n:List UInt8):(lbl n).length≤254:=by
 unfold lbl
 cases h:nm n with
 |none=>simp
 |some l=>exact Gg8 h
def i7 {α:Type} [DecidableEq α]:List α→List α→Nat
 |x::xs,y::ys=>if x=y then i7 xs ys+1 else 0
 |_,_=>0
def ed (a b:List (List UInt8)):Nat:=i7 a.reverse b.reverse
def under (n top:List UInt8):Bool:=vld n && vld top && decide (ed (lbl n) (lbl top)=(lbl top).length)
def cmpS (a b:List UInt8):Int:=if Op.bytesLess a b then -1 else if a=b then 0 else 1
def Im (a b:List UInt8):Int:=
 if vld a && vld b then
  let k:=ed (lbl a) (lbl b)
  if k<(lbl a).length∧k<(lbl b).length then cmpS ((lbl a).getD ((lbl a).length - 1 - k) []) ((lbl b).getD ((lbl b).length - 1 - k) [])
  else if (lbl a).length<(lbl b).length then -1 else if (lbl b).length<(lbl a).length then 1 else 0
 else if vld a then -1 else if vld b then 1 else cmpS a b
end Go.X.G
/- The library's functions on strings. -/
namespace Go.X.G
open Go Go.X
theorem Fd7 (x:List UInt8) (c:UInt8):S o9 2 [.s x, .i .u8 (c.toNat:Int)]=some [.i .i64 (x.count c:Int)]:=
 Gy1 (args:=[.s x, .i .u8 (c.toNat:Int)]) (by simp [XK.run,wz,Lib.countByte])
theorem Fy1 (x:List UInt8) (c:UInt8):S pw 2 [.s x, .i .u8 (c.toNat:Int)]=some [.i .i64 (Lib.indexByte x c)]:=
 Gz6 (args:=[.s x, .i .u8 (c.toNat:Int)]) (by simp [XK.run,wz])
theorem Fd9 (x y:List UInt8):S pq 2 [.s x, .s y]=some [.i .i64 (Lib.compareBytes x y)]:=
 Gy7 (args:=[.s x, .s y]) (by simp [XK.run,Dk1])
theorem Nm (x:List UInt8) (c:UInt8):S T1 2 [.s x, .i .u8 (c.toNat:Int)]=some [.i .i64 (Lib.indexByte x c)]:=by
 refine Gc2 (N:=1) rfl ?_
 simp (disch:=omega) only [Gj8,Fy1,xe,EVP,EV,simprocAttr]
theorem c6 (x:List UInt8) (c:UInt8):S Ar2 2 [.s x, .i .u8 (c.toNat:Int)]=some [.i .i64 (Lib.indexByte x c)]:=by
 refine Hh9 (N:=1) rfl ?_
 simp (disch:=omega) only [Hb0,Nm,xe,EVP,EV,simprocAttr]
theorem L0 (c:UInt8):∀(x:List UInt8),c∉x→Lib.indexByte x c= -1
 |[],_=>rfl
 |b::l,h=>by
  have h1:b≠c:=fun e=>h (by simp [e])
  have h2:=L0 c l (fun e=>h (by simp [e]))
  simp [Lib.indexByte,h1,h2]
theorem I1 (c:UInt8) (post:List UInt8):∀(pre:List UInt8),c∉pre→Lib.indexByte (pre++c::post) c=(pre.length:Int)
 |[],_=>by simp [Lib.indexByte]
 |b::l,h=>by
  have h1:b≠c:=fun e=>h (by simp [e])
  have h2:=I1 c post l (fun e=>h (by simp [e]))
  simp only [B3,Lib.indexByte,h2]
  simp [h1]
  try omega
theorem dot_split (c:UInt8):∀(s:List UInt8),c∉s∨∃pre post,s=pre++c::post∧c∉pre
 |[]=> .inl (by simp)
 |b::l=>by
  by_cases h:b=c
  ·exact .inr ⟨[],l,by simp [h],by simp⟩
  ·rcases dot_split c l with h1|⟨pre,post,rfl,h2⟩
   ·exact .inl (by simp [h1,Ne.symm h])
   ·exact .inr ⟨b::pre,post,by simp,by simp [h2,Ne.symm h]⟩
def pcs (cur:List UInt8):List UInt8→List (List UInt8)
 |[]=>[cur]
 |c::r=>if c=46 then cur::pcs [] r else pcs (cur++[c]) r
def cut (s:List UInt8):List (List UInt8):=pcs [] s
theorem Ap1 (post:List UInt8):∀(pre cur:List UInt8),(46:UInt8)∉pre→pcs cur (pre++46::post)=(cur++pre)::pcs [] post
 |[],cur,_=>by simp [pcs]
 |b::l,cur,h=>by
  have h1:b≠46:=fun e=>h (by simp [e])
  have h2:=Ap1 post l (cur++[b]) (fun e=>h (by simp [e]))
  simp [pcs,h1,h2]
theorem Vm:∀(s cur:List UInt8),(46:UInt8)∉s→pcs cur s=[cur++s]
 |[],cur,_=>by simp [pcs]
 |b::l,cur,h=>by
  have h1:b≠46:=fun e=>h (by simp [e])
  have h2:=Vm l (cur++[b]) (fun e=>h (by simp [e]))
  simp [pcs,h1,h2]
theorem Bz3 (s:List UInt8):(cut s).length=s.count 46+1:=by
 have:∀(s cur:List UInt8),(pcs cur s).length=s.count 46+1:=by
  intro s
  induction s with
  |nil=>intro cur;rfl
  |cons c r ih=>
   intro cur
   by_cases h:c=46<;>simp [pcs,h,ih]
 exact this s []
theorem Aq3 (s:List UInt8) (hs:s.length≤9223372036854775807):S Zc 2 [.s s, .s [46]]=some [.i .i64 (Lib.indexByte s 46)]:=by
 refine Gy0 (N:=1) rfl ?_
 have h1:=Nm s 46
 have e:(((46:UInt8).toNat:Nat):Int)=46:=rfl
 rw [e] at h1
 by_cases h:[46]=s
 ·subst h
  simp (disch:=omega) only [Dg4,xe,EVP,EV,simprocAttr]
  rfl
 ·simp (disch:=omega) only [Dg4,h,h1,e,xe,EVP,EV,simprocAttr]
theorem c5 (s:List UInt8) (hs:s.length≤9223372036854775807):S Tg 2 [.s s, .s [46]]=some [.i .i64 (Lib.indexByte s 46)]:=by
 refine Gz1 (N:=1) rfl ?_
 simp (disch:=omega) only [Ft9,Aq3,xe,EVP,EV,simprocAttr]
theorem Cg0 (s:List UInt8):S Zm 2 [.s s, .s [46]]=some [.i .i64 (s.count 46:Int)]:=by
 refine Gz2 (N:=1) rfl ?_
 have h1:=Fd7 s 46
 have e:(((46:UInt8).toNat:Nat):Int)=46:=rfl
 rw [e] at h1
 simp (disch:=omega) only [Gj0,h1,e,xe,EVP,EV,simprocAttr]
def Bx0 (done rest:List (List UInt8)):Out:=
 .yld 0 [.s ((done++rest).getLastD []),Bc ((done++rest).dropLast++[[]]), .i .i64 (((done++rest).length:Int) - 1)]
theorem iq (s:List UInt8) (N:Nat) (hN:s.length<N) (hs:s.length≤1000000) (p q:PV):
  gp.ev S N [.s s, .s [46], .i .i64 0,p, .i .i64 ((s.count 46:Int)+1)]=some (Bx0 [] (cut s)):=by
 have hc0:s.count 46≤s.length:=List.count_le_length
 have key:=M7 (fn:=S) (N:=N) (η:=[.s s, .s [46], .i .i64 0,p, .i .i64 ((s.count 46:Int)+1)]) (id:=1) (init:=[(.v 0),(.rep 1 (.mn (.v 4) (.bin .add (.slen (.v 0)) (.c (.i .i64 (1))))) (.c (.s []))),(.c (.i .i64 (0)))]) (body:=kg) (α:=List (List UInt8)×List UInt8)
  (fun a=>[.s a.2,Bc (a.1++List.replicate (a.2.count 46+1) []), .i .i64 (a.1.length:Int)]) (fun a=>Bx0 a.1 (cut a.2)) (fun a=>a.1.length+a.2.count 46=s.count 46∧a.2.length≤s.length) (fun a=>a.2.length) ([],s) ?_ ⟨by simp,Ac _⟩ hN ?_
 ·simpa [gp] using key
 ·have e:((s.count 46:Int)+1).toNat=s.count 46+1:=by omega
  simp (disch:=omega) only [e,xe,EVP,EV,simprocAttr]
 ·rintro ⟨done,rest⟩ ⟨h1,h2⟩
  simp only at h1 h2 ⊢
  rcases dot_split 46 rest with h|⟨pre,post,rfl,h⟩
  ·right
   have c0:rest.count 46=0:=Hz2.2 h
   have i0:=L0 46 rest h
   have cu:cut rest=[rest]:=by simpa [cut] using Vm rest [] h
   refine ⟨?_,rfl⟩
   rw [c0]
   rw [c0] at h1
   simp (disch:=omega) only [Ax4,c5,i0,xe,EVP,EV,simprocAttr]
   simp [Bx0,cu,List.getLastD_eq_getLast?]
  ·left
   have c0:(pre++46::post).count 46=post.count 46+1:=by
    rw [List.count_append,Hz2.2 h];simp
   have i0:=I1 46 post pre h
   have cu:cut (pre++46::post)=pre::cut post:=by simpa [cut] using Ap1 post pre [] h
   have hl:(pre++46::post).length=pre.length+post.length+1:=by simp;omega
   have sl1:List.drop (0:Int).toNat (List.take ((pre.length:Int)+0).toNat (pre++46::post))=pre:=by
    simp
   have sl2:List.drop ((pre.length:Int)+1).toNat (List.take (pre++46::post).length (pre++46::post))=post:=by
    have:((pre.length:Int)+1).toNat=pre.length+1:=by omega
    rw [this,C1,List.drop_append]
    simp
   have sl3:(done++[]::[]::List.replicate (post.count 46) ([]:List UInt8)).length=done.length+post.count 46+2:=by simp;omega
   refine ⟨(done++[pre],post),?_,⟨by simp;omega,by simp only;omega⟩,by simp;omega,by simp [Bx0,cu]⟩
   rw [c0]
   rw [c0] at h1
   simp (disch:=omega) only [Ax4,c5,i0,sl1,sl2,xe,EVP,EV,simprocAttr]
   simp [List.replicate_succ,List.set_append]
theorem ik (s:List UInt8) (hs:s.length≤1000000):S Zt 4 [.s s, .s [46], .i .i64 0, .i .i64 (-1)]=some [Bc (cut s)]:=by
 refine Gb7 (N:=s.length+1) rfl ?_
 have h1:=Bz3 s
 have h2:s.count 46≤s.length:=List.count_le_length
 obtain ⟨l,x,hx⟩:∃l x,cut s=l++[x]:=⟨(cut s).dropLast,(cut s).getLast (by intro e;simp [e] at h1),(List.dropLast_concat_getLast _).symm⟩
 have h3:l.length=s.count 46:=by rw [hx] at h1;simpa using h1
 have h4:((l.length:Int)+1 - 1)=(l.length:Int):=by omega
 have h5:((l++[([]:List UInt8)]).length:Int)=l.length+1:=by simp
 have h6:((l++[x]).length:Int)=l.length+1:=by simp
 have g1:(l++[([]:List UInt8)])[l.length]? =some []:=by simp
 have g2:(l++[x]).getLastD []=x:=by simp [List.getLastD_eq_getLast?]
 have g3:(l++[([]:List UInt8)]).set l.length x=l++[x]:=by simp
 have hk:=iq s (s.length+1) (by omega) hs (.i .i64 (-1)) .u
 rw [hx] at hk ⊢
 simp only [Bx0,Cy,List.dropLast_concat] at hk
 simp (disch:=omega) only [Ax4,Cg0,hk,h4,h6,g1,g2,g3,xe,EVP,EV,simprocAttr]
 have g4:((l.length:Int)+1).toNat=(l++[x]).length:=by simp
 rw [g4,C1]
 rfl
theorem cp (s:List UInt8) (hs:s.length≤1000000):S y3 2 [.s s, .s [46]]=some [Bc (cut s)]:=by
 refine Hh2 (N:=1) rfl ?_
 simp (disch:=omega) only [Hz6,ik,xe,EVP,EV,simprocAttr]
theorem Xz (s t:List UInt8) (hs:s.length≤9223372036854775807):S Z0 2 [.s s, .s t]=some [.b (t.isSuffixOf s)]:=by
 refine Gb8 (N:=1) rfl ?_
 by_cases h:t.length≤s.length
 ·have e:((s.length:Int) - (t.length:Int)).toNat=s.length - t.length:=by omega
  simp (disch:=omega) only [Dg7,e,xe,EVP,EV,simprocAttr]
  simp only [C1]
  congr 4
  rw [Cr,J7,decide_eq_true_eq]
  refine ⟨fun h=>h▸List.drop_suffix _ _,fun h=> ?_⟩
  obtain ⟨p,rfl⟩:=h
  simp
 ·have h2:t.isSuffixOf s=false:=by
   rw [Bool.eq_false_iff,ne_eq,J7]
   exact fun h'=>h h'.length_le
  simp (disch:=omega) only [Dg7,h2,xe,EVP,EV,simprocAttr]
theorem K3 (s t:List UInt8) (hs:s.length≤9223372036854775807):S y4 2 [.s s, .s t]=some [.b (t.isSuffixOf s)]:=by
 refine Hh3 (N:=1) rfl ?_
 simp (disch:=omega) only [Hz7,Xz,xe,EVP,EV,simprocAttr]
theorem lv (x y:List UInt8):S Zn 2 [.s x, .s y]=some [.i .i64 (Lib.compareBytes x y)]:=by
 refine Gz7 (N:=1) rfl ?_
 simp (disch:=omega) only [Gj2,Fd9,xe,EVP,EV,simprocAttr]
theorem lj (x y:List UInt8):S O3 2 [.s x, .s y]=some [.i .i64 (Lib.compareBytes x y)]:=by
 refine Gc5 (N:=1) rfl ?_
 simp (disch:=omega) only [Gj9,lv,xe,EVP,EV,simprocAttr]
end Go.X.G
/- Names and their labels. -/
namespace Go.X.G
open Go Go.X
def flat (l:List (List UInt8)):List UInt8:=l.flatMap fun x=>x++[46]
def jn (l:List (List UInt8)):List UInt8:=if l=[] then [46] else flat l
def Gy (first:Bool):List (List UInt8)→Bool
 |[]=>true
 |p::r=>Lm p && (!decide (p=[42])||first) && Gy false r
theorem Fx3:Sn 46=false:=by decide
theorem Kl {p:List UInt8} (h:Lm p=true):(46:UInt8)∉p:=by
 unfold Lm at h
 simp at h
 rcases h with rfl|⟨_,h⟩
 ·decide
 ·intro h2
  have:=h 46 h2
  rw [Fx3] at this
  cases this
theorem qb {p:List UInt8} (h:Lm p=true):p≠[]:=by
 rintro rfl
 simp [Lm] at h
theorem G9 {p:List UInt8}:∀{f:Bool} {l:List (List UInt8)},Gy f l=true→p∈l→Lm p=true
 |f,q::r,h,hp=>by
  simp only [Gy,Av] at h
  rcases Af.1 hp with rfl|hp
  ·exact h.1.1
  ·exact G9 h.2 hp
theorem zh:∀{l:List (List UInt8)},Gy false l=true→Gy true l=true
 |[],_=>rfl
 |p::r,h=>by
  simp only [Gy,Av] at h ⊢
  exact ⟨⟨h.1.1,by simp⟩,h.2⟩
theorem am:∀{f:Bool} {a b:List (List UInt8)},Gy f (a++b)=(Gy f a && Gy (f && a.isEmpty) b)
 |f,[],b=>by simp [Gy]
 |f,p::r,b=>by
  simp only [B3,Gy,am (a:=r)]
  simp [Bool.and_assoc]
theorem zl {f:Bool} {l:List (List UInt8)} (h:Gy f l=true) (k:Nat):Gy f (l.drop k)=true:=by
 rw [←Bl k l,am,Av] at h
 have h2:=h.2
 cases f with
 |false=>simpa using h2
 |true=>
  cases he:(l.take k).isEmpty with
  |true=>rw [he] at h2;exact h2
  |false=>rw [he] at h2;exact zh h2
theorem Qc:∀(m:List UInt8) (f:Bool) (cur:List UInt8),spl f cur (m++[46])=if Gy f (pcs cur m)=true then some (pcs cur m) else none
 |[],f,cur=>by
  simp only [Cy,spl,if_true,pcs,Gy,A3,Ns]
  by_cases h:Lm cur=true<;>by_cases h2:cur=[42]<;>cases f<;>simp [h,h2]
 |c::r,f,cur=>by
  simp only [B3,spl,pcs]
  by_cases hc:c=46
  ·simp only [if_pos hc]
   rw [Qc r false []]
   simp only [Gy]
   by_cases h:Lm cur=true<;>by_cases h2:cur=[42]<;>cases f<;>by_cases h3:Gy false (pcs [] r)=true<;>simp [h,h2,h3]
  ·simp only [if_neg hc]
   exact Qc r f (cur++[c])
theorem Qt (b:List UInt8):∀(a cur:List UInt8),pcs cur (a++46::b)=pcs cur a++cut b
 |[],cur=>by simp [pcs,cut]
 |c::r,cur=>by
  simp only [B3,pcs]
  split
  ·rw [Qt b r []];rfl
  ·exact Qt b r _
theorem P2:∀(m cur:List UInt8),flat (pcs cur m)=cur++m++[46]
 |[],cur=>by simp [pcs,flat]
 |c::r,cur=>by
  simp only [pcs]
  split
  ·rename_i h
   have:=P2 r []
   simp only [flat,Gc] at this ⊢
   rw [this,h];simp
  ·rw [P2 r (cur++[c])];simp
theorem Wx (a b:List (List UInt8)):flat (a++b)=flat a++flat b:=by simp [flat]
theorem Gf4 (cur m:List UInt8):pcs cur m≠[]:=by
 cases m with
 |nil=>simp [pcs]
 |cons c r=>
  simp only [pcs]
  split
  ·simp
  ·intro h
   have:=P2 r (cur++[c])
   rw [h] at this
   simp [flat] at this
theorem P4:∀(l:List (List UInt8)),(∀p∈l,(46:UInt8)∉p)→cut (flat l)=l++[[]]
 |[],_=>rfl
 |p::l,h=>by
  have h1:flat (p::l)=p++46::flat l:=by simp [flat]
  rw [h1]
  show pcs [] _=_
  rw [Qt,Vm p [] (h p (by simp)),P4 l (fun q hq=>h q (by simp [hq]))]
  simp
theorem I6:∀(l:List (List UInt8)),l≠[]→∃m,flat l=m++[46]
 |[p],_=>⟨p,by simp [flat]⟩
 |p::q::r,_=>by
  obtain ⟨m,hm⟩:=I6 (q::r) (by simp)
  exact ⟨p++[46]++m,by simp only [flat,Gc] at hm ⊢;rw [hm];simp⟩
theorem qp {l:List (List UInt8)} (hl:l≠[]) (h:∀p∈l,(46:UInt8)∉p) {m:List UInt8} (hm:flat l=m++[46]):cut m=l:=by
 have h1:=P4 l h
 rw [hm] at h1
 have h2:cut (m++[46])=cut m++[[]]:=by
  show pcs [] (m++46::[])=_
  rw [Qt];rfl
 rw [h2] at h1
 exact Nr h1
theorem Ih {l:List (List UInt8)} (h:Gy true l=true) (hl:l≠[]):2≤(flat l).length:=by
 cases l with
 |nil=>exact absurd rfl hl
 |cons p r=>
  have h1:=qb (G9 h (F2 ..))
  have:0<p.length:=Bw.2 h1
  simp [flat];omega
theorem Fv5 {l:List (List UInt8)} (h:Gy true l=true) (hl:l≠[]) (hlen:(flat l).length≤254):nm (flat l)=some l:=by
 obtain ⟨m,hm⟩:=I6 l hl
 have h1:=qp hl (fun p hp=>Kl (G9 h hp)) hm
 have h2:=Ih h hl
 unfold nm
 rw [if_neg (by intro e;rw [e] at h2;simp at h2),if_pos ⟨h2,hlen,by rw [hm];simp⟩,hm,Qc]
 have:pcs [] m=l:=h1
 rw [this,if_pos h]
theorem Fv4 {n:List UInt8} {l:List (List UInt8)} (h:nm n=some l):(n=[46]∧l=[])∨(l≠[]∧Gy true l=true∧n=flat l∧n.length≤254):=by
 unfold nm at h
 split at h
 ·rename_i e;injection h with h;exact .inl ⟨e,h.symm⟩
 ·split at h
  ·rename_i h1
   right
   obtain ⟨h2,h3,h4⟩:=h1
   obtain ⟨m,hm⟩:∃m,n=m++[46]:=by
    refine ⟨n.dropLast,?_⟩
    have:n≠[]:=by intro e;simp [e] at h2
    have h5:=List.dropLast_concat_getLast this
    rw [←h5]
    congr 1
    ·simp
    ·have h6:n[n.length - 1]? =some (n.getLast this):=by rw [Iv];exact Ay _
     rw [h6] at h4
     injection h4 with h4
     simp [h4]
   rw [hm,Qc] at h
   split at h
   ·rename_i h5
    injection h with h
    subst h
    refine ⟨Gf4 _ _,h5,?_,by omega⟩
    rw [P2,hm];simp
   ·cases h
  ·cases h
theorem Es9 {n:List UInt8}:vld n=true↔nm n=some (lbl n):=by
 unfold vld lbl
 cases nm n<;>simp
theorem vld_cases {n:List UInt8} (h:vld n=true):(n=[46]∧lbl n=[])∨(lbl n≠[]∧Gy true (lbl n)=true∧n=flat (lbl n)∧n.length≤254):=Fv4 (Es9.1 h)
theorem l9 {n:List UInt8} (h:vld n=true):Gy true (lbl n)=true:=by
 rcases vld_cases h with ⟨_,h⟩|⟨_,h,_⟩
 ·rw [h];rfl
 ·exact h
theorem Qq {n:List UInt8} (h:vld n=true):n=jn (lbl n):=by
 unfold jn
 rcases vld_cases h with ⟨h1,h2⟩|⟨h1,_,h2,_⟩
 ·rw [h2,if_pos rfl];exact h1
 ·rw [if_neg h1];exact h2
theorem N0 {n:List UInt8} (h:vld n=true):n.length≤254:=by
 rcases vld_cases h with ⟨h1,_⟩|⟨_,_,_,h⟩
 ·simp [h1]
 ·exact h
theorem Pt:lbl [46]=[]:=rfl
theorem bw {l:List (List UInt8)} (h:Gy true l=true) (hl:l≠[]):flat l≠[46]:=by
 intro e
 have:=Ih h hl
 rw [e] at this;simp at this
theorem Fx4 {n:List UInt8} (h:vld n=true):lbl n=[]↔n=[46]:=by
 rcases vld_cases h with ⟨h1,h2⟩|⟨h1,h2,h3,_⟩
 ·simp [h1,Pt]
 ·constructor
  ·intro e;exact absurd e h1
  ·intro e;rw [h3] at e;exact absurd e (bw h2 h1)
theorem Gq4 {l:List (List UInt8)} (h:Gy true l=true) (hlen:(flat l).length≤254):vld (jn l)=true∧lbl (jn l)=l:=by
 unfold jn
 by_cases hl:l=[]
 ·subst hl;exact ⟨rfl,rfl⟩
 ·rw [if_neg hl]
  have:=Fv5 h hl hlen
  exact ⟨by simp [vld,this],by simp [lbl,this]⟩
theorem Mq {a b:List UInt8} (ha:vld a=true) (hb:vld b=true) (h:lbl a=lbl b):a=b:=by
 rw [Qq ha,Qq hb,h]
theorem Wv (l:List (List UInt8)) (k:Nat):(flat (l.drop k)).length≤(flat l).length:=by
 have:flat l=flat (l.take k)++flat (l.drop k):=by rw [←Wx,Bl]
 rw [this,Az];omega
theorem K5 {n:List UInt8} (h:vld n=true) (k:Nat):vld (jn ((lbl n).drop k))=true∧lbl (jn ((lbl n).drop k))=(lbl n).drop k:=by
 refine Gq4 (zl (l9 h) k) ?_
 rcases vld_cases h with ⟨_,h1⟩|⟨_,_,h1,h2⟩
 ·rw [h1];simp [flat]
 ·have:=Wv (lbl n) k
  rw [←h1] at this;omega
end Go.X.G
/- Names: what the program's functions give. -/
namespace Go.X.G
open Go Go.X
def ord (s:List UInt8):Bool:=decide (1≤s.length) && decide (s.length≤63) && s.all Sn
theorem Bw4 (s:List UInt8):Lm s=(decide (s=[42])||ord s):=rfl
theorem Dv6:ord [42]=false:=by decide
theorem fy (s:List UInt8) (N:Nat) (hN:s.length<N) (hs:s.length≤9223372036854775807):
  Dn3.ev S N [.s s]=some (if s.all Sn=true then .yld 0 [] else .ret [.b false]):=by
 refine E4 s (fun i=>[.i .i64 (i:Int)]) (fun i r=>if r.all Sn=true then .yld 0 [] else .ret [.b false]) rfl hN (fun i c r hd hi hc=> ?_) ?_
 ·have key:Cc0.ev S N ([.s s]++[.i .i64 (i:Int)])=some (if Sn c=true then .yld 1 [.i .i64 ((i:Int)+1)] else .ret [.b false]):=by
   simp (disch:=omega) only [Aw4,hc,xe,EVP,EV,simprocAttr]
   unfold Sn
   grind
  rw [key]
  rcases Ak (Sn c) with h|h<;>simp [h,Out.goes]
 ·simp (disch:=omega) [Aw4,xe,EVP,EV,simprocAttr,Out.goes]
theorem Jb (s:List UInt8) (hs:s.length≤9223372036854775807):S Ap9 1 [.s s]=some [.b (ord s)]:=by
 refine Hh1 (N:=s.length+1) rfl ?_
 unfold ord
 by_cases h1:s=[]
 ·subst h1
  simp (disch:=omega) [Aw4,xe,EVP,EV,simprocAttr]
 ·have h2:1≤s.length:=Bw.2 h1
  by_cases h3:s.length≤63
  ·simp (disch:=omega) only [Aw4,fy,h1,xe,EVP,EV,simprocAttr]
   cases s.all Sn<;>simp [h2,h3]
  ·simp (disch:=omega) only [Aw4,h1,xe,EVP,EV,simprocAttr]
   simp [h3]
def okP (i:Nat) (p:List UInt8):Bool:=ord p||(decide (i=0) && decide (p=[42]))
def Dw5:Nat→List (List UInt8)→Bool
 |_,[]=>true
 |i,p::r=>okP i p && Dw5 (i+1) r
theorem Zj:∀(l:List (List UInt8)) (i:Nat),Dw5 i l=Gy (decide (i=0)) l
 |[],_=>rfl
 |p::r,i=>by
  have h1:=Zj r (i+1)
  simp only [Dw5,Gy,h1,okP,Bw4]
  by_cases h2:p=[42]
  ·subst h2
   by_cases h3:i=0<;>simp [Dv6,h3]
  ·simp [h2]
theorem Cf2 (p q:PV) (l:List (List UInt8)) (hl:l.length≤1000000) (hw:∀x∈l,x.length≤9223372036854775807) (N:Nat) (hN:l.length<N):
  Dp1.ev S N [p,q,Bc l]=some (if Dw5 0 l=true then .yld 0 [] else .ret [.b false]):=by
 refine E4 l (fun i=>[.i .i64 (i:Int)]) (fun i r=>if Dw5 i r=true then .yld 0 [] else .ret [.b false]) rfl hN (fun i c r hd hi hc=> ?_) ?_
 ·have hcw:=hw c (A5 hc)
  have key:Cc4.ev S N ([p,q,Bc l]++[.i .i64 (i:Int)])=some (if okP i c=true then .yld 1 [.i .i64 ((i:Int)+1)] else .ret [.b false]):=by
   rcases Ak (ord c) with h1|h1
   ·simp (disch:=omega) only [U2,Jb,hc,h1,xe,EVP,EV,simprocAttr]
    simp [okP,h1]
   ·by_cases h2:i=0
    ·subst h2
     by_cases h3:c=[42]
     ·subst h3
      simp (disch:=omega) only [U2,Jb,hc,h1,xe,EVP,EV,simprocAttr]
      simp [okP]
     ·simp (disch:=omega) only [U2,Jb,hc,h1,h3,xe,EVP,EV,simprocAttr]
      simp [okP,h1,h3]
    ·simp (disch:=omega) only [U2,Jb,hc,h1,xe,EVP,EV,simprocAttr]
     simp [okP,h1,h2]
  rw [key]
  rcases Ak (okP i c) with h|h<;>simp [h,Dw5,Out.goes]
 ·simp (disch:=omega) only [U2,xe,EVP,EV,simprocAttr]
  simp [Out.goes,Dw5]
theorem Vn:∀(m cur:List UInt8) (x:List UInt8),x∈pcs cur m→x.length≤cur.length+m.length
 |[],cur,x,h=>by simp [pcs] at h;subst h;simp
 |c::r,cur,x,h=>by
  simp only [pcs] at h
  split at h
  ·rcases Af.1 h with rfl|h
   ·omega
   ·have:=Vn r [] x h;simp at this ⊢;omega
  ·have:=Vn r _ x h;simp at this ⊢;omega
theorem Dc5 (m x:List UInt8) (h:x∈cut m):x.length≤m.length:=by simpa using Vn m [] x h
theorem Hq8 (m:List UInt8):(cut m).length≤m.length+1:=by
 have:=Bz3 m
 have:m.count 46≤m.length:=List.count_le_length
 omega
theorem Ay9 (n:List UInt8):([46]:List UInt8).isSuffixOf n=true↔∃m,n=m++[46]:=by
 rw [J7]
 exact ⟨fun ⟨m,h⟩=>⟨m,h.symm⟩,fun ⟨m,h⟩=>⟨m,h.symm⟩⟩
theorem Cl4 (m:List UInt8) (hm:m≠[]) (hl:m.length≤253):vld (m++[46])=Dw5 0 (cut m):=by
 have h1:m++[46]≠[46]:=fun e=>hm (Nr (bs:=[46]) (by simpa using e))
 have h2:0<m.length:=Bw.2 hm
 unfold vld nm
 rw [if_neg h1,if_pos ⟨by simp;omega,by simp;omega,by simp⟩,Qc,Zj]
 have e:pcs [] m=cut m:=rfl
 have e2:Gy (decide ((0:Nat)=0)) (cut m)=Gy true (cut m):=rfl
 rw [e,e2]
 cases Gy true (cut m)<;>rfl
theorem Dy1 (m:List UInt8) (h:vld (m++[46])=true) (hm:m≠[]):lbl (m++[46])=cut m:=by
 rcases vld_cases h with ⟨h1,_⟩|⟨h1,h2,h3,_⟩
 ·exact absurd (Nr (bs:=[46]) (by simpa using h1)) hm
 ·exact (qp h1 (fun p hp=>Kl (G9 h2 hp)) h3.symm).symm
theorem B4 (n:List UInt8) (hn:n.length≤9223372036854775807):S M5 1 [.s n]=some [.b (vld n)]:=by
 refine Hm9 (N:=300) rfl ?_
 by_cases h0:n=[46]
 ·subst h0
  simp (disch:=omega) only [U2,xe,EVP,EV,simprocAttr]
  rfl
 ·by_cases h1:255≤n.length
  ·have hv:vld n=false:=by
    rw [Bool.eq_false_iff];intro h;have:=N0 h;omega
   simp (disch:=omega) only [U2,h0,hv,xe,EVP,EV,simprocAttr]
  ·rcases Ak (([46]:List UInt8).isSuffixOf n) with h2|h2
   ·obtain ⟨m,rfl⟩:=(Ay9 n).1 h2
    have hm:m≠[]:=fun e=>h0 (by simp [e])
    have hl:(m++[46]).length=m.length+1:=by simp
    have hml:m.length≤1000000:=by omega
    have e:List.drop 0 (List.take (((m++[46]).length:Int) - 1).toNat (m++[46]))=m:=by
     have:(((m++[46]).length:Int) - 1).toNat=m.length:=by omega
     rw [this];simp
    have hc:=Hq8 m
    have hv:=Cl4 m hm (by omega)
    have hk:=Cf2 (.s (m++[46])) (.b true) (cut m) (by omega) (fun x hx=>by have:=Dc5 m x hx;omega) 300 (by omega)
    simp (disch:=omega) only [U2,K3,cp,e,hk,h0,h2,xe,EVP,EV,simprocAttr]
    rw [hv]
    cases Dw5 0 (cut m)<;>simp
   ·have hv:vld n=false:=by
     rw [Bool.eq_false_iff];intro h
     rcases vld_cases h with ⟨h3,_⟩|⟨h3,_,h5,_⟩
     ·exact h0 h3
     ·obtain ⟨m,hm⟩:=I6 _ h3
      have:=(Ay9 n).2 ⟨m,h5.trans hm⟩
      rw [h2] at this;cases this
    simp (disch:=omega) only [U2,K3,h0,h2,hv,xe,EVP,EV,simprocAttr]
theorem Og (n:List UInt8) (hn:n.length≤9223372036854775807):S Q6 1 [.s n]=some [Bc (lbl n)]:=by
 refine Gc4 (N:=1) rfl ?_
 by_cases h0:n=[46]
 ·subst h0
  simp (disch:=omega) only [Ax6,Pt,xe,EVP,EV,simprocAttr]
 ·rcases Ak (vld n) with h1|h1
  ·obtain ⟨m,hm,rfl⟩:∃m,m≠[]∧n=m++[46]:=by
    rcases vld_cases h1 with ⟨h3,_⟩|⟨h3,_,h5,_⟩
    ·exact absurd h3 h0
    ·obtain ⟨m,hm⟩:=I6 _ h3
     exact ⟨m,fun e=>h0 (by rw [h5,hm,e];rfl),h5.trans hm⟩
   have hl:(m++[46]).length=m.length+1:=by simp
   have e:List.drop 0 (List.take (((m++[46]).length:Int) - 1).toNat (m++[46]))=m:=by
    have:(((m++[46]).length:Int) - 1).toNat=m.length:=by omega
    rw [this];simp
   have hl2:=N0 h1
   have e2:=Dy1 m h1 hm
   simp (disch:=omega) only [Ax6,B4,cp,e,e2,h0,h1,xe,EVP,EV,simprocAttr]
  ·have e:lbl n=[]:=by
    unfold lbl;unfold vld at h1
    cases h:nm n with
    |none=>rfl
    |some l=>rw [h] at h1;cases h1
   simp (disch:=omega) only [Ax6,B4,h0,h1,e,xe,EVP,EV,simprocAttr]
theorem Ny (p:List UInt8) (l:List (List UInt8)):flat (p::l)=p++46::flat l:=by simp [flat]
def Kx (n:List UInt8):List UInt8:=if vld n=true∧n≠[46] then jn ((lbl n).drop 1) else []
def T7 (n:List UInt8):Bool:=vld n && !decide (n=[46])
theorem Of (n:List UInt8) (hn:n.length≤9223372036854775807):S f9 1 [.s n]=some [.s (Kx n), .b (T7 n)]:=by
 refine Hn2 (N:=1) rfl ?_
 unfold Kx T7
 by_cases h0:n=[46]
 ·subst h0
  simp (disch:=omega) only [Cl0,xe,EVP,EV,simprocAttr]
  simp
 ·rcases Ak (vld n) with h1|h1
  ·rcases vld_cases h1 with ⟨h3,_⟩|⟨h3,h4,h5,h6⟩
   ·exact absurd h3 h0
   ·cases hl:lbl n with
    |nil=>exact absurd hl h3
    |cons p r=>
     rw [hl] at h4 h5
     have hp:=Kl (G9 h4 (F2 ..))
     have hi:=c6 n 46
     have hc:(((46:UInt8).toNat:Nat):Int)=46:=rfl
     have hx:Lib.indexByte n 46=(p.length:Int):=by rw [h5,Ny];exact I1 46 _ p hp
     rw [hc,hx] at hi
     have hlen:n.length=p.length+1+(flat r).length:=by rw [h5,Ny];simp;omega
     have e:List.drop ((p.length:Int)+1).toNat (List.take n.length n)=flat r:=by
      have:((p.length:Int)+1).toNat=p.length+1:=by omega
      rw [this,C1,h5,Ny]
      simp
     by_cases h7:r=[]
     ·subst h7
      have e2:flat []=[]:=rfl
      simp (disch:=omega) only [Cl0,B4,hi,e,e2,h0,h1,xe,EVP,EV,simprocAttr]
      simp [jn]
     ·have e2:¬flat r=[]:=by
       obtain ⟨m,hm⟩:=I6 r h7
       rw [hm];simp
      simp (disch:=omega) only [Cl0,B4,hi,e,e2,h0,h1,xe,EVP,EV,simprocAttr]
      simp [jn,h7]
  ·simp (disch:=omega) only [Cl0,B4,h0,h1,xe,EVP,EV,simprocAttr]
   simp
def By3 (n top:List UInt8):Bool:=(decide (top=[46])||decide (n=top))||(46::top).isSuffixOf n
theorem Fc1 (n top:List UInt8) (hn:n.length≤9223372036854775807) (ht:top.length≤1000000):S Ar3 2 [.s n, .s top]=some [.b (By3 n top)]:=by
 refine Hl0 (N:=1) rfl ?_
 unfold By3
 have h0:([46]:List UInt8).length=1:=rfl
 by_cases h1:top=[46]<;>by_cases h2:n=top<;>simp (disch:=omega) only [Hb1,K3,h1,h2,xe,EVP,EV,simprocAttr]
 all_goals simp
theorem iy {a b:List (List UInt8)} (ha:Gy true a=true) (hb:Gy true b=true) (h:(46::flat b)<:+flat a):b<:+a:=by
 obtain ⟨p,hp⟩:=h
 have h1:=P4 a (fun x hx=>Kl (G9 ha hx))
 have h2:=P4 b (fun x hx=>Kl (G9 hb hx))
 rw [←hp] at h1
 have h3:cut (p++46::flat b)=cut p++cut (flat b):=Qt (flat b) p []
 rw [h3,h2,←Ap] at h1
 exact ⟨cut p,Nr h1⟩
theorem Db6 {n top:List UInt8} (hn:vld n=true) (ht:vld top=true):By3 n top=true↔lbl top<:+lbl n:=by
 unfold By3
 simp only [Am,decide_eq_true_eq,J7]
 constructor
 ·rintro ((rfl|rfl)|h)
  ·rw [Pt];exact List.nil_suffix
  ·exact List.suffix_refl _
  ·rcases vld_cases ht with ⟨h1,h2⟩|⟨h1,h2,h3,_⟩
   ·rw [h2];exact List.nil_suffix
   ·rcases vld_cases hn with ⟨h5,_⟩|⟨h5,h6,h7,_⟩
    ·rw [h5] at h
     have h9:=h.length_le
     have h8:=Ih h2 h1
     rw [←h3] at h8
     simp only [As,Bb] at h9;omega
    ·rw [h3,h7] at h
     exact iy h6 h2 h
 ·intro h
  obtain ⟨p,hp⟩:=h
  rcases vld_cases ht with ⟨h1,h2⟩|⟨h1,h2,h3,_⟩
  ·exact .inl (.inl h1)
  ·by_cases hp0:p=[]
   ·left;right
    subst hp0
    exact Mq hn ht hp.symm
   ·right
    rcases vld_cases hn with ⟨_,h5⟩|⟨h5,h6,h7,_⟩
    ·rw [h5] at hp
     exact absurd (List.append_eq_nil_iff.1 hp).1 hp0
    ·obtain ⟨m,hm⟩:=I6 p hp0
     rw [h7,←hp,Wx,hm]
     exact ⟨m,by rw [Ap,←h3];simp⟩
theorem R3 {α:Type} [DecidableEq α]:∀(a b:List α),i7 a b=b.length↔b<+:a
 |[],[]=>by simp [i7]
 |[],y::ys=>by simp [i7]
 |x::xs,[]=>by simp [i7]
 |x::xs,y::ys=>by
  have:=R3 xs ys
  simp only [i7]
  split
  ·rename_i h;subst h
   simp [this,K4]
  ·rename_i h
   simp [K4,Ne.symm h]
theorem Yn (a b:List (List UInt8)):ed a b=b.length↔b<:+a:=by
 unfold ed
 have:=R3 a.reverse b.reverse
 rw [List.length_reverse] at this
 rw [this,List.reverse_prefix]
theorem B0 {n top:List UInt8}:under n top=true↔vld n=true∧vld top=true∧lbl top<:+lbl n:=by
 unfold under
 simp [Yn,and_assoc]
theorem v7 {n top:List UInt8} (hn:vld n=true) (ht:vld top=true):By3 n top=under n top:=by
 rw [Cr,Db6 hn ht,B0]
 simp [hn,ht]
theorem E9 (n top:List UInt8) (hn:n.length≤9223372036854775807) (ht:top.length≤9223372036854775807):S Kb 2 [.s n, .s top]=some [.b (under n top)]:=by
 refine Hn3 (N:=1) rfl ?_
 rcases Ak (vld n) with h1|h1
 ·rcases Ak (vld top) with h2|h2
  ·have h3:=N0 h2
   simp (disch:=omega) only [Es6,B4,Fc1,h1,h2,xe,EVP,EV,simprocAttr]
   rw [v7 h1 h2]
  ·have h3:under n top=false:=by simp [under,h2]
   simp (disch:=omega) only [Es6,B4,h1,h2,h3,xe,EVP,EV,simprocAttr]
 ·have h3:under n top=false:=by simp [under,h1]
  simp (disch:=omega) only [Es6,B4,h1,h3,xe,EVP,EV,simprocAttr]
end Go.X.G
/- Names: order, common ancestors, wildcards. -/
namespace Go.X.G
open Go Go.X
theorem Pk:∀(a:List UInt8),Op.bytesLess a a=false
 |[]=>rfl
 |a::x=>by simp [Op.bytesLess,Pk x]
theorem Ks:∀(a b:List UInt8),Lib.compareBytes a b=cmpS a b
 |[],[]=>rfl
 |[],_::_=>rfl
 |_::_,[]=>rfl
 |a::x,b::y=>by
  have ih:=Ks x y
  unfold cmpS at ih ⊢
  simp only [Lib.compareBytes,Op.bytesLess,ih]
  by_cases h1:a<b
  ·simp [h1]
  ·by_cases h2:b<a
   ·have h3:a≠b:=fun e=>by subst e;exact h1 h2
    simp [h1,h2,h3]
   ·have h3:a=b:=UInt8.le_antisymm (UInt8.not_lt.1 h2) (UInt8.not_lt.1 h1)
    subst h3
    simp [h1]
theorem H7 {a b:List UInt8}:cmpS a b=0↔a=b:=by
 unfold cmpS
 by_cases h:a=b
 ·subst h;simp [Pk]
 ·cases h2:Op.bytesLess a b<;>simp [h]
theorem Jn (x y:List UInt8):S O3 2 [.s x, .s y]=some [.i .i64 (cmpS x y)]:=by
 rw [lj,Ks]
def Sx:List (List UInt8)→List (List UInt8)→Option Int
 |x::xs,y::ys=>if x=y then Sx xs ys else some (cmpS x y)
 |_,_=>none
theorem Bz7:∀(a b:List (List UInt8)),Sx a b=if i7 a b<a.length∧i7 a b<b.length then some (cmpS (a.getD (i7 a b) []) (b.getD (i7 a b) [])) else none
 |[],b=>by simp [Sx,i7]
 |x::xs,[]=>by simp [Sx,i7]
 |x::xs,y::ys=>by
  have ih:=Bz7 xs ys
  simp only [Sx,i7]
  by_cases h:x=y
  ·simp only [if_pos h,ih]
   simp
  ·simp [h]
def Aj8 (a b:List (List UInt8)):Int:=match Sx a.reverse b.reverse with
 |some c=>c
 |none=>if a.length<b.length then -1 else if b.length<a.length then 1 else 0
theorem qd (a:List (List UInt8)) (k:Nat) (h:k<a.length):a.reverse.getD k []=a.getD (a.length - 1 - k) []:=by
 simp [Bd,List.getElem?_reverse h]
theorem Wr {a b:List UInt8} (ha:vld a=true) (hb:vld b=true):Im a b=Aj8 (lbl a) (lbl b):=by
 unfold Im Aj8
 rw [Bz7]
 have e:i7 (lbl a).reverse (lbl b).reverse=ed (lbl a) (lbl b):=rfl
 rw [e,ha,hb]
 simp only [List.length_reverse,Bool.and_self,if_true]
 by_cases h:ed (lbl a) (lbl b)<(lbl a).length∧ed (lbl a) (lbl b)<(lbl b).length
 ·rw [if_pos h,if_pos h,qd _ _ h.1,qd _ _ h.2]
 ·rw [if_neg h,if_neg h]
theorem lq (a b:List (List UInt8)) (p1 p2 p3 p4:PV) (ha:a.length≤1000) (hb:b.length≤1000) (N:Nat) (hN:1001<N):
  Bq0.ev S N [p1,p2,p3,p4,Bc a,Bc b]=some (match Sx a.reverse b.reverse with|some c=> .ret [.i .i64 c]|none=> .yld 0 []):=by
 have key:=M7 (fn:=S) (N:=N) (η:=[p1,p2,p3,p4,Bc a,Bc b]) (id:=1) (init:=[(.c (.i .i64 (1)))]) (body:=Cc3) (α:=Nat) (fun k=>[.i .i64 ((k:Int)+1)])
  (fun k=>match Sx (a.reverse.drop k) (b.reverse.drop k) with|some c=> .ret [.i .i64 c]|none=> .yld 0 []) (fun k=>k≤a.length∧k≤b.length) (fun k=>a.length - k) 0 rfl ⟨Ct _,Ct _⟩ (by omega) ?_
 ·simpa [Bq0] using key
 ·rintro k ⟨h1,h2⟩
  by_cases h3:k<a.length
  ·by_cases h4:k<b.length
   ·have e1:((a.length:Int) - ((k:Int)+1)).toNat=a.length - 1 - k:=by omega
    have e2:((b.length:Int) - ((k:Int)+1)).toNat=b.length - 1 - k:=by omega
    have g1:a[a.length - 1 - k]? =some (a[a.length - 1 - k]'(by omega)):=Ay (by omega)
    have g2:b[b.length - 1 - k]? =some (b[b.length - 1 - k]'(by omega)):=Ay (by omega)
    have d1:a.reverse.drop k=(a[a.length - 1 - k]'(by omega))::a.reverse.drop (k+1):=by
     rw [Cb (by simpa using h3)];simp
    have d2:b.reverse.drop k=(b[b.length - 1 - k]'(by omega))::b.reverse.drop (k+1):=by
     rw [Cb (by simpa using h4)];simp
    rw [d1,d2]
    generalize (a[a.length - 1 - k]'(by omega))=x at g1
    generalize (b[b.length - 1 - k]'(by omega))=y at g2
    simp only [Sx]
    by_cases h:x=y
    ·left
     have h5:cmpS x y=0:=H7.2 h
     refine ⟨k+1,?_,⟨by omega,by omega⟩,by omega,by rw [if_pos h]⟩
     simp (disch:=omega) only [dh,Jn,e1,e2,g1,g2,h5,xe,EVP,EV,simprocAttr]
    ·right
     have h5:¬cmpS x y=0:=fun e=>h (H7.1 e)
     rw [if_neg h]
     simp (disch:=omega) only [dh,Jn,e1,e2,g1,g2,h5,xe,EVP,EV,simprocAttr]
     simp [Out.goes]
   ·right
    have d2:b.reverse.drop k=[]:=Uh (by simp;omega)
    have z:Sx (a.reverse.drop k) []=none:=by cases a.reverse.drop k<;>rfl
    rw [d2,z]
    simp (disch:=omega) [dh,xe,EVP,EV,simprocAttr,Out.goes]
  ·right
   have d1:a.reverse.drop k=[]:=Uh (by simp;omega)
   have z:Sx [] (b.reverse.drop k)=none:=rfl
   rw [d1,z]
   simp (disch:=omega) [dh,xe,EVP,EV,simprocAttr,Out.goes]
theorem Sj (a b:List UInt8) (hn:a.length≤9223372036854775807) (ht:b.length≤9223372036854775807):S Ox 2 [.s a, .s b]=some [.i .i64 (Im a b)]:=by
 refine Hl5 (N:=1002) rfl ?_
 have h1:=Mk a
 have h2:=Mk b
 rcases Ak (vld a) with h3|h3<;>rcases Ak (vld b) with h4|h4
 ·rw [Wr h3 h4]
  unfold Aj8
  have hk:=lq (lbl a) (lbl b) (.s a) (.s b) (.b true) (.b true) (by omega) (by omega) 1002 (by omega)
  cases h5:Sx (lbl a).reverse (lbl b).reverse with
  |some c=>
   rw [h5] at hk
   simp (disch:=omega) only [dh,B4,Og,hk,h3,h4,xe,EVP,EV,simprocAttr]
  |none=>
   rw [h5] at hk
   simp (disch:=omega) only [dh,B4,Og,hk,h3,h4,xe,EVP,EV,simprocAttr]
   grind
 all_goals unfold Im
 all_goals simp (disch:=omega) only [dh,B4,Jn,h3,h4,xe,EVP,EV,simprocAttr]
 all_goals simp
theorem Dp9 {n:List UInt8} (h:vld n=true) (k:Nat):(jn ((lbl n).drop k)).length≤254:=N0 (K5 h k).1
theorem wq {n:List UInt8} (h:vld n=true):(n[0]? =some 42↔(lbl n)[0]? =some [42]):=by
 rcases vld_cases h with ⟨h1,h2⟩|⟨h1,h2,h3,_⟩
 ·subst h1;simp [Pt]
 ·cases hl:lbl n with
  |nil=>exact absurd hl h1
  |cons p r=>
   rw [hl] at h2 h3
   have hp:=G9 h2 (F2 ..)
   have hne:=qb hp
   cases p with
   |nil=>exact absurd rfl hne
   |cons c q=>
    rw [h3,Ny]
    simp only [B3,Cd,Option.some.injEq]
    constructor
    ·rintro rfl
     unfold Lm at hp
     simp at hp
     rcases hp with h|h
     ·rw [h]
     ·exfalso
      have:Sn 42=false:=by decide
      rw [this] at h;simp at h
    ·intro h;injection h
end Go.X.G
/- The canonical order of names is a total order. -/
namespace Go.X.G
open Go Go.X
structure TO {α:Type} (lt:α→α→Prop):Prop where
 irr:∀a,¬lt a a
 tr:∀a b c,lt a b→lt b c→lt a c
 tri:∀a b,lt a b∨a=b∨lt b a
theorem TO.asym {α:Type} {lt:α→α→Prop} (h:TO lt) {a b:α} (h1:lt a b):¬lt b a:=fun h2=>h.irr a (h.tr _ _ _ h1 h2)
theorem TO.ntr {α:Type} {lt:α→α→Prop} (h:TO lt) {a b c:α} (h1:¬lt a b) (h2:¬lt b c):¬lt a c:=by
 intro h3
 rcases h.tri b a with h4|h4|h4
 ·exact h2 (h.tr _ _ _ h4 h3)
 ·subst h4;exact h2 h3
 ·exact h1 h4
def lex {α:Type} (lt:α→α→Prop):List α→List α→Prop
 |[],[]=>False
 |[],_::_=>True
 |_::_,[]=>False
 |a::x,b::y=>lt a b∨(a=b∧lex lt x y)
theorem Bj8 {α:Type} {lt:α→α→Prop} (h:TO lt):∀x:List α,¬lex lt x x
 |[]=>by simp [lex]
 |a::x=>by
  simp only [lex,true_and,not_or]
  exact ⟨h.irr a,Bj8 h x⟩
theorem Dm7 {α:Type} {lt:α→α→Prop} (h:TO lt):∀x y z:List α,lex lt x y→lex lt y z→lex lt x z
 |[],[],_,h1,_=>by simp [lex] at h1
 |[],_::_,[],_,h2=>by simp [lex] at h2
 |[],_::_,_::_,_,_=>by simp [lex]
 |_::_,[],_,h1,_=>by simp [lex] at h1
 |_::_,_::_,[],_,h2=>by simp [lex] at h2
 |a::x,b::y,c::z,h1,h2=>by
  simp only [lex] at h1 h2 ⊢
  rcases h1 with h1|⟨rfl,h1⟩
  ·rcases h2 with h2|⟨rfl,h2⟩
   ·exact .inl (h.tr _ _ _ h1 h2)
   ·exact .inl h1
  ·rcases h2 with h2|⟨rfl,h2⟩
   ·exact .inl h2
   ·exact .inr ⟨rfl,Dm7 h x y z h1 h2⟩
theorem lex_tri {α:Type} {lt:α→α→Prop} (h:TO lt):∀x y:List α,lex lt x y∨x=y∨lex lt y x
 |[],[]=> .inr (.inl rfl)
 |[],_::_=> .inl (by simp [lex])
 |_::_,[]=> .inr (.inr (by simp [lex]))
 |a::x,b::y=>by
  simp only [lex]
  rcases h.tri a b with h1|rfl|h1
  ·exact .inl (.inl h1)
  ·rcases lex_tri h x y with h2|rfl|h2
   ·exact .inl (.inr ⟨rfl,h2⟩)
   ·exact .inr (.inl rfl)
   ·exact .inr (.inr (.inr ⟨rfl,h2⟩))
  ·exact .inr (.inr (.inl h1))
theorem TO.lex {α:Type} {lt:α→α→Prop} (h:TO lt):TO (G.lex lt):=⟨Bj8 h,Dm7 h,lex_tri h⟩
theorem Hf0:TO (fun a b:UInt8=>a<b):=⟨fun a=>UInt8.lt_irrefl a,fun a b c h1 h2=>UInt8.lt_trans h1 h2,fun a b=>by
 rcases UInt8.lt_or_le a b with h|h
 ·exact .inl h
 ·rcases UInt8.lt_or_le b a with h2|h2
  ·exact .inr (.inr h2)
  ·exact .inr (.inl (UInt8.le_antisymm h2 h))⟩
abbrev ltB:List UInt8→List UInt8→Prop:=lex fun a b:UInt8=>a<b
theorem Cg7:TO ltB:=Hf0.lex
theorem R6:∀a b:List UInt8,Op.bytesLess a b=true↔ltB a b
 |[],[]=>by simp [Op.bytesLess,lex]
 |[],_::_=>by simp [Op.bytesLess,lex]
 |_::_,[]=>by simp [Op.bytesLess,lex]
 |a::x,b::y=>by
  have ih:=R6 x y
  simp only [Op.bytesLess,Am,decide_eq_true_eq,Av,beq_iff_eq,lex]
  rw [ih]
theorem P5 (a b:List UInt8):cmpS a b<0↔ltB a b:=by
 rw [←R6]
 unfold cmpS
 cases h:Op.bytesLess a b
 ·simp only [Ab,if_false,iff_false]
  split<;>omega
 ·simp
abbrev ltL:List (List UInt8)→List (List UInt8)→Prop:=lex ltB
theorem to_L:TO ltL:=Cg7.lex
def Aj9 (a b:List (List UInt8)):Int:=match Sx a b with
 |some c=>c
 |none=>if a.length<b.length then -1 else if b.length<a.length then 1 else 0
theorem rv:∀a b:List (List UInt8),Aj9 a b<0↔ltL a b
 |[],[]=>by simp [Aj9,Sx,lex]
 |[],_::_=>by simp [Aj9,Sx,lex]
 |_::_,[]=>by simp [Aj9,Sx,lex]
 |x::xs,y::ys=>by
  have ih:=rv xs ys
  simp only [Aj9,Sx,lex] at ih ⊢
  by_cases h:x=y
  ·subst h
   rw [if_pos rfl]
   simp only [As,Nat.add_lt_add_iff_right,true_and]
   rw [ih]
   constructor
   ·exact fun h=> .inr h
   ·rintro (h|h)
    ·exact absurd h (Cg7.irr x)
    ·exact h
  ·rw [if_neg h]
   simp only
   rw [P5]
   simp [h]
theorem i9 (a b:List (List UInt8)):Aj8 a b=Aj9 a.reverse b.reverse:=by
 unfold Aj8 Aj9
 cases Sx a.reverse b.reverse<;>simp
theorem Bz6 (a b:List (List UInt8)):Aj8 a b<0↔ltL a.reverse b.reverse:=by
 rw [←rv,i9]
def ltN (a b:List UInt8):Prop:=if vld a=true then (if vld b=true then ltL (lbl a).reverse (lbl b).reverse else True) else (if vld b=true then False else ltB a b)
theorem Eg (a b:List UInt8):Im a b<0↔ltN a b:=by
 unfold ltN
 rcases Ak (vld a) with ha|ha
 ·rcases Ak (vld b) with hb|hb
  ·rw [Wr ha hb,Bz6,if_pos ha,if_pos hb]
  ·unfold Im;simp [ha,hb]
 ·rcases Ak (vld b) with hb|hb
  ·unfold Im;simp [ha,hb]
  ·have e:Im a b=cmpS a b:=by unfold Im;simp [ha,hb]
   rw [e,P5];simp [ha,hb]
theorem to_N:TO ltN:=by
 refine ⟨fun a h=> ?_,fun a b c h1 h2=> ?_,fun a b=> ?_⟩
 ·unfold ltN at h
  split at h
  ·exact to_L.irr _ h
  ·exact Cg7.irr _ h
 ·unfold ltN at*
  rcases Ak (vld a) with ha|ha<;>rcases Ak (vld b) with hb|hb<;>rcases Ak (vld c) with hc|hc<;>
   simp only [ha,hb,hc,if_true,Ab,if_false] at h1 h2 ⊢
  ·exact to_L.tr _ _ _ h1 h2
  ·exact Cg7.tr _ _ _ h1 h2
 ·unfold ltN
  rcases Ak (vld a) with ha|ha<;>rcases Ak (vld b) with hb|hb<;>simp only [ha,hb,if_true,Ab,if_false]
  ·rcases to_L.tri (lbl a).reverse (lbl b).reverse with h|h|h
   ·exact .inl h
   ·exact .inr (.inl (Mq ha hb (List.reverse_inj.1 h)))
   ·exact .inr (.inr h)
  ·simp
  ·simp
  ·exact Cg7.tri a b
theorem Hv {a b:List UInt8}:Im a b=0↔a=b:=by
 constructor
 ·intro h
  rcases Ak (vld a) with ha|ha
  ·rcases Ak (vld b) with hb|hb
   ·rw [Wr ha hb] at h
    have key:∀x y:List (List UInt8),Aj9 x y=0→x=y:=by
     intro x
     induction x with
     |nil=>intro y hy;cases y with
      |nil=>rfl
      |cons=>simp [Aj9,Sx] at hy
     |cons x xs ih=>intro y hy;cases y with
      |nil=>simp [Aj9,Sx] at hy
      |cons y ys=>
       simp only [Aj9,Sx] at hy ih
       by_cases e:x=y
       ·subst e
        rw [if_pos rfl] at hy
        simp only [As,Nat.add_lt_add_iff_right] at hy
        rw [ih ys hy]
       ·rw [if_neg e] at hy
        exact absurd (H7.1 hy) e
    rw [i9] at h
    exact Mq ha hb (List.reverse_inj.1 (key _ _ h))
   ·unfold Im at h;simp [ha,hb] at h
  ·rcases Ak (vld b) with hb|hb
   ·unfold Im at h;simp [ha,hb] at h
   ·have e:Im a b=cmpS a b:=by unfold Im;simp [ha,hb]
    rw [e] at h;exact H7.1 h
 ·rintro rfl
  have h1:=Eg a a
  have h2:¬Im a a<0:=fun h=>to_N.irr a (h1.1 h)
  have key:∀x:List (List UInt8),Aj9 x x=0:=by
   intro x
   induction x with
   |nil=>rfl
   |cons x xs ih=>
    simp only [Aj9,Sx] at ih ⊢
    simp only [if_true,As,Nat.add_lt_add_iff_right]
    exact ih
  rcases Ak (vld a) with ha|ha
  ·rw [Wr ha ha]
   rw [i9];exact key _
  ·have e:Im a a=cmpS a a:=by unfold Im;simp [ha]
   rw [e];exact H7.2 rfl
end Go.X.G
/- Data of records: what the reference's functions give. -/
namespace Go.X.G
open Go Go.X
theorem t15 (t:Int):t=1∨t=2∨t=5∨t=6∨t=12∨t=15∨t=16∨t=28∨t=33∨t=39∨t=43∨t=46∨t=47∨t=48∨(t≠1∧t≠2∧t≠5∧t≠6∧t≠12∧t≠15∧t≠16∧t≠28∧t≠33∧t≠39∧t≠43∧t≠46∧t≠47∧t≠48):=by omega
def knw (t:Int):Bool:=decide (t=1)||decide (t=2)||decide (t=5)||decide (t=6)||decide (t=12)||decide (t=15)||decide (t=16)||decide (t=28)||decide (t=33)||decide (t=39)||decide (t=43)||decide (t=46)||decide (t=47)||decide (t=48)
def D5 (d:Dat):Bool:=d.v6||(decide (d.hi=0) && decide (d.lo<4294967296))
def inB (n most:Int):Bool:=decide (0≤n) && decide (n≤most)
def Ij (s:List UInt8):Bool:=decide (1≤s.length) && decide (s.length≤255)
def G8 (n:List UInt8):Bool:=vld n && decide (n[0]? ≠some 42)
def bit (set:Int) (t:Nat):Int:=set / 2 ^ t % 2
theorem Iz0 (x:Int):IntKind.u64.wrap ((BitVec.ofInt IntKind.u64.bits x &&& BitVec.ofInt IntKind.u64.bits 1).toNat:Int)=x % 2:=by
 have h2:(BitVec.ofInt 64 x &&& BitVec.ofInt 64 1).toNat=(BitVec.ofInt 64 x).toNat % 2:=by
  rw [BitVec.toNat_and]
  show (BitVec.ofInt 64 x).toNat &&& 1=_
  exact Nat.and_one_is_mod _
 show IntKind.u64.wrap (((BitVec.ofInt 64 x &&& BitVec.ofInt 64 1).toNat:Nat):Int)=_
 rw [h2,BitVec.toNat_ofInt]
 rw [Hc6]<;>omega
end Go.X.G
/- Data of records: bytes. -/
namespace Go.X.G
open Go Go.X
def Fr0 (set:Int) (i:Nat):Nat→Bool
 |0=>true
 |k+1=>(!decide (bit set i=1)||knw (i:Int)) && Fr0 set (i+1) k
def be (v:Int):Nat→List UInt8
 |0=>[]
 |n+1=>UInt8.ofNat (v / 256 ^ n % 256).toNat::be v n
theorem Ez (v:Int):∀n,(be v n).length=n
 |0=>rfl
 |n+1=>by simp [be,Ez v n]
theorem Ap7 (z:Int) (h1:0≤z) (h2:z<256):((UInt8.ofNat z.toNat).toNat:Int)=z:=by
 simp;omega
theorem Fd3 (v:Int) (j:Nat):v / 256 ^ j / 256=v / 256 ^ (j+1):=by
 rw [Int.pow_succ,Int.ediv_ediv_of_nonneg (Int.le_of_lt (Int.pow_pos (by decide)))]
theorem Hq5 (v:Int) (j:Nat) (h:0≤v):0≤v / 256 ^ j:=Int.ediv_nonneg h (Int.le_of_lt (Int.pow_pos (by decide)))
theorem Hq6 (v:Int) (j:Nat) (h:0≤v):v / 256 ^ j≤v:=Int.ediv_le_self _ h
end Go.X.G
/- Data of records: the wire form. -/
namespace Go.X.G
open Go Go.X
theorem ay {s:List UInt8} (h:Lm s=true):s.length≤63:=by
 unfold Lm at h
 simp at h
 rcases h with h|h
 ·simp [h]
 ·omega
theorem U7:∀(r:List UInt8) (f:Bool) (cur:List UInt8) (l:List (List UInt8)),spl f cur r=some l→∀x∈l,Lm x=true
 |[],f,cur,l,h=>by simp [spl] at h;subst h;simp
 |c::r,f,cur,l,h=>by
  simp only [spl] at h
  split at h
  ·split at h
   ·rename_i h2
    obtain ⟨m,hm,rfl⟩:=Aw.1 h
    intro x hx
    simp at hx
    rcases hx with rfl|hx
    ·exact h2.1
    ·exact U7 r _ _ _ hm x hx
   ·cases h
  ·exact U7 r _ _ _ h
theorem V7 (n:List UInt8):∀x∈lbl n,Lm x=true:=by
 unfold lbl nm
 split
 ·simp
 ·split
  ·cases h:spl true [] n with
   |none=>simp
   |some l=>simpa using U7 _ _ _ _ h
  ·simp
def wireL (l:List (List UInt8)):List UInt8:=l.flatMap fun x=>be (x.length:Int) 1++x
def H3 (n:List UInt8):List UInt8:=wireL (lbl n)++be 0 1
theorem Qk:∀(l:List (List UInt8)),(∀x∈l,Lm x=true)→(wireL l).length≤64*l.length
 |[],_=>by simp [wireL]
 |x::l,h=>by
  have h1:=ay (h x (by simp))
  have h2:=Qk l (fun y hy=>h y (by simp [hy]))
  simp only [wireL,Gc,Az,Ez,As] at h2 ⊢
  omega
theorem X2 (n:List UInt8):(H3 n).length≤20000:=by
 have h1:=Qk (lbl n) (V7 n)
 have h2:=Mk n
 simp only [H3,Az,Ez]
 omega
def bmV (set:Int) (i:Nat):Nat→Int
 |0=>0
 |j+1=>bmV set i j*2+bit set (i*8+j)
theorem Ep4 (set:Int) (t:Nat):0≤bit set t∧bit set t≤1:=by unfold bit;omega
theorem u7 (set:Int) (i:Nat):∀j,0≤bmV set i j∧bmV set i j<2 ^ j
 |0=>by simp [bmV]
 |j+1=>by
  have h1:=u7 set i j
  have h2:=Ep4 set (i*8+j)
  simp only [bmV,Int.pow_succ]
  omega
def bmB (set:Int) (i:Nat):UInt8:=UInt8.ofNat (bmV set i 8).toNat
def bmL (set:Int):Nat→Nat
 |0=>0
 |i+1=>if bmV set i 8≠0 then i+1 else bmL set i
theorem Ep2 (set:Int):∀i,bmL set i≤i
 |0=>Ac _
 |i+1=>by have:=Ep2 set i;simp only [bmL];split<;>omega
def bmap (set:Int):List UInt8:=((List.range 8).map (bmB set)).take (bmL set 8)
theorem u6 (set:Int):(bmap set).length≤8:=by simp [bmap];omega
def Py (d:Dat):List UInt8:=if d.v6 then be d.hi 8++be d.lo 8 else be d.lo 4
def usd (t:Int) (d:Dat):Dat:=
 if t=1∨t=28 then ⟨d.v6,d.hi,d.lo,[],[],[],0,0,0,0,0,0,0⟩
 else if t=2∨t=5∨t=12∨t=39 then ⟨false,0,0,d.host,[],[],0,0,0,0,0,0,0⟩
 else if t=6 then ⟨false,0,0,d.host,d.mail,[],d.a,d.b,d.c,d.d,d.e,0,0⟩
 else if t=15 then ⟨false,0,0,d.host,[],[],d.a,0,0,0,0,0,0⟩
 else if t=16 then ⟨false,0,0,[],[],d.text,0,0,0,0,0,0,0⟩
 else if t=33 then ⟨false,0,0,d.host,[],[],d.a,d.b,d.c,0,0,0,0⟩
 else if t=43∨t=48 then ⟨false,0,0,[],[],d.text,d.a,d.b,d.c,0,0,0,0⟩
 else if t=46 then ⟨false,0,0,d.host,[],d.text,d.a,d.b,d.c,d.d,d.e,d.f,0⟩
 else ⟨false,0,0,d.host,[],[],0,0,0,0,0,0,d.bits⟩
end Go.X.G
/- Data of records: which are valid. -/
namespace Go.X.G
open Go Go.X
def Dk (t:Int) (d:Dat):Bool:=
 if t=1 then D5 d && !d.v6
 else if t=28 then d.v6
 else if t=6 then G8 d.host && G8 d.mail && inB d.a 4294967295 && inB d.b 2147483647 && inB d.c 2147483647 && inB d.d 2147483647 && inB d.e 2147483647
 else if t=15 then G8 d.host && inB d.a 65535
 else if t=16 then decide (d.text.length≤255)
 else if t=33 then G8 d.host && inB d.a 65535 && inB d.b 65535 && inB d.c 65535
 else if t=43 then inB d.a 65535 && inB d.b 255 && inB d.c 255 && Ij d.text
 else if t=46 then knw d.a && decide (d.a≠46) && inB d.b 127 && inB d.c 2147483647 && inB d.d 4294967295 && inB d.e 4294967295 && inB d.f 65535 && G8 d.host && Ij d.text
 else if t=47 then vld d.host && decide (d.bits≠0) && Fr0 d.bits 0 64
 else if t=48 then (decide (d.a=256)||decide (d.a=257)) && decide (d.b=3) && inB d.c 255 && Ij d.text
 else G8 d.host
def Ej (t:Int) (d:Dat):Bool:=knw t && decide (usd t d=d) && Dk t d
def Jv (t:Int) (d:Dat):List UInt8:=
 if t=1∨t=28 then Py d
 else if t=6 then H3 d.host++H3 d.mail++be d.a 4++be d.b 4++be d.c 4++be d.d 4++be d.e 4
 else if t=15 then be d.a 2++H3 d.host
 else if t=16 then be (d.text.length:Int) 1++d.text
 else if t=33 then be d.a 2++be d.b 2++be d.c 2++H3 d.host
 else if t=43∨t=48 then be d.a 2++be d.b 1++be d.c 1++d.text
 else if t=46 then be d.a 2++be 253 1++be d.b 1++be d.c 4++be d.d 4++be d.e 4++be d.f 2++H3 d.host++d.text
 else if t=47 then H3 d.host++be 0 1++be ((bmap d.bits).length:Int) 1++bmap d.bits
 else H3 d.host
theorem knw_cases {t:Int} (h:knw t=true):t=1∨t=2∨t=5∨t=6∨t=12∨t=15∨t=16∨t=28∨t=33∨t=39∨t=43∨t=46∨t=47∨t=48:=by
 simp [knw] at h;omega
def Dc8 (t:Int) (a b:Dat):Int:=
 if Ej t a && Ej t b then cmpS (Jv t a) (Jv t b) else if Ej t a then -1 else if Ej t b then 1 else 0
end Go.X.G
/- Lists of records: what the reference's functions give. -/
namespace Go.X.G
open Go Go.X
def N1 (r:Rec):Bool:=vld r.name && knw r.typ && decide (0≤r.ttl) && decide (r.ttl≤2147483647) && Ej r.typ r.data
def rk (a b:Int):Int:=if a<b then -1 else if b<a then 1 else 0
def Sy (a b:Rec):Int:=
 if Im a.name b.name≠0 then Im a.name b.name else if rk a.typ b.typ≠0 then rk a.typ b.typ else Dc8 a.typ a.data b.data
def isK (n:List UInt8) (t:Int) (r:Rec):Bool:=decide (r.name=n) && decide (r.typ=t)
def findR (l:List Rec) (n:List UInt8) (t:Int):List Rec:=l.filter (isK n t)
theorem Df7 (l:List Rec) (n:List UInt8) (t:Int) (hl:l.length≤1000000):S Ar6 3 [Ag l, .s n, .i .i64 t]=some [Ag (findR l n t)]:=by
 refine Hl7 (N:=l.length+1) rfl ?_
 have key:Dn7.ev S (l.length+1) [Ag l, .s n, .i .i64 t]=some (.yld 0 [Ag ([]++findR l n t)]):=by
  refine G2 l (fun i (g:List Rec)=>[Ag g, .i .i64 (i:Int)]) (fun i g r=> .yld 0 [Ag (g++findR r n t)]) (fun i g=>g.length≤i) [] rfl (Ct _) (by omega) (fun i g c r hd hi hc hI=> ?_) (fun g hI=> ?_)
  ·left
   by_cases h:isK n t c=true
   ·refine ⟨g++[c],?_,by simp;omega,by simp [findR,h]⟩
    simp [isK] at h
    simp (disch:=omega) only [Aw5,hc,h.1,h.2,xe,EVP,EV,simprocAttr]
   ·refine ⟨g,?_,by omega,by simp [findR,h]⟩
    simp [isK] at h
    by_cases h1:c.name=n
    ·simp (disch:=omega) only [Aw5,hc,h1,h h1,xe,EVP,EV,simprocAttr]
    ·by_cases h2:c.typ=t<;>simp (disch:=omega) only [Aw5,hc,h1,h2,xe,EVP,EV,simprocAttr]
  ·simp (disch:=omega) only [Aw5,xe,EVP,EV,simprocAttr]
   simp [findR,Out.goes]
 simp (disch:=omega) only [Aw5,key,xe,EVP,EV,simprocAttr]
def dq (x:Rec):List Rec→List Rec
 |[]=>[x]
 |y::r=>if Sy y x<0 then y::dq x r else if Sy y x=0 then (if x.ttl<y.ttl then x::r else y::r) else x::y::r
def sortR (l:List Rec):List Rec:=l.foldl (fun acc x=>dq x acc) []
theorem insR_mem (x:Rec):∀(l:List Rec) (y:Rec),y∈dq x l→y=x∨y∈l
 |[],y,h=>by simp [dq] at h;exact .inl h
 |z::r,y,h=>by
  simp only [dq] at h
  split at h
  ·simp at h
   rcases h with h|h
   ·exact .inr (by simp [h])
   ·rcases insR_mem x r y h with h|h
    ·exact .inl h
    ·exact .inr (by simp [h])
  ·split at h
   ·split at h
    ·simp at h;rcases h with h|h
     ·exact .inl h
     ·exact .inr (by simp [h])
    ·exact .inr h
   ·simp at h;rcases h with h|h
    ·exact .inl h
    ·exact .inr (by simpa using h)
end Go.X.G
/- Zones: what the reference's check gives. -/
namespace Go.X.G
open Go Go.X
def D7 (n top:List UInt8):Bool:=decide (n≠top) && under n top
def ah (l:List Rec) (n:List UInt8) (t:Int):Bool:=decide (0<(findR l n t).length)
def Nh (r x:Rec):Bool:=
 !decide (x.name=r.name)||(!(decide (x.typ=r.typ) && decide (r.typ≠46) && decide (x.ttl≠r.ttl)) && !(decide (x.typ=r.typ) && (decide (r.typ=6)||decide (r.typ=5)||decide (r.typ=39)) && decide (x≠r)) &&
  !(decide (r.typ=5) && decide (x.typ≠5) && decide (x.typ≠46) && decide (x.typ≠47)))
def W6 (z:Zone) (r:Rec):Bool:=z.recs.all (Nh r)
def M2 (z:Zone) (r x:Rec):Bool:=
 !(decide (x.typ=39) && D7 r.name x.name) && !(decide (x.typ=2) && D7 x.name z.origin && D7 r.name x.name && decide (r.typ≠1) && decide (r.typ≠28))
def Vh (t:Int):Bool:=decide (t=2)||decide (t=43)||decide (t=47)||decide (t=46)||decide (t=1)||decide (t=28)
def Vl (z:Zone) (r:Rec):Bool:=
 if (lbl r.name)[0]? =some [42]∧(r.typ=2∨r.typ=39) then false
 else z.recs.all (M2 z r) && (if D7 r.name z.origin && ah z.recs r.name 2 then Vh r.typ else decide (r.typ≠43))
def Qr (z:Zone) (r:Rec):Bool:=under r.name z.origin && !(decide (r.typ=6) && decide (r.name≠z.origin)) && W6 z r && Vl z r
def J2 (z:Zone):Int:=
 if vld z.origin=false then 2
 else if 2048<z.recs.length then 9
 else if z.recs.all (fun r=>decide ((findR z.recs r.name r.typ).length≤64))=false then 9
 else if z.recs.all N1=false then 5
 else if z.recs≠sortR z.recs then 7
 else if (findR z.recs z.origin 6).length≠1∨ah z.recs z.origin 2=false then 13
 else if z.recs.all (Qr z)=false then 13
 else 0
end Go.X.G
/- The order of records; what a checked zone is like. -/
namespace Go.X.G
open Go Go.X
theorem TO.prod {α β:Type} {l1:α→α→Prop} {l2:β→β→Prop} (h1:TO l1) (h2:TO l2):TO (fun p q:α×β=>l1 p.1 q.1∨(p.1=q.1∧l2 p.2 q.2)) where
 irr:=fun p h=>by
  rcases h with h|⟨_,h⟩
  ·exact h1.irr _ h
  ·exact h2.irr _ h
 tr:=fun p q r a b=>by
  rcases a with a|⟨a,a'⟩<;>rcases b with b|⟨b,b'⟩
  ·exact .inl (h1.tr _ _ _ a b)
  ·exact .inl (b▸a)
  ·exact .inl (a▸b)
  ·exact .inr ⟨a.trans b,h2.tr _ _ _ a' b'⟩
 tri:=fun p q=>by
  rcases h1.tri p.1 q.1 with a|a|a
  ·exact .inl (.inl a)
  ·rcases h2.tri p.2 q.2 with b|b|b
   ·exact .inl (.inr ⟨a,b⟩)
   ·exact .inr (.inl (Prod.ext a b))
   ·exact .inr (.inr (.inr ⟨a.symm,b⟩))
  ·exact .inr (.inr (.inl a))
theorem Gv0:TO (fun a b:Int=>a<b):=⟨fun a h=>by omega,fun a b c h1 h2=>by omega,fun a b=>by omega⟩
theorem Ws (a b:Int):rk a b<0↔a<b:=by unfold rk;split<;>(try split)<;>omega
theorem Hw (a b:Int):rk a b=0↔a=b:=by unfold rk;split<;>(try split)<;>omega
abbrev Key:=List UInt8×Int×List UInt8
abbrev ltK:Key→Key→Prop:=fun p q=>ltN p.1 q.1∨(p.1=q.1∧(p.2.1<q.2.1∨(p.2.1=q.2.1∧ltB p.2.2 q.2.2)))
theorem to_K:TO ltK:=to_N.prod (Gv0.prod Cg7)
def Cg8 (r:Rec):Key:=(r.name,r.typ,Jv r.typ r.data)
abbrev ltR (a b:Rec):Prop:=ltK (Cg8 a) (Cg8 b)
theorem Mh {r:Rec} (h:N1 r=true):Ej r.typ r.data=true:=by
 unfold N1 at h
 simp only [Av] at h
 exact h.2
theorem X3 {r:Rec} (h:N1 r=true):vld r.name=true:=by
 unfold N1 at h
 simp only [Av] at h
 exact h.1.1.1.1
theorem Dr8 {t:Int} {a b:Dat} (ha:Ej t a=true) (hb:Ej t b=true):Dc8 t a b=cmpS (Jv t a) (Jv t b):=by
 unfold Dc8;rw [ha,hb];rfl
theorem rq {a b:Rec} (ha:N1 a=true) (hb:N1 b=true):Sy a b<0↔ltR a b:=by
 unfold Sy ltR ltK Cg8
 simp only
 by_cases h1:Im a.name b.name=0
 ·rw [if_neg (by simp [h1])]
  have e1:=Hv.1 h1
  have n1:¬ltN a.name b.name:=by rw [e1];exact to_N.irr _
  by_cases h2:rk a.typ b.typ=0
  ·rw [if_neg (by simp [h2])]
   have e2:=(Hw _ _).1 h2
   have ha':=Mh ha
   have hb':=Mh hb
   rw [e2] at ha' ⊢
   rw [Dr8 ha' hb',P5]
   constructor
   ·intro h;exact .inr ⟨e1, .inr ⟨rfl,h⟩⟩
   ·rintro (h|⟨_,h|⟨_,h⟩⟩)
    ·exact absurd h n1
    ·omega
    ·exact h
  ·rw [if_pos h2,Ws]
   have e2:a.typ≠b.typ:=fun e=>h2 ((Hw _ _).2 e)
   constructor
   ·intro h;exact .inr ⟨e1, .inl h⟩
   ·rintro (h|⟨_,h|⟨h,_⟩⟩)
    ·exact absurd h n1
    ·exact h
    ·exact absurd h e2
 ·rw [if_pos h1,Eg]
  have e1:a.name≠b.name:=fun e=>h1 (Hv.2 e)
  constructor
  ·intro h;exact .inl h
  ·rintro (h|⟨h,_⟩)
   ·exact h
   ·exact absurd h e1
theorem cj {a b:Rec} (ha:N1 a=true) (hb:N1 b=true):Sy a b=0↔Cg8 a=Cg8 b:=by
 unfold Sy Cg8
 by_cases h1:Im a.name b.name=0
 ·rw [if_neg (by simp [h1])]
  have e1:=Hv.1 h1
  by_cases h2:rk a.typ b.typ=0
  ·rw [if_neg (by simp [h2])]
   have e2:=(Hw _ _).1 h2
   have ha':=Mh ha
   have hb':=Mh hb
   rw [e2] at ha' ⊢
   rw [Dr8 ha' hb',H7]
   simp [e1]
  ·rw [if_pos h2]
   have e2:a.typ≠b.typ:=fun e=>h2 ((Hw _ _).2 e)
   constructor
   ·intro h;exact absurd h h2
   ·intro h;injection h with _ h;injection h with h _;exact absurd h e2
 ·rw [if_pos h1]
  have e1:a.name≠b.name:=fun e=>h1 (Hv.2 e)
  constructor
  ·intro h;exact absurd h h1
  ·intro h;injection h with h _;exact absurd h e1
theorem Rx {x:Rec} (hx:N1 x=true):∀(l:List Rec),(∀r∈l,N1 r=true)→l.Pairwise ltR→(dq x l).Pairwise ltR
 |[],_,_=>by simp [dq]
 |y::r,hv,h=>by
  obtain ⟨h1,h2⟩:=Ar.1 h
  have hy:=hv y (.head _)
  have ih:=Rx hx r (fun w hw=>hv w (.tail _ hw)) h2
  simp only [dq]
  by_cases c:Sy y x<0
  ·rw [if_pos c]
   refine Ar.2 ⟨fun w hw=> ?_,ih⟩
   rcases insR_mem x r w hw with rfl|hw
   ·exact (rq hy hx).1 c
   ·exact h1 w hw
  ·rw [if_neg c]
   by_cases e:Sy y x=0
   ·rw [if_pos e]
    split
    ·have ke:=(cj hy hx).1 e
     refine Ar.2 ⟨fun w hw=> ?_,h2⟩
     have:=h1 w hw
     show ltK (Cg8 x) (Cg8 w)
     rw [←ke];exact this
    ·exact h
   ·rw [if_neg e]
    have hxy:ltR x y:=by
     rcases to_K.tri (Cg8 x) (Cg8 y) with q|q|q
     ·exact q
     ·exact absurd ((cj hy hx).2 q.symm) e
     ·exact absurd ((rq hy hx).2 q) c
    refine Ar.2 ⟨fun w hw=> ?_,h⟩
    rcases Af.1 hw with rfl|hw
    ·exact hxy
    ·exact to_K.tr _ _ _ hxy (h1 w hw)
theorem On (l:List Rec) (hv:∀r∈l,N1 r=true):(sortR l).Pairwise ltR∧∀r∈sortR l,r∈l:=by
 have:∀(l a:List Rec),(∀r∈l,N1 r=true)→(∀r∈a,N1 r=true)→a.Pairwise ltR→(l.foldl (fun acc x=>dq x acc) a).Pairwise ltR∧∀r∈l.foldl (fun acc x=>dq x acc) a,r∈a∨r∈l:=by
  intro l
  induction l with
  |nil=>intro a _ _ h;exact ⟨h,fun r hr=> .inl hr⟩
  |cons x r ih=>
   intro a h1 h2 h3
   have hx:=h1 x (.head _)
   obtain ⟨g1,g2⟩:=ih (dq x a) (fun w hw=>h1 w (.tail _ hw)) (fun w hw=>by
    rcases insR_mem x a w hw with rfl|hw
    ·exact hx
    ·exact h2 w hw) (Rx hx a h2 h3)
   refine ⟨g1,fun w hw=> ?_⟩
   rcases g2 w hw with hw|hw
   ·rcases insR_mem x a w hw with rfl|hw
    ·exact .inr (.head _)
    ·exact .inl hw
   ·exact .inr (.tail _ hw)
 obtain ⟨h1,h2⟩:=this l [] hv (fun r hr=>by cases hr) .nil
 exact ⟨h1,fun r hr=>(h2 r hr).resolve_left (by simp)⟩
structure ZOk (z:Zone):Prop where
 origin:vld z.origin=true
 small:z.recs.length≤2048
 valid:∀r∈z.recs,N1 r=true
 rising:z.recs.Pairwise ltR
 soa:(findR z.recs z.origin 6).length=1
 ns:ah z.recs z.origin 2=true
 recs:∀r∈z.recs,Qr z r=true
theorem Bb1 {z:Zone} (h:J2 z=0):ZOk z:=by
 unfold J2 at h
 split at h
 ·cases h
 ·rename_i h1
  split at h
  ·cases h
  ·rename_i h2
   split at h
   ·cases h
   ·split at h
    ·cases h
    ·rename_i h4
     split at h
     ·cases h
     ·rename_i h5
      split at h
      ·cases h
      ·rename_i h6
       split at h
       ·cases h
       ·rename_i h7
        simp only [Fv,Bv] at h1 h4 h7
        simp only [not_or,ne_eq,Iy,Fv] at h5 h6
        refine ⟨h1,by omega,h4,?_,h6.1,h6.2,h7⟩
        rw [h5]
        exact (On z.recs h4).1
theorem ZOk.beside {z:Zone} (h:ZOk z) {r x:Rec} (hr:r∈z.recs) (hx:x∈z.recs):Nh r x=true:=by
 have:=h.recs r hr
 unfold Qr at this
 simp only [Av] at this
 have h2:=this.1.2
 unfold W6 at h2
 exact Bv.1 h2 x hx
theorem ZOk.under {z:Zone} (h:ZOk z) {r:Rec} (hr:r∈z.recs):under r.name z.origin=true:=by
 have:=h.recs r hr
 unfold Qr at this
 simp only [Av] at this
 exact this.1.1.1
theorem ZOk.single {z:Zone} (h:ZOk z) (n:List UInt8) (t:Int) (ht:t=6∨t=5∨t=39):(findR z.recs n t).length≤1:=by
 have hp:(findR z.recs n t).Pairwise ltR:=h.rising.filter _
 have hm:∀x∈findR z.recs n t,x∈z.recs∧x.name=n∧x.typ=t:=fun x hx=>by
  obtain ⟨h1,h2⟩:=Bs.1 hx
  simp only [isK,Av,decide_eq_true_eq] at h2
  exact ⟨h1,h2.1,h2.2⟩
 generalize findR z.recs n t=l at*
 match l,hp,hm with
 |[],_,_=>simp
 |[_],_,_=>simp
 |a::b::r,hp,hm=>
  exfalso
  have hab:ltR a b:=(Ar.1 hp).1 b (.head _)
  obtain ⟨a1,a2,a3⟩:=hm a (.head _)
  obtain ⟨b1,b2,b3⟩:=hm b (.tail _ (.head _))
  have hb:=h.beside a1 b1
  have e:b=a:=by
   unfold Nh at hb
   rw [a2,a3,b2,b3] at hb
   have ht':(decide (t=6)||decide (t=5)||decide (t=39))=true:=by rcases ht with h|h|h<;>simp [h]
   rw [ht'] at hb
   simp only [decide_true,Jp,Jr,Ns,Ft1,Av,A8,decide_eq_false_iff_not,ne_eq,Iy] at hb
   exact hb.1.2
  rw [e] at hab
  exact to_K.irr _ hab
end Go.X.G
/- Sorted lists of names, each once. -/
namespace Go.X.G
open Go Go.X
def Pd {α:Type} (e:α→α→Bool):α→List α→List α
 |_,[]=>[]
 |p,c::r=>if e c p=true then Pd e c r else c::Pd e c r
def cpt {α:Type} (e:α→α→Bool):List α→List α
 |[]=>[]
 |x::r=>x::Pd e x r
theorem b9 {α:Type} (e:α→α→Bool) (c:α):∀(r:List α) (p:α),Pd e p (r++[c])=Pd e p r++(if e c ((p::r).getLast (by simp))=true then [] else [c])
 |[],p=>by
  simp only [Cy,Pd,List.getLast_singleton]
  rfl
 |x::r,p=>by
  have ih:=b9 e c r x
  simp only [B3,Pd,List.getLast_cons_cons]
  split
  ·exact ih
  ·rw [ih];rfl
theorem Lf {α:Type} (e:α→α→Bool) (c:α) (l:List α) (h:l≠[]):cpt e (l++[c])=cpt e l++(if e c (l.getLast h)=true then [] else [c]):=by
 cases l with
 |nil=>exact absurd rfl h
 |cons x r=>
  show x::Pd e x (r++[c])=_
  rw [b9];rfl
theorem qt {α:Type} (e:α→α→Bool):∀(r:List α) (p:α),(Pd e p r).length≤r.length
 |[],_=>by simp [Pd]
 |c::r,p=>by
  have:=qt e r c
  simp only [Pd]
  split<;>simp<;>omega
theorem Rs {α:Type} (e:α→α→Bool) (l:List α):(cpt e l).length≤l.length:=by
 cases l with
 |nil=>simp [cpt]
 |cons x r=>have:=qt e r x;simp [cpt];exact this
theorem Wn {α:Type} (e:α→α→Bool):∀(r:List α) (p:α),∀x∈Pd e p r,x∈r
 |[],_,x,h=>by simp [Pd] at h
 |c::r,p,x,h=>by
  simp only [Pd] at h
  split at h
  ·exact .tail _ (Wn e r c x h)
  ·rcases Af.1 h with rfl|h
   ·exact .head _
   ·exact .tail _ (Wn e r c x h)
theorem Fd5 {α:Type} (e:α→α→Bool) (l:List α):∀x∈cpt e l,x∈l:=by
 cases l with
 |nil=>intro x h;simp [cpt] at h
 |cons y r=>
  intro x h
  rcases Af.1 (show x∈y::Pd e y r from h) with rfl|h
  ·exact .head _
  ·exact .tail _ (Wn e r y x h)
abbrev eqs {α:Type} [DecidableEq α]:α→α→Bool:=fun a b=>decide (a=b)
theorem cptG_mem {α:Type} [DecidableEq α]:∀(r:List α) (p x:α),x∈r→x=p∨x∈Pd eqs p r
 |[],_,x,h=>by simp at h
 |c::r,p,x,h=>by
  simp only [Pd]
  by_cases hc:c=p
  ·subst hc
   rw [if_pos (by simp [eqs])]
   rcases Af.1 h with rfl|h
   ·exact .inl rfl
   ·exact cptG_mem r c x h
  ·rw [if_neg (by simp [eqs,hc])]
   right
   rcases Af.1 h with rfl|h
   ·exact .head _
   ·rcases cptG_mem r c x h with rfl|h
    ·exact .head _
    ·exact .tail _ h
theorem Fd6 {α:Type} [DecidableEq α] (l:List α) (x:α):x∈cpt eqs l↔x∈l:=by
 refine ⟨Fd5 _ l x,fun h=> ?_⟩
 cases l with
 |nil=>simp at h
 |cons y r=>
  rcases Af.1 h with rfl|h
  ·exact .head _
  ·rcases cptG_mem r y x h with rfl|h
   ·exact .head _
   ·exact .tail _ h
theorem Rt {α:Type} [DecidableEq α] {lt:α→α→Prop} (ht:TO lt):∀(r:List α) (p:α),(p::r).Pairwise (fun a b=>¬lt b a)→(p::Pd eqs p r).Pairwise lt
 |[],p,_=>by simp [Pd]
 |c::r,p,h=>by
  rw [Ar] at h
  have ih:=Rt ht r c h.2
  simp only [Pd]
  by_cases hc:c=p
  ·subst hc
   rw [if_pos (by simp [eqs])]
   exact ih
  ·rw [if_neg (by simp [eqs,hc])]
   rw [Ar]
   refine ⟨fun x hx=> ?_,ih⟩
   have hpc:lt p c:=by
    rcases ht.tri p c with h1|h1|h1
    ·exact h1
    ·exact absurd h1.symm hc
    ·exact absurd h1 (h.1 c (.head _))
   rcases Af.1 hx with rfl|hx
   ·exact hpc
   ·exact ht.tr _ _ _ hpc ((Ar.1 ih).1 x hx)
theorem Aj6 {α:Type} [DecidableEq α] {lt:α→α→Prop} (ht:TO lt) (l:List α) (h:l.Pairwise (fun a b=>¬lt b a)):(cpt eqs l).Pairwise lt:=by
 cases l with
 |nil=>simp [cpt]
 |cons x r=>exact Rt ht r x h
theorem Qn {α:Type} {lt:α→α→Prop} (ht:TO lt):∀(a b:List α),a.Pairwise lt→b.Pairwise lt→(∀x,x∈a↔x∈b)→a=b
 |[],[],_,_,_=>rfl
 |[],y::b,_,_,h=>absurd ((h y).2 (.head _)) (by simp)
 |x::a,[],_,_,h=>absurd ((h x).1 (.head _)) (by simp)
 |x::a,y::b,ha,hb,h=>by
  rw [Ar] at ha hb
  have hxy:x=y:=by
   rcases Af.1 ((h x).1 (.head _)) with h1|h1
   ·exact h1
   ·rcases Af.1 ((h y).2 (.head _)) with h2|h2
    ·exact h2.symm
    ·exact absurd (hb.1 x h1) (ht.asym (ha.1 y h2))
  subst hxy
  rw [Qn ht a b ha.2 hb.2 fun z=> ?_]
  constructor
  ·intro hz
   rcases Af.1 ((h z).1 (.tail _ hz)) with rfl|h1
   ·exact absurd (ha.1 z hz) (ht.irr z)
   ·exact h1
  ·intro hz
   rcases Af.1 ((h z).2 (.tail _ hz)) with rfl|h1
   ·exact absurd (hb.1 z hz) (ht.irr z)
   ·exact h1
def setN (l:List (List UInt8)):List (List UInt8):=cpt eqs (l.mergeSort fun x y=> !decide (Im y x<0))
theorem Fw1 (l:List (List UInt8)):(l.mergeSort fun x y=> !decide (Im y x<0)).Pairwise (fun a b=>¬ltN b a):=by
 have:=List.pairwise_mergeSort (le:=fun x y:List UInt8=> !decide (Im y x<0)) (fun a b c h1 h2=>by
  simp only [A8,decide_eq_false_iff_not,Eg] at h1 h2 ⊢
  exact to_N.ntr h2 h1) (fun a b=>by
  simp only [Am,A8,decide_eq_false_iff_not,Eg]
  rcases to_N.tri a b with h|h|h
  ·exact .inl (to_N.asym h)
  ·subst h;exact .inl (to_N.irr a)
  ·exact .inr (to_N.asym h)) l
 refine this.imp fun {a b} h=> ?_
 simpa only [A8,decide_eq_false_iff_not,Eg] using h
theorem L5 (l:List (List UInt8)):(setN l).Pairwise ltN:=Aj6 to_N _ (Fw1 l)
theorem Jz (l:List (List UInt8)) (x:List UInt8):x∈setN l↔x∈l:=by
 unfold setN
 rw [Fd6]
 exact (List.mergeSort_perm _ _).mem_iff
theorem Vq (l:List (List UInt8)):(setN l).length≤l.length:=by
 have:=Rs eqs (l.mergeSort fun x y=> !decide (Im y x<0))
 rw [dy] at this
 exact this
end Go.X.G
/- Names on the way up; delegations above a name. -/
namespace Go.X.G
open Go Go.X
def upN (o n:List UInt8):List (List UInt8):=(List.range ((lbl n).length - (lbl o).length+1)).map fun k=>jn ((lbl n).drop k)
theorem Kj {o n x:List UInt8} (h:under n o=true):x∈upN o n↔under n x=true∧under x o=true:=by
 obtain ⟨hn,ho,hs⟩:=B0.1 h
 have hle:=hs.length_le
 rw [F6] at hs
 unfold upN
 rw [Dn]
 constructor
 ·rintro ⟨k,hk,rfl⟩
  rw [Es] at hk
  obtain ⟨v1,v2⟩:=K5 hn k
  refine ⟨B0.2 ⟨hn,v1,by rw [v2];exact List.drop_suffix _ _⟩,B0.2 ⟨v1,ho,?_⟩⟩
  rw [v2,hs]
  have:(lbl n).length - (lbl o).length=k+((lbl n).length - (lbl o).length - k):=by omega
  rw [this,←C4]
  exact List.drop_suffix _ _
 ·rintro ⟨h1,h2⟩
  obtain ⟨_,hx,h3⟩:=B0.1 h1
  obtain ⟨_,_,h4⟩:=B0.1 h2
  have l1:=h3.length_le
  have l2:=h4.length_le
  rw [F6] at h3
  refine ⟨(lbl n).length - (lbl x).length,?_,?_⟩
  ·rw [Es];omega
  ·rw [←h3];exact (Qq hx).symm
theorem dr (o n:List UInt8):(upN o n).length≤256:=by
 have:=Mk n
 simp [upN];omega
theorem N2 {o n:List UInt8} {k:Nat} (hk:k≤(lbl n).length - (lbl o).length):(upN o n)[k]? =some (jn ((lbl n).drop k)):=by
 unfold upN
 rw [Bh,Cj (by omega)];rfl
theorem V8 {n:List UInt8} (h:vld n=true):jn ((lbl n).drop 0)=n:=by rw [Ev];exact (Qq h).symm
theorem X4 {o n:List UInt8} (h:under n o=true) {k:Nat} (hk:k≤(lbl n).length - (lbl o).length):jn ((lbl n).drop k)=o↔k=(lbl n).length - (lbl o).length:=by
 obtain ⟨hn,ho,hs⟩:=B0.1 h
 have hle:=hs.length_le
 rw [F6] at hs
 obtain ⟨v1,v2⟩:=K5 hn k
 constructor
 ·intro e
  have:=congrArg (fun x=>(lbl x).length) e
  simp only [v2,Br] at this
  omega
 ·rintro rfl
  rw [←hs];exact (Qq ho).symm
theorem Ax9 {o n:List UInt8} (h:under n o=true) {k:Nat} (hk:k<(lbl n).length - (lbl o).length):Kx (jn ((lbl n).drop k))=jn ((lbl n).drop (k+1))∧T7 (jn ((lbl n).drop k))=true:=by
 obtain ⟨hn,ho,hs⟩:=B0.1 h
 obtain ⟨v1,v2⟩:=K5 hn k
 have hne:jn ((lbl n).drop k)≠[46]:=by
  intro e
  have:=(Fx4 v1).2 e
  rw [v2] at this
  have:=congrArg List.length this
  simp at this
  omega
 unfold Kx T7
 rw [if_pos ⟨v1,hne⟩,v2,C4]
 exact ⟨rfl,by simp [v1,hne]⟩
theorem Ww (l:List (List UInt8)) (i j:Nat) (h:i<j) (hj:j≤l.length):(flat (l.drop j)).length<(flat (l.drop i)).length:=by
 have e:l.drop i=(l.drop i).take (j - i)++l.drop j:=by
  have:=(Bl (j - i) (l.drop i)).symm
  rw [C4,show i+(j - i)=j by omega] at this
  exact this
 rw [e,Wx,Az]
 have:0<(flat ((l.drop i).take (j - i))).length:=by
  cases hc:(l.drop i).take (j - i) with
  |nil=>
   have:=congrArg List.length hc
   simp at this;omega
  |cons x r=>simp [flat];omega
 omega
theorem Cf0 {n a b:List UInt8} (ha:under n a=true) (hb:under n b=true):a.length<b.length↔(lbl a).length<(lbl b).length:=by
 have key:∀{a b:List UInt8},under n a=true→under n b=true→(lbl a).length<(lbl b).length→a.length<b.length:=by
  intro a b ha hb hl
  obtain ⟨hn,va,sa⟩:=B0.1 ha
  obtain ⟨_,vb,sb⟩:=B0.1 hb
  have la:=sa.length_le
  have lb:=sb.length_le
  rw [F6] at sa sb
  rw [Qq va,Qq vb]
  have hbne:lbl b≠[]:=fun e=>by rw [e] at hl;simp at hl
  have e2:jn (lbl b)=flat (lbl b):=by unfold jn;rw [if_neg hbne]
  rw [e2]
  by_cases ha0:lbl a=[]
  ·have e1:jn (lbl a)=[46]:=by unfold jn;rw [if_pos ha0]
   rw [e1]
   have:=Ih (l9 vb) hbne
   simp;omega
  ·have e1:jn (lbl a)=flat (lbl a):=by unfold jn;rw [if_neg ha0]
   rw [e1,sa,sb]
   exact Ww _ _ _ (by omega) (by omega)
 constructor
 ·intro h
  rcases Nat.lt_or_ge (lbl a).length (lbl b).length with h1|h1
  ·exact h1
  ·rcases Nat.lt_or_eq_of_le h1 with h2|h2
   ·have:=key hb ha h2;omega
   ·obtain ⟨_,va,sa⟩:=B0.1 ha
    obtain ⟨_,vb,sb⟩:=B0.1 hb
    rw [F6] at sa sb
    have:a=b:=Mq va vb (by rw [sa,sb,h2])
    subst this;omega
 ·exact key ha hb
def C9 (z:Zone) (r:Rec):Bool:=decide (r.typ=2) && D7 r.name z.origin
def i5 (z:Zone) (n:List UInt8):List UInt8→List Rec→List UInt8
 |b,[]=>b
 |b,r::rs=>i5 z n (if C9 z r && under n r.name && (decide (b=[])||decide ((lbl r.name).length<(lbl b).length)) then r.name else b) rs
def cutN (z:Zone) (n:List UInt8):List UInt8:=i5 z n [] z.recs
theorem i4 (z:Zone) (n:List UInt8):∀(l:List Rec) (b:List UInt8),(b=[]∨under n b=true)→
  (i5 z n b l=[]→b=[]∧∀r∈l,C9 z r=true→under n r.name=false)∧
  (i5 z n b l≠[]→under n (i5 z n b l)=true∧(i5 z n b l=b∨∃r∈l,C9 z r=true∧r.name=i5 z n b l)∧(b≠[]→(lbl (i5 z n b l)).length≤(lbl b).length)∧∀r∈l,C9 z r=true→under n r.name=true→(lbl (i5 z n b l)).length≤(lbl r.name).length)
 |[],b,hb=>by
  simp only [i5]
  refine ⟨fun h=>⟨h,fun r hr=>by simp at hr⟩,fun h=>⟨hb.resolve_left h, .inl trivial,fun _=>Ac _,fun r hr=>by simp at hr⟩⟩
 |r::rs,b,hb=>by
  simp only [i5]
  have hne:under n r.name=true→r.name≠[]:=fun h e=>by
   have:=(B0.1 h).2.1
   rw [e] at this
   simp [vld,nm] at this
  by_cases hc:(C9 z r && under n r.name && (decide (b=[])||decide ((lbl r.name).length<(lbl b).length)))=true
  ·rw [if_pos hc]
   simp only [Av,Am,decide_eq_true_eq] at hc
   obtain ⟨⟨c1,c2⟩,c3⟩:=hc
   obtain ⟨h1,h2⟩:=i4 z n rs r.name (.inr c2)
   refine ⟨fun h=>absurd (h1 h).1 (hne c2),fun h=> ?_⟩
   obtain ⟨g1,g2,g3,g4⟩:=h2 h
   refine ⟨g1, .inr ?_,fun hb0=> ?_,fun x hx hx1 hx2=> ?_⟩
   ·rcases g2 with g2|⟨x,hx,g2⟩
    ·exact ⟨r, .head _,c1,g2.symm⟩
    ·exact ⟨x, .tail _ hx,g2⟩
   ·have:=g3 (hne c2)
    rcases c3 with c3|c3
    ·exact absurd c3 hb0
    ·omega
   ·rcases Af.1 hx with rfl|hx
    ·exact g3 (hne c2)
    ·exact g4 x hx hx1 hx2
  ·rw [if_neg hc]
   obtain ⟨h1,h2⟩:=i4 z n rs b hb
   have hr:C9 z r=true→under n r.name=true→b≠[]∧(lbl b).length≤(lbl r.name).length:=by
    intro c1 c2
    simp only [c1,c2,Bool.and_self,Ft1,Am,decide_eq_true_eq,not_or,Nat.not_lt] at hc
    exact hc
   refine ⟨fun h=> ?_,fun h=> ?_⟩
   ·obtain ⟨g1,g2⟩:=h1 h
    refine ⟨g1,fun x hx hx1=> ?_⟩
    rcases Af.1 hx with rfl|hx
    ·rcases Ak (under n x.name) with h3|h3
     ·exact absurd g1 (hr hx1 h3).1
     ·exact h3
    ·exact g2 x hx hx1
   ·obtain ⟨g1,g2,g3,g4⟩:=h2 h
    refine ⟨g1,?_,g3,fun x hx hx1 hx2=> ?_⟩
    ·rcases g2 with g2|⟨x,hx,g2⟩
     ·exact .inl g2
     ·exact .inr ⟨x, .tail _ hx,g2⟩
    ·rcases Af.1 hx with rfl|hx
     ·obtain ⟨q1,q2⟩:=hr hx1 hx2
      have:=g3 q1
      omega
     ·exact g4 x hx hx1 hx2
def P0 (z:Zone) (n:List UInt8):Bool:=z.recs.any fun r=>C9 z r && decide (r.name≠n) && under n r.name
theorem K7 {a b:List UInt8} (h1:under a b=true) (h2:(lbl a).length≤(lbl b).length):a=b:=by
 obtain ⟨va,vb,s⟩:=B0.1 h1
 exact Mq va vb (s.eq_of_length_le h2).symm
def Ft0 (z:Zone):List (List UInt8):=(z.recs.filter fun r=>under r.name z.origin && !P0 z r.name).flatMap fun r=>upN z.origin r.name
def namesN (z:Zone):List (List UInt8):=setN (Ft0 z)
def Dr0 (z:Zone) (x:List UInt8):Prop:=∃r∈z.recs,under r.name z.origin=true∧P0 z r.name=false∧under r.name x=true∧under x z.origin=true
theorem vw (z:Zone) (x:List UInt8):x∈Ft0 z↔Dr0 z x:=by
 unfold Ft0 Dr0
 simp only [List.mem_flatMap,Bs,Av,A8]
 constructor
 ·rintro ⟨r,⟨hr,h1,h2⟩,h3⟩
  obtain ⟨h4,h5⟩:=(Kj h1).1 h3
  exact ⟨r,hr,h1,h2,h4,h5⟩
 ·rintro ⟨r,hr,h1,h2,h4,h5⟩
  exact ⟨r,⟨hr,h1,h2⟩,(Kj h1).2 ⟨h4,h5⟩⟩
theorem Dw8 (z:Zone) (l:List (List UInt8)) (h:∀x,x∈l↔Dr0 z x):setN l=namesN z:=
 Qn to_N _ _ (L5 _) (L5 _) fun x=>by rw [Jz,h,namesN,Jz,vw]
theorem y0 (z:Zone) (x:List UInt8):x∈namesN z↔Dr0 z x:=by
 unfold namesN;rw [Jz,vw]
end Go.X.G
/- Zones by the names of their records: groups of a sorted list, in plain words. -/
namespace Go.X.G
open Go Go.X
theorem Bj6 {α:Type} {lt:α→α→Prop}:∀(p q:List α),p<+:q→p≠q→lex lt p q
 |[],[],_,h=>absurd rfl h
 |[],_::_,_,_=>trivial
 |a::p,[],h,_=>by simp at h
 |a::p,b::q,h,hne=>by
  obtain ⟨rfl,hpq⟩:=K4.1 h
  exact .inr ⟨rfl,Bj6 p q hpq fun e=>hne (by rw [e])⟩
theorem Bj7 {α:Type} {lt:α→α→Prop} (ht:TO lt):∀(p q x:List α),p<+:q→¬lex lt x p→¬lex lt q x→p<+:x
 |[],_,_,_,_,_=>List.nil_prefix
 |a::p,[],_,h,_,_=>by simp at h
 |a::p,b::q,[],_,h,_=>absurd trivial h
 |a::p,b::q,c::x,h,h1,h2=>by
  obtain ⟨rfl,hpq⟩:=K4.1 h
  simp only [lex,not_or,not_and] at h1 h2
  have e:a=c:=by
   rcases ht.tri a c with k|k|k
   ·exact absurd k h2.1
   ·exact k
   ·exact absurd k h1.1
  subst e
  exact K4.2 ⟨rfl,Bj7 ht p q x hpq (h1.2 rfl) (h2.2 rfl)⟩
theorem Fw6 {a b:List UInt8} (ha:vld a=true) (hb:vld b=true):ltN a b↔ltL (lbl a).reverse (lbl b).reverse:=by
 unfold ltN;rw [if_pos ha,if_pos hb]
theorem X5 {n top:List UInt8} (h:under n top=true):(lbl top).reverse<+:(lbl n).reverse:=List.reverse_prefix.2 (B0.1 h).2.2
theorem Cl8 {n top:List UInt8} (h:under n top=true) (hne:n≠top):ltN top n:=by
 obtain ⟨h1,h2,h3⟩:=B0.1 h
 rw [Fw6 h2 h1]
 refine Bj6 _ _ (X5 h) fun e=>hne ?_
 exact (Mq h2 h1 (List.reverse_inj.1 e)).symm
theorem Ay0 {d x n:List UInt8} (hx:vld x=true) (h:under n d=true) (h1:¬ltN x d) (h2:¬ltN n x):under x d=true:=by
 obtain ⟨k1,k2,k3⟩:=B0.1 h
 rw [Fw6 hx k2] at h1
 rw [Fw6 k1 hx] at h2
 exact B0.2 ⟨hx,k2,List.reverse_prefix.1 (Bj7 Cg7 _ _ _ (X5 h) h1 h2)⟩
theorem Av7 {a b c:List UInt8} (h1:under a b=true) (h2:under b c=true):under a c=true:=by
 obtain ⟨a1,a2,a3⟩:=B0.1 h1
 obtain ⟨b1,b2,b3⟩:=B0.1 h2
 exact B0.2 ⟨a1,b2,b3.trans a3⟩
def Sp (p:List Rec):List Rec→List (List Rec)
 |[]=>[]
 |x::r=>if (match r with|[]=>true|y::_=> !decide (y.name=x.name))=true then (p++[x])::Sp [] r else Sp (p++[x]) r
def grp (l:List Rec):List (List Rec):=Sp [] l
def nmG (g:List Rec):List UInt8:=match g with|[]=>[]|x::_=>x.name
theorem al (n:List UInt8):∀(r p:List Rec) (x:Rec),x.name=n→(∀y∈p,y.name=n)→∃g l',x::r=g++l'∧g≠[]∧(∀y∈g,y.name=n)∧(∀y,l'.head? =some y→y.name≠n)∧Sp p (x::r)=(p++g)::grp l'
 |[],p,x,hx,hp=>⟨[x],[],rfl,by simp,by simpa using hx,by simp,rfl⟩
 |y::r,p,x,hx,hp=>by
  by_cases h:y.name=x.name
  ·obtain ⟨g,l',h1,h2,h3,h4,h5⟩:=al n r (p++[x]) y (by rw [h,hx]) (fun w hw=>by
    rcases Bp.1 hw with hw|hw
    ·exact hp w hw
    ·have:w=x:=by simpa using hw
     rw [this,hx])
   refine ⟨x::g,l',by rw [h1];rfl,by simp,fun w hw=> ?_,h4,?_⟩
   ·rcases Af.1 hw with rfl|hw
    ·exact hx
    ·exact h3 w hw
   ·rw [Sp,if_neg (by simp [h]),h5]
    simp
  ·refine ⟨[x],y::r,rfl,by simp,by simpa using hx,fun w hw=> ?_,?_⟩
   ·simp at hw;subst hw;rw [←hx];exact h
   ·rw [Sp,if_pos (by simp [h])]
    rfl
theorem P1 (x:Rec) (r:List Rec):∃g l',x::r=g++l'∧g≠[]∧(∀y∈g,y.name=x.name)∧(∀y,l'.head? =some y→y.name≠x.name)∧grp (x::r)=g::grp l':=by
 obtain ⟨g,l',h1,h2,h3,h4,h5⟩:=al x.name r [] x rfl (by simp)
 exact ⟨g,l',h1,h2,h3,h4,by rw [grp,h5];rfl⟩
theorem Dm2 {g:List Rec} {n:List UInt8} (h:g≠[]) (h2:∀y∈g,y.name=n):nmG g=n:=by
 cases g with
 |nil=>exact absurd rfl h
 |cons x r=>exact h2 x (.head _)
abbrev Gc8 (l:List Rec):Prop:=l.Pairwise fun a b=>¬ltN b.name a.name
def Fg (g:List Rec) (t:Int):Bool:=g.any fun r=>decide (r.typ=t)
def Ik (g:List Rec) (ts:List Int):Bool:=g.all fun r=>decide (r.typ∈ts)
def S5 (p:Rec):List Rec→Bool
 |[]=>true
 |x::r=>(!decide (x.typ=p.typ)||(!(decide (x.typ=6)||decide (x.typ=5)||decide (x.typ=39)) && (decide (x.typ=46)||decide (x.ttl=p.ttl)))) && S5 x r
def Cg6 (g:List Rec):Bool:=match g with|[]=>true|x::r=>S5 x r
def propG (o:List UInt8) (g:List Rec) (cut red:Bool):Bool:=
 under (nmG g) o && (decide (Fg g 6=decide (nmG g=o))) && Cg6 g && (!decide (nmG g=o)||Fg g 2) && (!Fg g 5||Ik g [5,46,47]) && !red && (!cut||Ik g [1,28]) &&
  (if (!decide (nmG g=o) && Fg g 2)=true then Ik g [2,43,47,46,1,28] else !Fg g 43) && (!decide ((nmG g)[0]? =some 42)||(!Fg g 2 && !Fg g 39))
def Db (n c:List UInt8):List UInt8:=if c≠[]∧under n c=false then [] else c
def jk (o:List UInt8):List (List Rec)→List UInt8→List UInt8→Bool→Bool
 |[],_,_,soa=>soa
 |g::gs,cut,red,soa=>
  if propG o g (decide (Db (nmG g) cut≠[])) (decide (Db (nmG g) red≠[]))=true then
   jk o gs (if Db (nmG g) cut=[]∧nmG g≠o∧Fg g 2=true then nmG g else Db (nmG g) cut) (if Fg g 39=true then nmG g else Db (nmG g) red) (soa||decide (nmG g=o))
  else false
def Fk9 (z:Zone) (n:List UInt8):Bool:=z.recs.any fun r=>decide (r.typ=39) && D7 n r.name
def Y1 (z:Zone) (g:List Rec):Bool:=propG z.origin g (P0 z (nmG g)) (Fk9 z (nmG g))
theorem db {n:List UInt8} (h:vld n=true):n≠[]:=fun e=>by
 subst e
 have:vld []=false:=by decide
 rw [this] at h;cases h
structure GInv (z:Zone) (done l:List Rec) (cut red:List UInt8):Prop where
 cut1:cut≠[]→∃r∈done,C9 z r=true∧r.name=cut
 cut2:∀m∈l,∀r∈done,C9 z r=true→under m.name r.name=true→cut≠[]∧under m.name cut=true
 red1:red≠[]→∃r∈done,r.typ=39∧r.name=red
 red2:∀m∈l,∀r∈done,r.typ=39→under m.name r.name=true→red≠[]∧under m.name red=true
theorem fw {o:List UInt8} {g:List Rec} {c r:Bool} (h:propG o g c r=true):under (nmG g) o=true∧r=false:=by
 unfold propG at h
 simp only [Av,A8] at h
 exact ⟨h.1.1.1.1.1.1.1.1,h.1.1.1.2⟩
theorem rx (z:Zone) (hv:∀r∈z.recs,vld r.name=true) (hs:Gc8 z.recs):∀(n:Nat) (done l:List Rec) (cut red:List UInt8) (soa:Bool),l.length≤n→z.recs=done++l→(∀a∈done,∀b∈l,ltN a.name b.name)→GInv z done l cut red→
  (jk z.origin (grp l) cut red soa=true↔(∀g∈grp l,Y1 z g=true)∧(soa=true∨∃r∈l,r.name=z.origin))
 |n,done,[],cut,red,soa,_,_,_,_=>by simp [grp,Sp,jk]
 |0,done,x::r,cut,red,soa,hn,_,_,_=>by simp at hn
 |n+1,done,x::r,cut,red,soa,hn,hz,hlt,hI=>by
  obtain ⟨g,l',h1,h2,h3,h4,h5⟩:=P1 x r
  have hnm:nmG g=x.name:=Dm2 h2 h3
  have hmem:∀y∈g,y∈x::r:=fun y hy=>by rw [h1];exact Cc _ hy
  have hmem':∀y∈l',y∈x::r:=fun y hy=>by rw [h1];exact Bg _ hy
  have hzx:∀y∈x::r,y∈z.recs:=fun y hy=>by rw [hz];exact Bg _ hy
  have hvx:vld x.name=true:=hv x (hzx x (.head _))
  have hgl:∀b∈l',ltN x.name b.name:=by
   have hs2:Gc8 (g++l'):=by
    rw [←h1];have:=hs;rw [hz] at this;exact (Er.1 this).2.1
   have hs3:=Er.1 hs2
   cases l' with
   |nil=>intro b hb;cases hb
   |cons y l''=>
    have hy:ltN x.name y.name:=by
     obtain ⟨w,hw⟩:=E8 g h2
     have k:=hs3.2.2 w hw y (.head _)
     rw [h3 w hw] at k
     rcases to_N.tri x.name y.name with q|q|q
     ·exact q
     ·exact absurd q.symm (h4 y rfl)
     ·exact absurd q k
    intro b hb
    rcases Af.1 hb with rfl|hb
    ·exact hy
    ·have k:=(Ar.1 hs3.2.1).1 b hb
     rcases to_N.tri y.name b.name with q|q|q
     ·exact to_N.tr _ _ _ hy q
     ·rw [←q];exact hy
     ·exact absurd q k
  have habove:∀w∈z.recs,under x.name w.name=true→x.name≠w.name→w∈done:=fun w hw hu hne=>by
   rw [hz] at hw
   rcases Bp.1 hw with hw|hw
   ·exact hw
   ·exfalso
    have k:=Cl8 hu hne
    rw [h1] at hw
    rcases Bp.1 hw with hw|hw
    ·exact hne (h3 w hw).symm
    ·exact to_N.asym k (hgl w hw)
  have hcut:decide (Db x.name cut≠[])=P0 z x.name:=by
   rw [Cr,decide_eq_true_eq]
   unfold P0 Db
   rw [Bt]
   constructor
   ·intro k
    have c0:cut≠[]:=fun e=>by rw [e] at k;simp at k
    have c1:under x.name cut=true:=by
     rcases Ak (under x.name cut) with q|q
     ·exact q
     ·rw [if_pos ⟨c0,q⟩] at k;exact absurd rfl k
    obtain ⟨w,w1,w2,w3⟩:=hI.cut1 c0
    refine ⟨w,by rw [hz];exact Cc _ w1,?_⟩
    have:w.name≠x.name:=fun e=>to_N.irr _ (by have:=hlt w w1 x (.head _);rw [e] at this;exact this)
    rw [w2,w3]
    rw [w3] at this
    simp [this,c1]
   ·rintro ⟨w,w1,w2⟩
    simp only [Av,decide_eq_true_eq] at w2
    have wd:=habove w w1 w2.2 (fun e=>w2.1.2 e.symm)
    obtain ⟨c0,c1⟩:=hI.cut2 x (.head _) w wd w2.1.1 w2.2
    rw [if_neg (by simp [c1])]
    exact c0
  have hred:decide (Db x.name red≠[])=Fk9 z x.name:=by
   rw [Cr,decide_eq_true_eq]
   unfold Fk9 Db D7
   rw [Bt]
   constructor
   ·intro k
    have c0:red≠[]:=fun e=>by rw [e] at k;simp at k
    have c1:under x.name red=true:=by
     rcases Ak (under x.name red) with q|q
     ·exact q
     ·rw [if_pos ⟨c0,q⟩] at k;exact absurd rfl k
    obtain ⟨w,w1,w2,w3⟩:=hI.red1 c0
    refine ⟨w,by rw [hz];exact Cc _ w1,?_⟩
    have:x.name≠w.name:=fun e=>to_N.irr _ (by have:=hlt w w1 x (.head _);rw [e] at this;exact this)
    rw [w3] at this ⊢
    simp [this,c1,w2]
   ·rintro ⟨w,w1,w2⟩
    simp only [Av,decide_eq_true_eq] at w2
    have wd:=habove w w1 w2.2.2 w2.2.1
    obtain ⟨c0,c1⟩:=hI.red2 x (.head _) w wd w2.1 w2.2.2
    rw [if_neg (by simp [c1])]
    exact c0
  have hex:(∃w∈x::r,w.name=z.origin)↔(x.name=z.origin∨∃w∈l',w.name=z.origin):=by
   rw [h1]
   constructor
   ·rintro ⟨w,w1,w2⟩
    rcases Bp.1 w1 with w1|w1
    ·exact .inl (by rw [←h3 w w1];exact w2)
    ·exact .inr ⟨w,w1,w2⟩
   ·rintro (k|⟨w,w1,w2⟩)
    ·obtain ⟨w,hw⟩:=E8 g h2
     exact ⟨w,Cc _ hw,by rw [h3 w hw];exact k⟩
    ·exact ⟨w,Bg _ w1,w2⟩
  rw [h5,hex]
  simp only [jk,hnm,Af,forall_eq_or_imp]
  have hp0:Y1 z g=propG z.origin g (P0 z x.name) (Fk9 z x.name):=by unfold Y1;rw [hnm]
  rw [hp0]
  rw [hcut,hred]
  by_cases hp:propG z.origin g (P0 z x.name) (Fk9 z x.name)=true
  ·rw [if_pos hp]
   obtain ⟨pu,pr⟩:=fw hp
   rw [hnm] at pu
   have hlen:=congrArg List.length h1
   have hg0:0<g.length:=Bw.2 h2
   simp only [Az,As] at hlen hn
   have hmid:∀m∈l',∀w∈done,under m.name w.name=true→under x.name w.name=true:=fun m hm w hw hu=>
    Ay0 hvx hu (fun k=>to_N.asym (hlt w hw x (.head _)) k) (fun k=>to_N.asym (hgl m hm) k)
   have hredE:Db x.name red=[]:=by
    have:=hred;rw [pr] at this;simpa using this
   have ih:=rx z hv hs n (done++g) l' (if Db x.name cut=[]∧x.name≠z.origin∧Fg g 2=true then x.name else Db x.name cut) (if Fg g 39=true then x.name else Db x.name red) (soa||decide (x.name=z.origin)) (by omega) (by rw [hz,h1,Ap])
    (fun a ha b hb=>by
     rcases Bp.1 ha with ha|ha
     ·exact hlt a ha b (hmem' b hb)
     ·rw [h3 a ha];exact hgl b hb)
    ⟨?_,?_,?_,?_⟩
   ·rw [ih]
    simp only [Am,decide_eq_true_eq,hp,true_and]
    constructor
    ·rintro ⟨k1,(k2|k2)|k2⟩
     ·exact ⟨k1, .inl k2⟩
     ·exact ⟨k1, .inr (.inl k2)⟩
     ·exact ⟨k1, .inr (.inr k2)⟩
    ·rintro ⟨k1,k2|k2|k2⟩
     ·exact ⟨k1, .inl (.inl k2)⟩
     ·exact ⟨k1, .inl (.inr k2)⟩
     ·exact ⟨k1, .inr k2⟩
   ·-- the cut is one
    intro k
    by_cases c:Db x.name cut=[]∧x.name≠z.origin∧Fg g 2=true
    ·rw [if_pos c]
     obtain ⟨w,w1,w2⟩:=Bt.1 c.2.2
     simp only [decide_eq_true_eq] at w2
     refine ⟨w,Bg _ w1,?_,h3 w w1⟩
     unfold C9 D7
     rw [h3 w w1]
     simp [w2,pu,c.2.1]
    ·rw [if_neg c] at k ⊢
     have c0:cut≠[]:=fun e=>by rw [e] at k;simp [Db] at k
     have c1:Db x.name cut=cut:=by
      unfold Db at k ⊢
      by_cases q:cut≠[]∧under x.name cut=false
      ·rw [if_pos q] at k;exact absurd rfl k
      ·rw [if_neg q]
     rw [c1]
     obtain ⟨w,w1,w2⟩:=hI.cut1 c0
     exact ⟨w,Cc _ w1,w2⟩
   ·intro m hm w hw hc hu
    rcases Bp.1 hw with hw|hw
    ·have hxu:=hmid m hm w hw hu
     obtain ⟨c0,c1⟩:=hI.cut2 x (.head _) w hw hc hxu
     obtain ⟨_,c2⟩:=hI.cut2 m (hmem' m hm) w hw hc hu
     have c3:Db x.name cut=cut:=by unfold Db;rw [if_neg (by simp [c1])]
     rw [c3,if_neg (by simp [c0])]
     exact ⟨c0,c2⟩
    ·rw [h3 w hw] at hu
     have hc':=hc
     unfold C9 D7 at hc'
     rw [h3 w hw] at hc'
     simp only [Av,decide_eq_true_eq] at hc'
     have hns:Fg g 2=true:=Bt.2 ⟨w,hw,by simp [hc'.1]⟩
     by_cases c:Db x.name cut=[]
     ·rw [if_pos ⟨c,hc'.2.1,hns⟩]
      exact ⟨db hvx,hu⟩
     ·rw [if_neg (by simp [c])]
      have q:¬(cut≠[]∧under x.name cut=false):=fun q=>c (by unfold Db;rw [if_pos q])
      have c1:Db x.name cut=cut:=by unfold Db;rw [if_neg q]
      rw [c1] at c ⊢
      have c2:under x.name cut=true:=by
       rcases Ak (under x.name cut) with k|k
       ·exact k
       ·exact absurd ⟨c,k⟩ q
      exact ⟨c,Av7 hu c2⟩
   ·intro k
    rw [hredE] at k ⊢
    by_cases c:Fg g 39=true
    ·rw [if_pos c]
     obtain ⟨w,w1,w2⟩:=Bt.1 c
     simp only [decide_eq_true_eq] at w2
     exact ⟨w,Bg _ w1,w2,h3 w w1⟩
    ·rw [if_neg c] at k;exact absurd rfl k
   ·intro m hm w hw hc hu
    rcases Bp.1 hw with hw|hw
    ·exfalso
     have hxu:=hmid m hm w hw hu
     obtain ⟨c0,c1⟩:=hI.red2 x (.head _) w hw hc hxu
     have:Db x.name red=red:=by unfold Db;rw [if_neg (by simp [c1])]
     rw [this] at hredE
     exact c0 hredE
    ·rw [h3 w hw] at hu
     have hd:Fg g 39=true:=Bt.2 ⟨w,hw,by simp [hc]⟩
     rw [if_pos hd]
     exact ⟨db hvx,hu⟩
  ·rw [if_neg hp]
   simp [hp]
end Go.X.G
/- Zones by the names of their records: the program's conditions are the reference's. -/
namespace Go.X.G
open Go Go.X
theorem Ab9 {l:List Rec} (h:l.Pairwise ltR):Gc8 l:=h.imp fun {a b} k=>by
 rcases k with k|⟨k,_⟩
 ·exact to_N.asym k
 ·have k':a.name=b.name:=k
  rw [k'];exact to_N.irr _
theorem Bx1:∀(n:Nat) (l:List Rec),l.length≤n→Gc8 l→(∀g∈grp l,g≠[]∧g=l.filter fun r=>decide (r.name=nmG g))∧∀r∈l,∃g∈grp l,nmG g=r.name∧r∈g
 |_,[],_,_=>by simp [grp,Sp]
 |0,x::r,hn,_=>by simp at hn
 |n+1,x::r,hn,hs=>by
  obtain ⟨g,l',h1,h2,h3,h4,h5⟩:=P1 x r
  have hnm:nmG g=x.name:=Dm2 h2 h3
  have hs2:Gc8 (g++l'):=by rw [←h1];exact hs
  have hs3:=Er.1 hs2
  have hgl:∀b∈l',ltN x.name b.name:=by
   cases l' with
   |nil=>intro b hb;cases hb
   |cons y l''=>
    have hy:ltN x.name y.name:=by
     obtain ⟨w,hw⟩:=E8 g h2
     have k:=hs3.2.2 w hw y (.head _)
     rw [h3 w hw] at k
     rcases to_N.tri x.name y.name with q|q|q
     ·exact q
     ·exact absurd q.symm (h4 y rfl)
     ·exact absurd q k
    intro b hb
    rcases Af.1 hb with rfl|hb
    ·exact hy
    ·have k:=(Ar.1 hs3.2.1).1 b hb
     rcases to_N.tri y.name b.name with q|q|q
     ·exact to_N.tr _ _ _ hy q
     ·rw [←q];exact hy
     ·exact absurd q k
  have hlen:=congrArg List.length h1
  have hg0:0<g.length:=Bw.2 h2
  simp only [Az,As] at hlen hn
  obtain ⟨i1,i2⟩:=Bx1 n l' (by omega) hs3.2.1
  rw [h5]
  refine ⟨fun g' hg'=> ?_,fun w hw=> ?_⟩
  ·rcases Af.1 hg' with rfl|hg'
   ·refine ⟨h2,?_⟩
    rw [hnm,h1,E1]
    have e1:(g'.filter fun r=>decide (r.name=x.name))=g':=List.filter_eq_self.2 fun y hy=>by simp [h3 y hy]
    have e2:(l'.filter fun r=>decide (r.name=x.name))=[]:=D9.2 fun y hy=>by
     have:=hgl y hy
     intro k
     simp only [decide_eq_true_eq] at k
     rw [k] at this
     exact to_N.irr _ this
    rw [e1,e2,Dp]
   ·obtain ⟨j1,j2⟩:=i1 g' hg'
    refine ⟨j1,?_⟩
    rw [h1,E1]
    have e1:(g.filter fun r=>decide (r.name=nmG g'))=[]:=D9.2 fun y hy=>by
     intro k
     simp only [decide_eq_true_eq] at k
     obtain ⟨w,hw⟩:=E8 g' j1
     have hw2:=hw
     rw [j2] at hw2
     obtain ⟨q1,q2⟩:=Bs.1 hw2
     simp only [decide_eq_true_eq] at q2
     have:=hgl w q1
     rw [q2,←k,h3 y hy] at this
     exact to_N.irr _ this
    rw [e1,Cy]
    exact j2
  ·rw [h1] at hw
   rcases Bp.1 hw with hw|hw
   ·exact ⟨g, .head _,by rw [hnm,h3 w hw],hw⟩
   ·obtain ⟨g',q1,q2⟩:=i2 w hw
    exact ⟨g', .tail _ q1,q2⟩
theorem Gs1 (l:List Rec) (n:List UInt8) (t:Int):Fg (l.filter fun r=>decide (r.name=n)) t=ah l n t:=by
 rw [Cr]
 unfold Fg ah findR
 rw [Bt,decide_eq_true_eq,List.length_pos_iff_exists_mem]
 constructor
 ·rintro ⟨x,h1,h2⟩
  obtain ⟨h3,h4⟩:=Bs.1 h1
  exact ⟨x,Bs.2 ⟨h3,by unfold isK;rw [h4,h2];rfl⟩⟩
 ·rintro ⟨x,h1⟩
  obtain ⟨h3,h4⟩:=Bs.1 h1
  unfold isK at h4
  rw [Av] at h4
  exact ⟨x,Bs.2 ⟨h3,h4.1⟩,h4.2⟩
theorem Dz1 (l:List Rec) (n:List UInt8) (t:Int):ah l n t=true↔∃r∈l,r.name=n∧r.typ=t:=by
 unfold ah findR
 rw [decide_eq_true_eq,List.length_pos_iff_exists_mem]
 constructor
 ·rintro ⟨x,h1⟩
  obtain ⟨h3,h4⟩:=Bs.1 h1
  unfold isK at h4
  simp only [Av,decide_eq_true_eq] at h4
  exact ⟨x,h3,h4⟩
 ·rintro ⟨x,h1,h2,h3⟩
  exact ⟨x,Bs.2 ⟨h1,by unfold isK;simp [h2,h3]⟩⟩
abbrev sng (t:Int):Prop:=t=6∨t=5∨t=39
def two (x y:Rec):Prop:=x.typ=y.typ→(x≠y→¬sng x.typ)∧(x.typ≠46→x.ttl=y.ttl)
theorem Cl9 {x y:Rec} (h:two x y):two y x:=fun e=>by
 obtain ⟨h1,h2⟩:=h e.symm
 exact ⟨fun k=>by rw [e];exact h1 k.symm,fun k=>(h2 (by rw [←e];exact k)).symm⟩
theorem Cm0 (x:Rec):two x x:=fun _=>⟨fun k=>absurd rfl k,fun _=>rfl⟩
theorem At9 {a b:Rec} (h:ltR a b) (e:a.name=b.name):a.typ≤b.typ:=by
 rcases h with h|⟨_,h|⟨h,_⟩⟩
 ·have h':ltN a.name b.name:=h
  rw [e] at h';exact absurd h' (to_N.irr _)
 ·have h':a.typ<b.typ:=h
  omega
 ·have h':a.typ=b.typ:=h
  omega
theorem Bj0 {a b:Rec} (h:ltR a b):a≠b:=fun e=>by rw [e] at h;exact to_K.irr _ h
theorem mj:∀(r:List Rec) (p:Rec),(p::r).Pairwise ltR→(∀x∈r,x.name=p.name)→(S5 p r=true↔(p::r).Pairwise two)
 |[],p,_,_=>by simp [S5]
 |x::r,p,hs,hn=>by
  obtain ⟨h1,h2⟩:=Ar.1 hs
  obtain ⟨h3,h4⟩:=Ar.1 h2
  have hx:=hn x (.head _)
  have ih:=mj r x h2 (fun y hy=>by rw [hn y (.tail _ hy),hx])
  have hpx:(!decide (x.typ=p.typ)||(!(decide (x.typ=6)||decide (x.typ=5)||decide (x.typ=39)) && (decide (x.typ=46)||decide (x.ttl=p.ttl))))=true↔two p x:=by
   have hne:p≠x:=Bj0 (h1 x (.head _))
   unfold two sng
   simp only [Am,Av,A8,decide_eq_false_iff_not,decide_eq_true_eq,H2]
   constructor
   ·rintro (k|⟨k1,k2⟩) e
    ·exact absurd e.symm k
    ·refine ⟨fun _=>by rw [e];omega,fun k=> ?_⟩
     rcases k2 with k2|k2
     ·exact absurd (e.trans k2) k
     ·exact k2.symm
   ·intro h
    by_cases e:x.typ=p.typ
    ·obtain ⟨a,b⟩:=h e.symm
     have a':=a hne
     refine .inr ⟨by rw [e];omega,?_⟩
     by_cases k:x.typ=46
     ·exact .inl k
     ·exact .inr (b (by rw [←e];exact k)).symm
    ·exact .inl e
  have step:S5 p (x::r)=true↔two p x∧S5 x r=true:=by
   simp only [S5]
   rw [Av,hpx]
  rw [step,ih,Ar (a:=p)]
  constructor
  ·rintro ⟨k1,k2⟩
   refine ⟨fun y hy=> ?_,k2⟩
   rcases Af.1 hy with rfl|hy
   ·exact k1
   ·intro e
    have t1:=At9 (h1 x (.head _)) hx.symm
    have t2:=At9 (h3 y hy) (by rw [hx,hn y (.tail _ hy)])
    have e1:p.typ=x.typ:=by omega
    obtain ⟨a1,a2⟩:=k1 e1
    obtain ⟨b1,b2⟩:=(Ar.1 k2).1 y hy (by omega)
    exact ⟨fun _=>a1 (Bj0 (h1 x (.head _))),fun k=>by rw [a2 k];exact b2 (by omega)⟩
  ·rintro ⟨k1,k2⟩
   exact ⟨k1 x (.head _),k2⟩
theorem Cl7 {g:List Rec} {n:List UInt8} (hs:g.Pairwise ltR) (hn:∀x∈g,x.name=n):Cg6 g=true↔∀x∈g,∀y∈g,two x y:=by
 have:Cg6 g=true↔g.Pairwise two:=by
  cases g with
  |nil=>simp [Cg6]
  |cons p r=>exact mj r p hs fun x hx=>by rw [hn x (.tail _ hx),hn p (.head _)]
 rw [this]
 constructor
 ·intro h x hx y hy
  obtain ⟨i,hi⟩:=C3 hx
  obtain ⟨j,hj⟩:=C3 hy
  obtain ⟨i1,i2⟩:=Aq.1 hi
  obtain ⟨j1,j2⟩:=Aq.1 hj
  rcases Nat.lt_trichotomy i j with k|k|k
  ·have:=L2.1 h i j i1 j1 k
   rw [i2,j2] at this;exact this
  ·subst k
   rw [←i2,←j2];exact Cm0 _
  ·have:=L2.1 h j i j1 i1 k
   rw [i2,j2] at this;exact Cl9 this
 ·intro h
  rw [L2]
  intro i j hi hj _
  exact h _ (Dc hi) _ (Dc hj)
theorem Pv (r x:Rec):Nh r x=true↔(x.name=r.name→two r x∧(r.typ=5→x.typ=5∨x.typ=46∨x.typ=47)):=by
 unfold Nh two sng
 by_cases h:x.name=r.name
 ·simp only [h,decide_true,Jp,Jr,true_implies,Av,A8,G3,decide_eq_false_iff_not,H2,ne_eq,Iy]
  by_cases e:x.typ=r.typ
  ·have e':r.typ=x.typ:=e.symm
   simp only [e,not_true_eq_false,false_or,true_implies]
   constructor
   ·rintro ⟨⟨h1,h2⟩,h3⟩
    refine ⟨⟨fun k q=> ?_,fun k=> ?_⟩,fun k=>by omega⟩
    ·rcases h2 with h2|h2
     ·omega
     ·exact k h2.symm
    ·rcases h1 with h1|h1
     ·exact absurd h1 k
     ·exact h1.symm
   ·rintro ⟨⟨h1,h2⟩,h3⟩
    refine ⟨⟨?_,?_⟩,by omega⟩
    ·by_cases k:r.typ=46
     ·exact .inl k
     ·exact .inr (h2 k).symm
    ·by_cases k:r=x
     ·exact .inr k.symm
     ·have:=h1 k
      left;omega
  ·have e':¬r.typ=x.typ:=fun q=>e q.symm
   simp only [e,e',not_false_eq_true,true_or,true_and,false_implies]
   omega
 ·simp [h]
set_option maxHeartbeats 1000000 in
theorem Ad2 (z:Zone) (hv:∀r∈z.recs,N1 r=true) (hr:z.recs.Pairwise ltR):
  ((∀g∈grp z.recs,Y1 z g=true)∧∃r∈z.recs,r.name=z.origin)↔((findR z.recs z.origin 6).length=1∧ah z.recs z.origin 2=true∧∀r∈z.recs,Qr z r=true):=by
 obtain ⟨ga,gb⟩:=Bx1 z.recs.length z.recs (Ac _) (Ab9 hr)
 have gm:∀g∈grp z.recs,∀x,x∈g↔x∈z.recs∧x.name=nmG g:=fun g hg x=>by
  have:=(ga g hg).2
  constructor
  ·intro h
   rw [this] at h
   obtain ⟨a,b⟩:=Bs.1 h
   exact ⟨a,by simpa using b⟩
  ·rintro ⟨a,b⟩
   rw [this]
   exact Bs.2 ⟨a,by simpa using b⟩
 have gh:∀g∈grp z.recs,∀t,Fg g t=ah z.recs (nmG g) t:=fun g hg t=>by
  have:=Gs1 z.recs (nmG g) t
  rwa [←(ga g hg).2] at this
 have gu:∀g∈grp z.recs,(Cg6 g=true↔∀x∈g,∀y∈g,two x y):=fun g hg=>by
  refine Cl7 (n:=nmG g) ?_ fun x hx=>((gm g hg x).1 hx).2
  rw [(ga g hg).2]
  exact hr.filter _
 have hstar:∀r∈z.recs,(r.name[0]? =some 42↔(lbl r.name)[0]? =some [42]):=fun r h=>wq (X3 (hv r h))
 constructor
 ·rintro ⟨hp,r0,hr0,hr0n⟩
  have hpg:∀r∈z.recs,∃g∈grp z.recs,nmG g=r.name∧r∈g∧Y1 z g=true:=fun r h=>by
   obtain ⟨g,h1,h2,h3⟩:=gb r h
   exact ⟨g,h1,h2,h3,hp g h1⟩
  obtain ⟨g0,k1,k2,k3,k4⟩:=hpg r0 hr0
  rw [hr0n] at k2
  have k5:=k4
  unfold Y1 propG at k5
  simp only [k2,Av,decide_eq_true_eq,decide_true,Jp,Jr] at k5
  have s6:ah z.recs z.origin 6=true:=by rw [←k2,←gh g0 k1,k5.1.1.1.1.1.1.1.2]
  have s2:ah z.recs z.origin 2=true:=by rw [←k2,←gh g0 k1,k5.1.1.1.1.1.2]
  refine ⟨?_,s2,fun r h=> ?_⟩
  ·-- one SOA record
   have hpos:0<(findR z.recs z.origin 6).length:=by unfold ah at s6;simpa using s6
   have hpw:(findR z.recs z.origin 6).Pairwise ltR:=hr.filter _
   have hmm:∀x∈findR z.recs z.origin 6,x∈g0∧x.typ=6:=fun x hx=>by
    obtain ⟨a,b⟩:=Bs.1 hx
    unfold isK at b
    simp only [Av,decide_eq_true_eq] at b
    exact ⟨(gm g0 k1 x).2 ⟨a,by rw [b.1,k2]⟩,b.2⟩
   have hu:=(gu g0 k1).1 k5.1.1.1.1.1.1.2
   generalize findR z.recs z.origin 6=l at*
   match l,hpos,hpw,hmm with
   |[a],_,_,_=>rfl
   |a::b::r,_,hpw,hmm=>
    exfalso
    have hab:=(Ar.1 hpw).1 b (.head _)
    obtain ⟨a1,a2⟩:=hmm a (.head _)
    obtain ⟨b1,b2⟩:=hmm b (.tail _ (.head _))
    exact ((hu a a1 b b1 (by rw [a2,b2])).1 (Bj0 hab)) (.inl a2)
  ·obtain ⟨g,h1,h2,h3,h4⟩:=hpg r h
   unfold Y1 propG at h4
   rw [h2] at h4
   simp only [Av,decide_eq_true_eq,Am,A8,decide_eq_false_iff_not,G3] at h4
   obtain ⟨⟨⟨⟨⟨⟨⟨⟨p1,p2⟩,p3⟩,p4⟩,p5⟩,p6⟩,p7⟩,p8⟩,p9⟩:=h4
   have hu:=(gu g h1).1 p3
   have hon:∀ts,Ik g ts=true→r.typ∈ts:=fun ts k=>by
    have:=Bv.1 k r h3
    simpa using this
   have has:∀t,r.typ=t→Fg g t=true:=fun t e=>Bt.2 ⟨r,h3,by simp [e]⟩
   unfold Qr
   simp only [Av,A8,G3,decide_eq_false_iff_not,ne_eq,Iy]
   refine ⟨⟨⟨p1,?_⟩,?_⟩,?_⟩
   ·by_cases e:r.typ=6
    ·right
     rw [has 6 e] at p2
     simpa using p2.symm
    ·exact .inl e
   ·unfold W6
    rw [Bv]
    intro x hx
    rw [Pv]
    intro e
    have hxg:x∈g:=(gm g h1 x).2 ⟨hx,by rw [h2,e]⟩
    refine ⟨hu r h3 x hxg,fun e5=> ?_⟩
    rcases p5 with p5|p5
    ·rw [has 5 e5] at p5;cases p5
    ·have:=Bv.1 p5 x hxg
     simpa using this
   ·unfold Vl
    have h9:¬((lbl r.name)[0]? =some [42]∧(r.typ=2∨r.typ=39)):=by
     rintro ⟨e1,e2⟩
     rcases p9 with p9|⟨q1,q2⟩
     ·exact p9 ((hstar r h).2 e1)
     ·rcases e2 with e2|e2
      ·rw [has 2 e2] at q1;cases q1
      ·rw [has 39 e2] at q2;cases q2
    rw [if_neg h9,Av]
    refine ⟨Bv.2 fun x hx=> ?_,?_⟩
    ·unfold M2
     simp only [Av,A8,G3,decide_eq_false_iff_not,ne_eq,Iy]
     constructor
     ·by_cases e:x.typ=39
      ·right
       rcases Ak (D7 r.name x.name) with q|q
       ·have:Fk9 z r.name=true:=Bt.2 ⟨x,hx,by simp [e,q]⟩
        rw [this] at p6;cases p6
       ·exact q
      ·exact .inl e
     ·by_cases e:x.typ=2∧D7 x.name z.origin=true∧D7 r.name x.name=true
      ·have q:=e.2.2
       unfold D7 at q
       simp only [Av,decide_eq_true_eq] at q
       have:P0 z r.name=true:=Bt.2 ⟨x,hx,by unfold C9;simp [e.1,e.2.1,q.2];exact fun k=>q.1 k.symm⟩
       rcases p7 with p7|p7
       ·rw [this] at p7;cases p7
       ·have:=hon _ p7
        simp at this
        rcases this with this|this
        ·exact .inl (.inr this)
        ·exact .inr this
      ·by_cases e1:x.typ=2
       ·by_cases e2:D7 x.name z.origin=true
        ·have e3:D7 r.name x.name=false:=by
          rcases Ak (D7 r.name x.name) with q|q
          ·exact absurd ⟨e1,e2,q⟩ e
          ·exact q
         exact .inl (.inl (.inr e3))
        ·exact .inl (.inl (.inl (.inr (by simpa using e2))))
       ·exact .inl (.inl (.inl (.inl e1)))
    ·have hb:D7 r.name z.origin= !decide (r.name=z.origin):=by unfold D7;rw [p1];simp
     rw [hb,←h2,←gh g h1 2,h2]
     by_cases c:¬r.name=z.origin∧Fg g 2=true
     ·have cb:(!decide (r.name=z.origin) && Fg g 2)=true:=by simp [c]
      rw [if_pos c] at p8
      rw [if_pos cb]
      have:=hon _ p8
      unfold Vh
      simp at this ⊢
      omega
     ·have cb:¬(!decide (r.name=z.origin) && Fg g 2)=true:=by simpa using c
      rw [if_neg c] at p8
      rw [if_neg cb]
      simp only [A8] at p8
      rw [decide_eq_true_eq]
      intro e
      rw [has 43 e] at p8;cases p8
 ·rintro ⟨h1,h2,h3⟩
  have hrr:∃r∈z.recs,r.name=z.origin:=by
   obtain ⟨r,k1,k2,_⟩:=(Dz1 _ _ _).1 h2
   exact ⟨r,k1,k2⟩
  refine ⟨fun g hg=> ?_,hrr⟩
  obtain ⟨r,hrg⟩:=E8 g (ga g hg).1
  obtain ⟨hrz,hrn⟩:=(gm g hg r).1 hrg
  have hrec:∀x∈g,under x.name z.origin=true∧(x.typ=6→x.name=z.origin)∧(∀y∈g,two x y∧(x.typ=5→y.typ=5∨y.typ=46∨y.typ=47))∧Vl z x=true:=fun x hx=>by
   obtain ⟨a,b⟩:=(gm g hg x).1 hx
   have k:=h3 x a
   unfold Qr at k
   simp only [Av,A8,G3,decide_eq_false_iff_not,ne_eq,Iy] at k
   refine ⟨k.1.1.1,fun e=> ?_,fun y hy=> ?_,k.2⟩
   ·rcases k.1.1.2 with q|q
    ·exact absurd e q
    ·exact q
   ·obtain ⟨c,d⟩:=(gm g hg y).1 hy
    have q:=k.1.2
    unfold W6 at q
    exact (Pv x y).1 (Bv.1 q y c) (by rw [d,b])
  have hpl:∀x∈g,¬((lbl x.name)[0]? =some [42]∧(x.typ=2∨x.typ=39))∧z.recs.all (M2 z x)=true∧(if D7 x.name z.origin && ah z.recs x.name 2 then Vh x.typ else decide (x.typ≠43))=true:=fun x hx=>by
   have k:=(hrec x hx).2.2.2
   unfold Vl at k
   by_cases q:(lbl x.name)[0]? =some [42]∧(x.typ=2∨x.typ=39)
   ·rw [if_pos q] at k;cases k
   ·rw [if_neg q,Av] at k
    exact ⟨q,k⟩
  have hnx:∀x∈g,x.name=nmG g:=fun x hx=>((gm g hg x).1 hx).2
  unfold Y1 propG
  simp only [Av,decide_eq_true_eq,Am,A8,decide_eq_false_iff_not,G3]
  refine ⟨⟨⟨⟨⟨⟨⟨⟨?_,?_⟩,?_⟩,?_⟩,?_⟩,?_⟩,?_⟩,?_⟩,?_⟩
  ·rw [←hrn];exact (hrec r hrg).1
  ·rw [Cr,decide_eq_true_eq]
   constructor
   ·intro k
    obtain ⟨x,x1,x2⟩:=Bt.1 k
    rw [←hnx x x1]
    exact (hrec x x1).2.1 (by simpa using x2)
   ·intro k
    rw [gh g hg,k]
    unfold ah
    simp [h1]
  ·exact (gu g hg).2 fun x hx y hy=>((hrec x hx).2.2.1 y hy).1
  ·by_cases e:nmG g=z.origin
   ·right;rw [gh g hg,e];exact h2
   ·exact .inl e
  ·by_cases e:Fg g 5=true
   ·right
    obtain ⟨x,x1,x2⟩:=Bt.1 e
    refine Bv.2 fun y hy=> ?_
    have:=((hrec x x1).2.2.1 y hy).2 (by simpa using x2)
    simpa using this
   ·exact .inl (by simpa using e)
  ·rcases Ak (Fk9 z (nmG g)) with q|q
   ·exfalso
    obtain ⟨w,w1,w2⟩:=Bt.1 q
    have k:=Bv.1 (hpl r hrg).2.1 w w1
    unfold M2 at k
    rw [hrn] at k
    rw [w2] at k
    simp at k
   ·exact q
  ·rcases Ak (P0 z (nmG g)) with q|q
   ·right
    obtain ⟨w,w1,w2⟩:=Bt.1 q
    unfold C9 at w2
    simp only [Av,decide_eq_true_eq] at w2
    refine Bv.2 fun x hx=> ?_
    have k:=Bv.1 (hpl x hx).2.1 w w1
    unfold M2 at k
    have hb:D7 x.name w.name=true:=by
     unfold D7
     rw [hnx x hx]
     have:nmG g≠w.name:=fun e=>w2.1.2 e.symm
     simp [this,w2.2]
    rw [hb,w2.1.1.2] at k
    simp [w2.1.1.1] at k
    have k':x.typ=1∨x.typ=28:=by omega
    simpa using k'
   ·exact .inl q
  ·have hbn:D7 (nmG g) z.origin= !decide (nmG g=z.origin):=by
    unfold D7
    rw [←hrn,(hrec r hrg).1];simp
   by_cases c0:¬nmG g=z.origin∧Fg g 2=true
   ·have c:(!decide (nmG g=z.origin) && Fg g 2)=true:=by simp [c0]
    rw [if_pos c0]
    refine Bv.2 fun x hx=> ?_
    have k:=(hpl x hx).2.2
    rw [hnx x hx,hbn,←gh g hg,if_pos c] at k
    unfold Vh at k
    simp at k ⊢
    omega
   ·have c:¬(!decide (nmG g=z.origin) && Fg g 2)=true:=by simpa using c0
    rw [if_neg c0]
    simp only [A8]
    rcases Ak (Fg g 43) with q|q
    ·exfalso
     obtain ⟨x,x1,x2⟩:=Bt.1 q
     have k:=(hpl x x1).2.2
     rw [hnx x x1,hbn,←gh g hg,if_neg c] at k
     simp at x2 k
     exact k x2
    ·exact q
  ·by_cases e:(nmG g)[0]? =some 42
   ·right
    rw [←hrn] at e
    have e2:=(hstar r hrz).1 e
    constructor
    ·rcases Ak (Fg g 2) with q|q
     ·exfalso
      obtain ⟨x,x1,x2⟩:=Bt.1 q
      refine (hpl x x1).1 ⟨by rw [hnx x x1,←hrn];exact e2, .inl (by simpa using x2)⟩
     ·exact q
    ·rcases Ak (Fg g 39) with q|q
     ·exfalso
      obtain ⟨x,x1,x2⟩:=Bt.1 q
      refine (hpl x x1).1 ⟨by rw [hnx x x1,←hrn];exact e2, .inr (by simpa using x2)⟩
     ·exact q
   ·exact .inl e
end Go.X.G
