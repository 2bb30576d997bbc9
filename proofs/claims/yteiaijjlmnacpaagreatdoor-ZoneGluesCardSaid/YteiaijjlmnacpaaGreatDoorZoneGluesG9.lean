/- Names: what the reference's functions give. -/
import Derived.Test.YteiaijjlmnacpaaGreatDoorZoneGluesG7
import Derived.Test.YteiaijjlmnacpaaGreatDoorZoneGluesG8
open Bool renaming eq_false_or_eq_true→Ak,and_eq_true→Av,false_eq_true→Ab,or_eq_true→Am,not_eq_true'→A9,eq_iff_iff→C1,not_true→Kh,false_or→Kl,and_true→Pj
open Classical renaming not_not→Nn
open List renaming getElem?_eq_some_iff→Aq,getElem?_eq_getElem→Ax,length_append→Az,mem_cons→Al,append_assoc→Ap,mem_of_getElem?→Ar,pairwise_cons→As,length_cons→A0,length_pos_iff→Bw,all_eq_true→By,length_nil→Bc,getD_eq_getElem?_getD→Bd,mem_append_right→Bg,getElem?_map→Bh,take_append_drop→Bl,mem_append→Br,mem_filter→Bs,length_drop→Bt,drop_eq_getElem_cons→B0,cons_append→B3,take_add_one→B7,any_eq_true→B8,getElem?_cons_zero→Ck,getElem?_range→Cv,nil_append→Cd,take_length→Cf,mem_append_left→Cg,drop_drop→C4,getElem?_cons_succ→Dd,drop_zero→D1,mem_map→D5,pairwise_append→E8,mem_range→E9,mem_cons_self→Fj,drop_eq_nil_of_le→Fb,exists_mem_of_ne_nil→Ff,length_map→F9,flatMap_cons→Gt,drop_append_of_le_length→Ig,suffix_iff_eq_drop→I5,getLast_eq_getElem→I7,isSuffixOf_iff_suffix→K5,cons_prefix_cons→L5,append_cancel_right→O9,length_mergeSort→jz,count_eq_zero→Ky0
open Nat renaming le_refl→Ac,zero_le→Cm
open Option renaming map_eq_some_iff→Aw,map_some→A4
set_option maxHeartbeats 1000000
set_option linter.unusedVariables false
set_option linter.unusedSimpArgs false
namespace Go.X.G
open Go Go.X
def Oc (c:UInt8):Bool:=decide (97≤(c.toNat:Int)) && decide ((c.toNat:Int)≤122)||decide (48≤(c.toNat:Int)) && decide ((c.toNat:Int)≤57)||decide ((c.toNat:Int)=45)||decide ((c.toNat:Int)=95)
theorem Bk6 (c:UInt8):(decide (97≤(c.toNat:Int)) && decide ((c.toNat:Int)≤122)||decide (48≤(c.toNat:Int)) && decide ((c.toNat:Int)≤57)||decide ((c.toNat:Int)=45)||decide ((c.toNat:Int)=95))=Oc c:=rfl
def Jl (s:List UInt8):Bool:=decide (s=[42])||(decide (1≤s.length) && decide (s.length≤63) && s.all Oc)
theorem Bq1 (s:List UInt8) (N:Nat) (hN:s.length<N) (hs:s.length≤4294967296):
  Cc8.ev S N [.s s]=some (if s.all Oc=true then .yld 0 [] else .ret [.b false]):=by
 refine Dv s (fun i=>[.i .i64 (i:Int)]) (fun i r=>if r.all Oc=true then .yld 0 [] else .ret [.b false]) rfl hN (fun i c r hd hi hc=> ?_) ?_
 ·simp (disch:=omega) only [Bd3,xe,EV,simprocAttr,hc,Bk6]
  cases h:Oc c<;>simp [h,Out.goes]
 ·simp (disch:=omega) [Bd3,xe,EV,simprocAttr,Out.goes]
theorem Bq0 (s:List UInt8) (hs:s.length≤4294967296):S d4 1 [.s s]=some [.b (Jl s)]:=by
 refine Jv8 (N:=s.length+1) rfl ?_
 simp (disch:=omega) only [Bd3,Bq1,xe,EV,simprocAttr]
 unfold Jl
 grind
end Go.X.G
/- Names: what the reference's functions give. -/
namespace Go.X.G
open Go Go.X
def spl (first:Bool) (cur:List UInt8):List UInt8→Option (List (List UInt8))
 |[]=>some []
 |c::r=>if c=46 then (if Jl cur=true∧(cur=[42]→first=true) then (spl false [] r).map (cur::·) else none) else spl first (cur++[c]) r
def nm (n:List UInt8):Option (List (List UInt8)):=
 if n=[46] then some [] else if 2≤n.length∧n.length≤254∧n[n.length - 1]? =some 46 then spl true [] n else none
def lbl (n:List UInt8):List (List UInt8):=(nm n).getD []
def vld (n:List UInt8):Bool:=(nm n).isSome
theorem Hm2 {α:Type} (n:List α) (i j:Nat) (c:α) (h:n[i]? =some c) (hj:j≤i):(n.take (i+1)).drop j=(n.take i).drop j++[c]:=by
 have hi:i<n.length:=(Aq.1 h).1
 rw [B7,h,Ig (by simp;omega)];rfl
theorem Hm3 {α:Type} (n:List α) (i:Nat):(n.take i).drop i=[]:=by
 rw [List.drop_eq_nil_iff];simp;omega
def U8 (l:List (List UInt8)):Option (List (List UInt8))→Out
 |some ls=> .yld 0 [.l 1 ((l++ls).map .s)]
 |none=> .ret [.l 1 [], .b false]
theorem Fx1 (n:List UInt8) (N:Nat) (hN:n.length<N) (hs:n.length≤1000):
  Gj8.ev S N [.s n]=some (U8 [] (spl true [] n)):=by
 refine Fs n (fun i (g:List (List UInt8)×Nat)=>[.l 1 (g.1.map .s), .i .i64 (g.2:Int), .i .i64 (i:Int)]) (fun i g r=>U8 g.1 (spl (decide (g.2=0)) ((n.take i).drop g.2) r)) (fun i g=>g.1.length≤i∧g.2≤i) ([],0) rfl ⟨Ac _,Ac _⟩ hN (fun i g c r hd hi hc hI=> ?_) (fun g hI=> ?_)
 ·obtain ⟨l,st⟩:=g
  obtain ⟨h1,h2⟩:=hI
  simp only at h1 h2 ⊢
  have hl:((n.take i).drop st).length≤4294967296:=by simp;omega
  have hm:(l.map PV.s).length=l.length:=F9 ..
  have hd':=Hl5 c 46 (by omega)
  by_cases hdot:c=46
  ·have hdi:=hd'.2 hdot
   simp (disch:=omega) only [Zs,xe,EV,simprocAttr,hc,Bq0]
   simp only [spl,if_pos hdot]
   by_cases h:Jl ((n.take i).drop st)=true∧((n.take i).drop st=[42]→st=0)
   ·obtain ⟨h3,h4⟩:=h
    left
    refine ⟨(l++[(n.take i).drop st],i+1),?_,?_,?_⟩
    ·rw [if_neg (by simp only [h3];intro h;simp at h;have:=h4 h.1;omega)]
     simp
    ·simp;omega
    ·simp only [Hm3]
     rw [if_pos ⟨h3,by simpa using h4⟩]
     cases h9:spl false [] r<;>simp [h9,U8]
   ·right
    have h':¬(Jl ((n.take i).drop st)=true∧((n.take i).drop st=[42]→decide (st=0)=true)):=by simpa using h
    rw [if_neg h']
    refine ⟨?_,rfl⟩
    rw [if_pos]
    ·rfl
    ·cases h5:Jl ((n.take i).drop st)
     ·simp
     ·simp only [h5,true_and] at h
      have ⟨h6,h7⟩:=Classical.not_imp.1 h
      simp [h6];omega
  ·have hdi:¬(c.toNat:Int)=46:=fun h=>hdot (hd'.1 h)
   left
   refine ⟨(l,st),?_,?_,?_⟩
   ·simp (disch:=omega) only [Zs,xe,EV,simprocAttr,hc]
   ·simp only;omega
   ·simp only [spl];rw [if_neg hdot,Hm2 n i st c hc h2]
 ·simp (disch:=omega) [Zs,xe,EV,simprocAttr,Out.goes,spl,U8]
theorem split_ok (n:List UInt8) (hs:n.length≤9223372036854775807):S Uf 1 [.s n]=some [Bq (lbl n), .b (vld n)]:=by
 refine Kg3 (N:=n.length+1) rfl ?_
 unfold Bq lbl vld nm
 by_cases h1:n=[46]
 ·simp (disch:=omega) [Zs,xe,EV,simprocAttr,h1]
 ·rw [if_neg h1]
  by_cases h2:n.length<2
  ·simp (disch:=omega) only [Zs,xe,EV,simprocAttr,h1]
   have h3:¬(2≤n.length∧n.length≤254∧n[n.length - 1]? =some 46):=by omega
   rw [if_neg h3];rfl
  ·by_cases h3:254<n.length
   ·simp (disch:=omega) only [Zs,xe,EV,simprocAttr,h1]
    have h3:¬(2≤n.length∧n.length≤254∧n[n.length - 1]? =some 46):=by omega
    rw [if_neg h3];rfl
   ·have h4:=Ax (l:=n) (i:=n.length - 1) (by omega)
    have h5:((n.length:Int) - 1).toNat=n.length - 1:=by omega
    have h6:=Hl5 (n[n.length - 1]'(by omega)) 46 (by omega)
    simp (disch:=omega) only [Zs,xe,EV,simprocAttr,h1,h4,h5,Fx1]
    by_cases h7:n[n.length - 1]'(by omega)=46
    ·rw [if_pos (show 2≤n.length∧n.length≤254∧some (n[n.length - 1]'(by omega))=some 46 from ⟨by omega,by omega,by rw [h7]⟩),if_neg (fun h=>h (h6.2 h7))]
     cases h8:spl true [] n
     ·simp [U8,Eh6]
     ·simp (disch:=omega) [Zs,U8,xe,EV,simprocAttr]
    ·rw [if_neg (show¬(2≤n.length∧n.length≤254∧some (n[n.length - 1]'(by omega))=some 46) from fun h=>h7 (by simpa using h.2.2)),if_pos (show (((n[n.length - 1]'(by omega)).toNat:Int)≠46) from fun h=>h7 (h6.1 h))]
     rfl
end Go.X.G
/- Names: what the reference's functions give, ctd. -/
namespace Go.X.G
open Go Go.X
theorem kv:∀(r:List UInt8) (f:Bool) (cur:List UInt8) (l:List (List UInt8)),spl f cur r=some l→l.length≤r.length
 |[],f,cur,l,h=>by simp [spl] at h;simp [←h]
 |c::r,f,cur,l,h=>by
  simp only [spl] at h
  split at h
  ·split at h
   ·obtain ⟨m,hm,rfl⟩:=Aw.1 h
    have:=kv r _ _ _ hm
    simp;omega
   ·cases h
  ·have:=kv r _ _ _ h
   simp;omega
theorem Jc4 {n:List UInt8} {l:List (List UInt8)} (h:nm n=some l):l.length≤254:=by
 unfold nm at h
 split at h
 ·injection h with h;subst h;simp
 ·split at h
  ·rename_i h2
   have:=kv _ _ _ _ h;omega
  ·cases h
theorem G3 (n:List UInt8):(lbl n).length≤254:=by
 unfold lbl
 cases h:nm n with
 |none=>simp
 |some l=>exact Jc4 h
theorem Fg (n:List UInt8) (hs:n.length≤9223372036854775807):S dq 1 [.s n]=some [.b (vld n)]:=by
 refine Kn0 (N:=1) rfl ?_
 simp (disch:=omega) only [Kb0,split_ok,xe,EVP,EV,simprocAttr]
theorem J2 (n:List UInt8) (hs:n.length≤9223372036854775807):S c9 1 [.s n]=some [Bq (lbl n)]:=by
 refine Kl7 (N:=1) rfl ?_
 simp (disch:=omega) only [Kz3,split_ok,xe,EVP,EV,simprocAttr]
def Rc {α:Type} [DecidableEq α]:List α→List α→Nat
 |x::xs,y::ys=>if x=y then Rc xs ys+1 else 0
 |_,_=>0
def Jf (a b:List (List UInt8)):Nat:=Rc a.reverse b.reverse
theorem Cl7 {α:Type} [DecidableEq α]:∀(a b:List α),Rc a b≤a.length∧Rc a b≤b.length
 |[],b=>by simp [Rc]
 |x::xs,[]=>by simp [Rc]
 |x::xs,y::ys=>by
  have:=Cl7 xs ys
  simp only [Rc]
  split<;>simp<;>omega
theorem Fx9 (a b:List (List UInt8)):Jf a b≤a.length∧Jf a b≤b.length:=by
 have:=Cl7 a.reverse b.reverse
 simpa [Jf] using this
theorem Hp1 (a b:List (List UInt8)) (N:Nat) (hN:a.length<N) (ha:a.length≤1000000) (hb:b.length≤1000000):
  mb.ev S N [Bq a,Bq b]=some (.yld 0 [.i .i64 (Jf a b:Int)]):=by
 have key:=Ip (fn:=S) (N:=N) (η:=[Bq a,Bq b]) (id:=1) (init:=[(.c (.i .i64 (0)))]) (body:=qf) (α:=Nat) (fun k=>[.i .i64 (k:Int)]) (fun k=> .yld 0 [.i .i64 ((k+Rc (a.reverse.drop k) (b.reverse.drop k):Nat):Int)]) (fun k=>k≤a.length∧k≤b.length) (fun k=>a.length - k) 0 rfl ⟨Cm _,Cm _⟩ (by omega) ?_
 ·simpa [Jf,mb] using key
 ·rintro k ⟨h1,h2⟩
  by_cases h3:k<a.length
  ·by_cases h4:k<b.length
   ·have e1:((a.length:Int) - 1 - k).toNat=a.length - 1 - k:=by omega
    have e2:((b.length:Int) - 1 - k).toNat=b.length - 1 - k:=by omega
    have g1:a[a.length - 1 - k]? =some (a[a.length - 1 - k]'(by omega)):=Ax (by omega)
    have g2:b[b.length - 1 - k]? =some (b[b.length - 1 - k]'(by omega)):=Ax (by omega)
    have d1:a.reverse.drop k=(a[a.length - 1 - k]'(by omega))::a.reverse.drop (k+1):=by
     rw [B0 (by simpa using h3)];simp
    have d2:b.reverse.drop k=(b[b.length - 1 - k]'(by omega))::b.reverse.drop (k+1):=by
     rw [B0 (by simpa using h4)];simp
    simp (disch:=omega) only [rm,xe,EVP,EV,simprocAttr,e1,e2,g1,g2]
    rw [d1,d2]
    simp only [Rc]
    by_cases h:a[a.length - 1 - k]'(by omega)=b[b.length - 1 - k]'(by omega)
    ·left
     refine ⟨k+1,by simp [h],⟨by omega,by omega⟩,by omega,?_⟩
     rw [if_pos h]
     congr 3
     push_cast
     omega
    ·right
     simp [h,Out.goes]
   ·right
    have d2:b.reverse.drop k=[]:=Fb (by simp;omega)
    have z:Rc (a.reverse.drop k) []=0:=by cases a.reverse.drop k<;>rfl
    rw [d2,z]
    simp (disch:=omega) [rm,xe,EVP,EV,simprocAttr,Out.goes]
  ·right
   have d1:a.reverse.drop k=[]:=Fb (by simp;omega)
   have z:Rc [] (b.reverse.drop k)=0:=rfl
   rw [d1,z]
   simp (disch:=omega) [rm,xe,EVP,EV,simprocAttr,Out.goes]
theorem ky (a b:List (List UInt8)) (ha:a.length≤1000000) (hb:b.length≤1000000):S V7 2 [Bq a,Bq b]=some [.i .i64 (Jf a b:Int)]:=by
 refine Jy3 (N:=a.length+1) rfl ?_
 simp (disch:=omega) only [rm,Hp1,xe,EVP,EV,simprocAttr]
def under (n top:List UInt8):Bool:=vld n && vld top && decide (Jf (lbl n) (lbl top)=(lbl top).length)
theorem L0 (n top:List UInt8) (hn:n.length≤9223372036854775807) (ht:top.length≤9223372036854775807):S lh 2 [.s n, .s top]=some [.b (under n top)]:=by
 refine Km6 (N:=1) rfl ?_
 have h1:=G3 n
 have h2:=G3 top
 unfold under
 cases h3:vld n<;>cases h4:vld top<;>simp (disch:=omega) only [Kz7,split_ok,ky,h3,h4,xe,EVP,EV,simprocAttr]
 all_goals (simp;try omega)
def cmpS (a b:List UInt8):Int:=if Op.bytesLess a b then -1 else if a=b then 0 else 1
theorem N3 (a b:List UInt8):S Vt 2 [.s a, .s b]=some [.i .i64 (cmpS a b)]:=by
 refine Jq9 (N:=1) rfl ?_
 unfold cmpS
 simp (disch:=omega) only [Il9,xe,EVP,EV,simprocAttr]
 cases h:Op.bytesLess a b
 ·by_cases h2:a=b<;>simp [h2]
 ·simp
def I0 (a b:List UInt8):Int:=
 if vld a && vld b then
  let k:=Jf (lbl a) (lbl b)
  if k<(lbl a).length∧k<(lbl b).length then cmpS ((lbl a).getD ((lbl a).length - 1 - k) []) ((lbl b).getD ((lbl b).length - 1 - k) [])
  else if (lbl a).length<(lbl b).length then -1 else if (lbl b).length<(lbl a).length then 1 else 0
 else if vld a then -1 else if vld b then 1 else cmpS a b
theorem rj (a b:List UInt8) (hn:a.length≤9223372036854775807) (ht:b.length≤9223372036854775807):S et 2 [.s a, .s b]=some [.i .i64 (I0 a b)]:=by
 refine Jx7 (N:=1) rfl ?_
 have h1:=G3 a
 have h2:=G3 b
 have h5:=Fx9 (lbl a) (lbl b)
 unfold I0
 cases h3:vld a<;>cases h4:vld b
 ·simp (disch:=omega) [Z5,split_ok,N3,h3,h4,xe,EVP,EV,simprocAttr]
 ·simp (disch:=omega) [Z5,split_ok,N3,h3,h4,xe,EVP,EV,simprocAttr]
 ·simp (disch:=omega) [Z5,split_ok,N3,h3,h4,xe,EVP,EV,simprocAttr]
 ·by_cases h6:Jf (lbl a) (lbl b)<(lbl a).length∧Jf (lbl a) (lbl b)<(lbl b).length
  ·obtain ⟨h7,h8⟩:=h6
   have e1:(((lbl a).length:Int) - 1 - (Jf (lbl a) (lbl b):Int)).toNat=(lbl a).length - 1 - Jf (lbl a) (lbl b):=by omega
   have e2:(((lbl b).length:Int) - 1 - (Jf (lbl a) (lbl b):Int)).toNat=(lbl b).length - 1 - Jf (lbl a) (lbl b):=by omega
   have g1:=Ax (l:=lbl a) (i:=(lbl a).length - 1 - Jf (lbl a) (lbl b)) (by omega)
   have g2:=Ax (l:=lbl b) (i:=(lbl b).length - 1 - Jf (lbl a) (lbl b)) (by omega)
   simp (disch:=omega) only [Z5,split_ok,ky,N3,h3,h4,e1,e2,g1,g2,xe,EVP,EV,simprocAttr]
   simp [h7,h8,g1,g2]
  ·simp (disch:=omega) only [Z5,split_ok,ky,N3,h3,h4,xe,EVP,EV,simprocAttr]
   simp only [h6]
   grind
end Go.X.G
/- The library's functions on strings. -/
namespace Go.X.G
open Go Go.X
theorem Iw9 (x:List UInt8) (c:UInt8):S xy 2 [.s x, .i .u8 (c.toNat:Int)]=some [.i .i64 (x.count c:Int)]:=
 Jj8 (args:=[.s x, .i .u8 (c.toNat:Int)]) (by simp [XK.run,Am3,Lib.countByte])
theorem Ij8 (x:List UInt8) (c:UInt8):S xh 2 [.s x, .i .u8 (c.toNat:Int)]=some [.i .i64 (Lib.indexByte x c)]:=
 Jq8 (args:=[.s x, .i .u8 (c.toNat:Int)]) (by simp [XK.run,Am3])
theorem Ix1 (x y:List UInt8):S xg 2 [.s x, .s y]=some [.i .i64 (Lib.compareBytes x y)]:=
 Jk8 (args:=[.s x, .s y]) (by simp [XK.run,Fy0])
theorem O6 (x:List UInt8) (c:UInt8):S V5 2 [.s x, .i .u8 (c.toNat:Int)]=some [.i .i64 (Lib.indexByte x c)]:=by
 refine Jx5 (N:=1) rfl ?_
 simp (disch:=omega) only [In2,Ij8,xe,EVP,EV,simprocAttr]
theorem i5 (x:List UInt8) (c:UInt8):S Cq6 2 [.s x, .i .u8 (c.toNat:Int)]=some [.i .i64 (Lib.indexByte x c)]:=by
 refine Kh9 (N:=1) rfl ?_
 simp (disch:=omega) only [Ky9,O6,xe,EVP,EV,simprocAttr]
theorem M3 (c:UInt8):∀(x:List UInt8),c∉x→Lib.indexByte x c= -1
 |[],_=>rfl
 |b::l,h=>by
  have h1:b≠c:=fun e=>h (by simp [e])
  have h2:=M3 c l (fun e=>h (by simp [e]))
  simp [Lib.indexByte,h1,h2]
theorem Jm (c:UInt8) (post:List UInt8):∀(pre:List UInt8),c∉pre→Lib.indexByte (pre++c::post) c=(pre.length:Int)
 |[],_=>by simp [Lib.indexByte]
 |b::l,h=>by
  have h1:b≠c:=fun e=>h (by simp [e])
  have h2:=Jm c post l (fun e=>h (by simp [e]))
  simp only [B3,Lib.indexByte,h2]
  simp [h1]
  try omega
theorem dot_split (c:UInt8):∀(s:List UInt8),c∉s∨∃pre post,s=pre++c::post∧c∉pre
 |[]=> .inl (by simp)
 |b::l=>by
  by_cases h:b=c
  ·exact .inr ⟨[],l,by simp [h],by simp⟩
  ·rcases dot_split c l with h1|⟨pre,post,rfl,h2⟩
   ·exact .inl (by simp [h1,Ne.symm h])
   ·exact .inr ⟨b::pre,post,by simp,by simp [h2,Ne.symm h]⟩
def pcs (cur:List UInt8):List UInt8→List (List UInt8)
 |[]=>[cur]
 |c::r=>if c=46 then cur::pcs [] r else pcs (cur++[c]) r
def cut (s:List UInt8):List (List UInt8):=pcs [] s
theorem Ck4 (post:List UInt8):∀(pre cur:List UInt8),(46:UInt8)∉pre→pcs cur (pre++46::post)=(cur++pre)::pcs [] post
 |[],cur,_=>by simp [pcs]
 |b::l,cur,h=>by
  have h1:b≠46:=fun e=>h (by simp [e])
  have h2:=Ck4 post l (cur++[b]) (fun e=>h (by simp [e]))
  simp [pcs,h1,h2]
theorem Xs:∀(s cur:List UInt8),(46:UInt8)∉s→pcs cur s=[cur++s]
 |[],cur,_=>by simp [pcs]
 |b::l,cur,h=>by
  have h1:b≠46:=fun e=>h (by simp [e])
  have h2:=Xs l (cur++[b]) (fun e=>h (by simp [e]))
  simp [pcs,h1,h2]
theorem Cl4 (s:List UInt8):(cut s).length=s.count 46+1:=by
 have:∀(s cur:List UInt8),(pcs cur s).length=s.count 46+1:=by
  intro s
  induction s with
  |nil=>intro cur;rfl
  |cons c r ih=>
   intro cur
   by_cases h:c=46<;>simp [pcs,h,ih]
 exact this s []
theorem By9 (s:List UInt8) (hs:s.length≤9223372036854775807):S dy 2 [.s s, .s [46]]=some [.i .i64 (Lib.indexByte s 46)]:=by
 refine Jj7 (N:=1) rfl ?_
 have h1:=O6 s 46
 have e:(((46:UInt8).toNat:Nat):Int)=46:=rfl
 rw [e] at h1
 by_cases h:[46]=s
 ·subst h
  simp (disch:=omega) only [Fp6,xe,EVP,EV,simprocAttr]
  rfl
 ·simp (disch:=omega) only [Fp6,h,h1,e,xe,EVP,EV,simprocAttr]
theorem i4 (s:List UInt8) (hs:s.length≤9223372036854775807):S Vm 2 [.s s, .s [46]]=some [.i .i64 (Lib.indexByte s 46)]:=by
 refine Jq2 (N:=1) rfl ?_
 simp (disch:=omega) only [Il6,By9,xe,EVP,EV,simprocAttr]
theorem Em0 (s:List UInt8):S dn 2 [.s s, .s [46]]=some [.i .i64 (s.count 46:Int)]:=by
 refine Jq3 (N:=1) rfl ?_
 have h1:=Iw9 s 46
 have e:(((46:UInt8).toNat:Nat):Int)=46:=rfl
 rw [e] at h1
 simp (disch:=omega) only [Il7,h1,e,xe,EVP,EV,simprocAttr]
def Cg0 (done rest:List (List UInt8)):Out:=
 .yld 0 [.s ((done++rest).getLastD []),Bq ((done++rest).dropLast++[[]]), .i .i64 (((done++rest).length:Int) - 1)]
theorem m3 (s:List UInt8) (N:Nat) (hN:s.length<N) (hs:s.length≤1000000) (p q:PV):
  mz.ev S N [.s s, .s [46], .i .i64 0,p, .i .i64 ((s.count 46:Int)+1)]=some (Cg0 [] (cut s)):=by
 have hc0:s.count 46≤s.length:=List.count_le_length
 have key:=Ip (fn:=S) (N:=N) (η:=[.s s, .s [46], .i .i64 0,p, .i .i64 ((s.count 46:Int)+1)]) (id:=1) (init:=[(.v 0),(.rep 1 (.mn (.v 4) (.bin .add (.slen (.v 0)) (.c (.i .i64 (1))))) (.c (.s []))),(.c (.i .i64 (0)))]) (body:=qc) (α:=List (List UInt8)×List UInt8)
  (fun a=>[.s a.2,Bq (a.1++List.replicate (a.2.count 46+1) []), .i .i64 (a.1.length:Int)]) (fun a=>Cg0 a.1 (cut a.2)) (fun a=>a.1.length+a.2.count 46=s.count 46∧a.2.length≤s.length) (fun a=>a.2.length) ([],s) ?_ ⟨by simp,Ac _⟩ hN ?_
 ·simpa [mz] using key
 ·have e:((s.count 46:Int)+1).toNat=s.count 46+1:=by omega
  simp (disch:=omega) only [e,xe,EVP,EV,simprocAttr]
 ·rintro ⟨done,rest⟩ ⟨h1,h2⟩
  simp only at h1 h2 ⊢
  rcases dot_split 46 rest with h|⟨pre,post,rfl,h⟩
  ·right
   have c0:rest.count 46=0:=Ky0.2 h
   have i0:=M3 46 rest h
   have cu:cut rest=[rest]:=by simpa [cut] using Xs rest [] h
   refine ⟨?_,rfl⟩
   rw [c0]
   rw [c0] at h1
   simp (disch:=omega) only [Bd6,i4,i0,xe,EVP,EV,simprocAttr]
   simp [Cg0,cu,List.getLastD_eq_getLast?]
  ·left
   have c0:(pre++46::post).count 46=post.count 46+1:=by
    rw [List.count_append,Ky0.2 h];simp
   have i0:=Jm 46 post pre h
   have cu:cut (pre++46::post)=pre::cut post:=by simpa [cut] using Ck4 post pre [] h
   have hl:(pre++46::post).length=pre.length+post.length+1:=by simp;omega
   have sl1:List.drop (0:Int).toNat (List.take ((pre.length:Int)+0).toNat (pre++46::post))=pre:=by
    simp
   have sl2:List.drop ((pre.length:Int)+1).toNat (List.take (pre++46::post).length (pre++46::post))=post:=by
    have:((pre.length:Int)+1).toNat=pre.length+1:=by omega
    rw [this,Cf,List.drop_append]
    simp
   have sl3:(done++[]::[]::List.replicate (post.count 46) ([]:List UInt8)).length=done.length+post.count 46+2:=by simp;omega
   refine ⟨(done++[pre],post),?_,⟨by simp;omega,by simp only;omega⟩,by simp;omega,by simp [Cg0,cu]⟩
   rw [c0]
   rw [c0] at h1
   simp (disch:=omega) only [Bd6,i4,i0,sl1,sl2,xe,EVP,EV,simprocAttr]
   simp [List.replicate_succ,List.set_append]
theorem mt (s:List UInt8) (hs:s.length≤1000000):S d8 4 [.s s, .s [46], .i .i64 0, .i .i64 (-1)]=some [Bq (cut s)]:=by
 refine Jw8 (N:=s.length+1) rfl ?_
 have h1:=Cl4 s
 have h2:s.count 46≤s.length:=List.count_le_length
 obtain ⟨l,x,hx⟩:∃l x,cut s=l++[x]:=⟨(cut s).dropLast,(cut s).getLast (by intro e;simp [e] at h1),(List.dropLast_concat_getLast _).symm⟩
 have h3:l.length=s.count 46:=by rw [hx] at h1;simpa using h1
 have h4:((l.length:Int)+1 - 1)=(l.length:Int):=by omega
 have h5:((l++[([]:List UInt8)]).length:Int)=l.length+1:=by simp
 have h6:((l++[x]).length:Int)=l.length+1:=by simp
 have g1:(l++[([]:List UInt8)])[l.length]? =some []:=by simp
 have g2:(l++[x]).getLastD []=x:=by simp [List.getLastD_eq_getLast?]
 have g3:(l++[([]:List UInt8)]).set l.length x=l++[x]:=by simp
 have hk:=m3 s (s.length+1) (by omega) hs (.i .i64 (-1)) .u
 rw [hx] at hk ⊢
 simp only [Cg0,Cd,List.dropLast_concat] at hk
 simp (disch:=omega) only [Bd6,Em0,hk,h4,h6,g1,g2,g3,xe,EVP,EV,simprocAttr]
 have g4:((l.length:Int)+1).toNat=(l++[x]).length:=by simp
 rw [g4,Cf]
 rfl
theorem ig (s:List UInt8) (hs:s.length≤1000000):S At2 2 [.s s, .s [46]]=some [Bq (cut s)]:=by
 refine Kh1 (N:=1) rfl ?_
 simp (disch:=omega) only [Ky4,mt,xe,EVP,EV,simprocAttr]
theorem Zd (s t:List UInt8) (hs:s.length≤9223372036854775807):S d9 2 [.s s, .s t]=some [.b (t.isSuffixOf s)]:=by
 refine Jw9 (N:=1) rfl ?_
 by_cases h:t.length≤s.length
 ·have e:((s.length:Int) - (t.length:Int)).toNat=s.length - t.length:=by omega
  simp (disch:=omega) only [Fr0,e,xe,EVP,EV,simprocAttr]
  simp only [Cf]
  congr 4
  rw [C1,K5,decide_eq_true_eq]
  refine ⟨fun h=>h▸List.drop_suffix _ _,fun h=> ?_⟩
  obtain ⟨p,rfl⟩:=h
  simp
 ·have h2:t.isSuffixOf s=false:=by
   rw [Bool.eq_false_iff,ne_eq,K5]
   exact fun h'=>h h'.length_le
  simp (disch:=omega) only [Fr0,h2,xe,EVP,EV,simprocAttr]
theorem L3 (s t:List UInt8) (hs:s.length≤9223372036854775807):S At3 2 [.s s, .s t]=some [.b (t.isSuffixOf s)]:=by
 refine Kh2 (N:=1) rfl ?_
 simp (disch:=omega) only [Ky5,Zd,xe,EVP,EV,simprocAttr]
theorem q7 (x y:List UInt8):S dp 2 [.s x, .s y]=some [.i .i64 (Lib.compareBytes x y)]:=by
 refine Jv0 (N:=1) rfl ?_
 simp (disch:=omega) only [Im0,Ix1,xe,EVP,EV,simprocAttr]
theorem qn (x y:List UInt8):S Qy 2 [.s x, .s y]=some [.i .i64 (Lib.compareBytes x y)]:=by
 refine Jx9 (N:=1) rfl ?_
 simp (disch:=omega) only [In3,q7,xe,EVP,EV,simprocAttr]
end Go.X.G
/- Names and their labels. -/
namespace Go.X.G
open Go Go.X
def flat (l:List (List UInt8)):List UInt8:=l.flatMap fun x=>x++[46]
def jn (l:List (List UInt8)):List UInt8:=if l=[] then [46] else flat l
def Gr (first:Bool):List (List UInt8)→Bool
 |[]=>true
 |p::r=>Jl p && (!decide (p=[42])||first) && Gr false r
theorem Ij0:Oc 46=false:=by decide
theorem Lc {p:List UInt8} (h:Jl p=true):(46:UInt8)∉p:=by
 unfold Jl at h
 simp at h
 rcases h with rfl|⟨_,h⟩
 ·decide
 ·intro h2
  have:=h 46 h2
  rw [Ij0] at this
  cases this
theorem yb {p:List UInt8} (h:Jl p=true):p≠[]:=by
 rintro rfl
 simp [Jl] at h
theorem Hh {p:List UInt8}:∀{f:Bool} {l:List (List UInt8)},Gr f l=true→p∈l→Jl p=true
 |f,q::r,h,hp=>by
  simp only [Gr,Av] at h
  rcases Al.1 hp with rfl|hp
  ·exact h.1.1
  ·exact Hh h.2 hp
theorem Bq3:∀{l:List (List UInt8)},Gr false l=true→Gr true l=true
 |[],_=>rfl
 |p::r,h=>by
  simp only [Gr,Av] at h ⊢
  exact ⟨⟨h.1.1,by simp⟩,h.2⟩
theorem f4:∀{f:Bool} {a b:List (List UInt8)},Gr f (a++b)=(Gr f a && Gr (f && a.isEmpty) b)
 |f,[],b=>by simp [Gr]
 |f,p::r,b=>by
  simp only [B3,Gr,f4 (a:=r)]
  simp [Bool.and_assoc]
theorem Bq4 {f:Bool} {l:List (List UInt8)} (h:Gr f l=true) (k:Nat):Gr f (l.drop k)=true:=by
 rw [←Bl k l,f4,Av] at h
 have h2:=h.2
 cases f with
 |false=>simpa using h2
 |true=>
  cases he:(l.take k).isEmpty with
  |true=>rw [he] at h2;exact h2
  |false=>rw [he] at h2;exact Bq3 h2
theorem R8:∀(m:List UInt8) (f:Bool) (cur:List UInt8),spl f cur (m++[46])=if Gr f (pcs cur m)=true then some (pcs cur m) else none
 |[],f,cur=>by
  simp only [Cd,spl,if_true,pcs,Gr,A4,Pj]
  by_cases h:Jl cur=true<;>by_cases h2:cur=[42]<;>cases f<;>simp [h,h2]
 |c::r,f,cur=>by
  simp only [B3,spl,pcs]
  by_cases hc:c=46
  ·simp only [if_pos hc]
   rw [R8 r false []]
   simp only [Gr]
   by_cases h:Jl cur=true<;>by_cases h2:cur=[42]<;>cases f<;>by_cases h3:Gr false (pcs [] r)=true<;>simp [h,h2,h3]
  ·simp only [if_neg hc]
   exact R8 r f (cur++[c])
theorem Sd (b:List UInt8):∀(a cur:List UInt8),pcs cur (a++46::b)=pcs cur a++cut b
 |[],cur=>by simp [pcs,cut]
 |c::r,cur=>by
  simp only [B3,pcs]
  split
  ·rw [Sd b r []];rfl
  ·exact Sd b r _
theorem Rx:∀(m cur:List UInt8),flat (pcs cur m)=cur++m++[46]
 |[],cur=>by simp [pcs,flat]
 |c::r,cur=>by
  simp only [pcs]
  split
  ·rename_i h
   have:=Rx r []
   simp only [flat,Gt] at this ⊢
   rw [this,h];simp
  ·rw [Rx r (cur++[c])];simp
theorem Yd (a b:List (List UInt8)):flat (a++b)=flat a++flat b:=by simp [flat]
theorem Jb0 (cur m:List UInt8):pcs cur m≠[]:=by
 cases m with
 |nil=>simp [pcs]
 |cons c r=>
  simp only [pcs]
  split
  ·simp
  ·intro h
   have:=Rx r (cur++[c])
   rw [h] at this
   simp [flat] at this
theorem Rb:∀(l:List (List UInt8)),(∀p∈l,(46:UInt8)∉p)→cut (flat l)=l++[[]]
 |[],_=>rfl
 |p::l,h=>by
  have h1:flat (p::l)=p++46::flat l:=by simp [flat]
  rw [h1]
  show pcs [] _=_
  rw [Sd,Xs p [] (h p (by simp)),Rb l (fun q hq=>h q (by simp [hq]))]
  simp
theorem Js:∀(l:List (List UInt8)),l≠[]→∃m,flat l=m++[46]
 |[p],_=>⟨p,by simp [flat]⟩
 |p::q::r,_=>by
  obtain ⟨m,hm⟩:=Js (q::r) (by simp)
  exact ⟨p++[46]++m,by simp only [flat,Gt] at hm ⊢;rw [hm];simp⟩
theorem y0 {l:List (List UInt8)} (hl:l≠[]) (h:∀p∈l,(46:UInt8)∉p) {m:List UInt8} (hm:flat l=m++[46]):cut m=l:=by
 have h1:=Rb l h
 rw [hm] at h1
 have h2:cut (m++[46])=cut m++[[]]:=by
  show pcs [] (m++46::[])=_
  rw [Sd];rfl
 rw [h2] at h1
 exact O9 h1
theorem Jx {l:List (List UInt8)} (h:Gr true l=true) (hl:l≠[]):2≤(flat l).length:=by
 cases l with
 |nil=>exact absurd rfl hl
 |cons p r=>
  have h1:=yb (Hh h (Fj ..))
  have:0<p.length:=Bw.2 h1
  simp [flat];omega
theorem Hs2 {l:List (List UInt8)} (h:Gr true l=true) (hl:l≠[]) (hlen:(flat l).length≤254):nm (flat l)=some l:=by
 obtain ⟨m,hm⟩:=Js l hl
 have h1:=y0 hl (fun p hp=>Lc (Hh h hp)) hm
 have h2:=Jx h hl
 unfold nm
 rw [if_neg (by intro e;rw [e] at h2;simp at h2),if_pos ⟨h2,hlen,by rw [hm];simp⟩,hm,R8]
 have:pcs [] m=l:=h1
 rw [this,if_pos h]
theorem Hs1 {n:List UInt8} {l:List (List UInt8)} (h:nm n=some l):(n=[46]∧l=[])∨(l≠[]∧Gr true l=true∧n=flat l∧n.length≤254):=by
 unfold nm at h
 split at h
 ·rename_i e;injection h with h;exact .inl ⟨e,h.symm⟩
 ·split at h
  ·rename_i h1
   right
   obtain ⟨h2,h3,h4⟩:=h1
   obtain ⟨m,hm⟩:∃m,n=m++[46]:=by
    refine ⟨n.dropLast,?_⟩
    have:n≠[]:=by intro e;simp [e] at h2
    have h5:=List.dropLast_concat_getLast this
    rw [←h5]
    congr 1
    ·simp
    ·have h6:n[n.length - 1]? =some (n.getLast this):=by rw [I7];exact Ax _
     rw [h6] at h4
     injection h4 with h4
     simp [h4]
   rw [hm,R8] at h
   split at h
   ·rename_i h5
    injection h with h
    subst h
    refine ⟨Jb0 _ _,h5,?_,by omega⟩
    rw [Rx,hm];simp
   ·cases h
  ·cases h
theorem Hl2 {n:List UInt8}:vld n=true↔nm n=some (lbl n):=by
 unfold vld lbl
 cases nm n<;>simp
theorem vld_cases {n:List UInt8} (h:vld n=true):(n=[46]∧lbl n=[])∨(lbl n≠[]∧Gr true (lbl n)=true∧n=flat (lbl n)∧n.length≤254):=Hs1 (Hl2.1 h)
theorem rt {n:List UInt8} (h:vld n=true):Gr true (lbl n)=true:=by
 rcases vld_cases h with ⟨_,h⟩|⟨_,h,_⟩
 ·rw [h];rfl
 ·exact h
theorem Rs {n:List UInt8} (h:vld n=true):n=jn (lbl n):=by
 unfold jn
 rcases vld_cases h with ⟨h1,h2⟩|⟨h1,_,h2,_⟩
 ·rw [h2,if_pos rfl];exact h1
 ·rw [if_neg h1];exact h2
theorem Pq {n:List UInt8} (h:vld n=true):n.length≤254:=by
 rcases vld_cases h with ⟨h1,_⟩|⟨_,_,_,h⟩
 ·simp [h1]
 ·exact h
theorem Rv:lbl [46]=[]:=rfl
theorem f9 {l:List (List UInt8)} (h:Gr true l=true) (hl:l≠[]):flat l≠[46]:=by
 intro e
 have:=Jx h hl
 rw [e] at this;simp at this
theorem Ij1 {n:List UInt8} (h:vld n=true):lbl n=[]↔n=[46]:=by
 rcases vld_cases h with ⟨h1,h2⟩|⟨h1,h2,h3,_⟩
 ·simp [h1,Rv]
 ·constructor
  ·intro e;exact absurd e h1
  ·intro e;rw [h3] at e;exact absurd e (f9 h2 h1)
theorem Ip9 {l:List (List UInt8)} (h:Gr true l=true) (hlen:(flat l).length≤254):vld (jn l)=true∧lbl (jn l)=l:=by
 unfold jn
 by_cases hl:l=[]
 ·subst hl;exact ⟨rfl,rfl⟩
 ·rw [if_neg hl]
  have:=Hs2 h hl hlen
  exact ⟨by simp [vld,this],by simp [lbl,this]⟩
theorem S8 {a b:List UInt8} (ha:vld a=true) (hb:vld b=true) (h:lbl a=lbl b):a=b:=by
 rw [Rs ha,Rs hb,h]
theorem Yb (l:List (List UInt8)) (k:Nat):(flat (l.drop k)).length≤(flat l).length:=by
 have:flat l=flat (l.take k)++flat (l.drop k):=by rw [←Yd,Bl]
 rw [this,Az];omega
theorem Q6 {n:List UInt8} (h:vld n=true) (k:Nat):vld (jn ((lbl n).drop k))=true∧lbl (jn ((lbl n).drop k))=(lbl n).drop k:=by
 refine Ip9 (Bq4 (rt h) k) ?_
 rcases vld_cases h with ⟨_,h1⟩|⟨_,_,h1,h2⟩
 ·rw [h1];simp [flat]
 ·have:=Yb (lbl n) k
  rw [←h1] at this;omega
end Go.X.G
/- Names: what the program's functions give. -/
namespace Go.X.G
open Go Go.X
def ord (s:List UInt8):Bool:=decide (1≤s.length) && decide (s.length≤63) && s.all Oc
theorem Cf3 (s:List UInt8):Jl s=(decide (s=[42])||ord s):=rfl
theorem Fb5:ord [42]=false:=by decide
theorem lj (s:List UInt8) (N:Nat) (hN:s.length<N) (hs:s.length≤9223372036854775807):
  Gk1.ev S N [.s s]=some (if s.all Oc=true then .yld 0 [] else .ret [.b false]):=by
 refine Dv s (fun i=>[.i .i64 (i:Int)]) (fun i r=>if r.all Oc=true then .yld 0 [] else .ret [.b false]) rfl hN (fun i c r hd hi hc=> ?_) ?_
 ·have key:Ef1.ev S N ([.s s]++[.i .i64 (i:Int)])=some (if Oc c=true then .yld 1 [.i .i64 ((i:Int)+1)] else .ret [.b false]):=by
   simp (disch:=omega) only [Bc1,hc,xe,EVP,EV,simprocAttr]
   unfold Oc
   grind
  rw [key]
  rcases Ak (Oc c) with h|h<;>simp [h,Out.goes]
 ·simp (disch:=omega) [Bc1,xe,EVP,EV,simprocAttr,Out.goes]
theorem Kj (s:List UInt8) (hs:s.length≤9223372036854775807):S Cq3 1 [.s s]=some [.b (ord s)]:=by
 refine Kh0 (N:=s.length+1) rfl ?_
 unfold ord
 by_cases h1:s=[]
 ·subst h1
  simp (disch:=omega) [Bc1,xe,EVP,EV,simprocAttr]
 ·have h2:1≤s.length:=Bw.2 h1
  by_cases h3:s.length≤63
  ·simp (disch:=omega) only [Bc1,lj,h1,xe,EVP,EV,simprocAttr]
   cases s.all Oc<;>simp [h2,h3]
  ·simp (disch:=omega) only [Bc1,h1,xe,EVP,EV,simprocAttr]
   simp [h3]
def okP (i:Nat) (p:List UInt8):Bool:=ord p||(decide (i=0) && decide (p=[42]))
def Fc5:Nat→List (List UInt8)→Bool
 |_,[]=>true
 |i,p::r=>okP i p && Fc5 (i+1) r
theorem c5:∀(l:List (List UInt8)) (i:Nat),Fc5 i l=Gr (decide (i=0)) l
 |[],_=>rfl
 |p::r,i=>by
  have h1:=c5 r (i+1)
  simp only [Fc5,Gr,h1,okP,Cf3]
  by_cases h2:p=[42]
  ·subst h2
   by_cases h3:i=0<;>simp [Fb5,h3]
  ·simp [h2]
theorem Eh9 (p q:PV) (l:List (List UInt8)) (hl:l.length≤1000000) (hw:∀x∈l,x.length≤9223372036854775807) (N:Nat) (hN:l.length<N):
  Gq2.ev S N [p,q,Bq l]=some (if Fc5 0 l=true then .yld 0 [] else .ret [.b false]):=by
 refine Dv l (fun i=>[.i .i64 (i:Int)]) (fun i r=>if Fc5 i r=true then .yld 0 [] else .ret [.b false]) rfl hN (fun i c r hd hi hc=> ?_) ?_
 ·have hcw:=hw c (Ar hc)
  have key:Ef7.ev S N ([p,q,Bq l]++[.i .i64 (i:Int)])=some (if okP i c=true then .yld 1 [.i .i64 ((i:Int)+1)] else .ret [.b false]):=by
   rcases Ak (ord c) with h1|h1
   ·simp (disch:=omega) only [W8,Kj,hc,h1,xe,EVP,EV,simprocAttr]
    simp [okP,h1]
   ·by_cases h2:i=0
    ·subst h2
     by_cases h3:c=[42]
     ·subst h3
      simp (disch:=omega) only [W8,Kj,hc,h1,xe,EVP,EV,simprocAttr]
      simp [okP]
     ·simp (disch:=omega) only [W8,Kj,hc,h1,h3,xe,EVP,EV,simprocAttr]
      simp [okP,h1,h3]
    ·simp (disch:=omega) only [W8,Kj,hc,h1,xe,EVP,EV,simprocAttr]
     simp [okP,h1,h2]
  rw [key]
  rcases Ak (okP i c) with h|h<;>simp [h,Fc5,Out.goes]
 ·simp (disch:=omega) only [W8,xe,EVP,EV,simprocAttr]
  simp [Out.goes,Fc5]
theorem Xt:∀(m cur:List UInt8) (x:List UInt8),x∈pcs cur m→x.length≤cur.length+m.length
 |[],cur,x,h=>by simp [pcs] at h;subst h;simp
 |c::r,cur,x,h=>by
  simp only [pcs] at h
  split at h
  ·rcases Al.1 h with rfl|h
   ·omega
   ·have:=Xt r [] x h;simp at this ⊢;omega
  ·have:=Xt r _ x h;simp at this ⊢;omega
theorem Fl7 (m x:List UInt8) (h:x∈cut m):x.length≤m.length:=by simpa using Xt m [] x h
theorem Kk6 (m:List UInt8):(cut m).length≤m.length+1:=by
 have:=Cl4 m
 have:m.count 46≤m.length:=List.count_le_length
 omega
theorem Bg1 (n:List UInt8):([46]:List UInt8).isSuffixOf n=true↔∃m,n=m++[46]:=by
 rw [K5]
 exact ⟨fun ⟨m,h⟩=>⟨m,h.symm⟩,fun ⟨m,h⟩=>⟨m,h.symm⟩⟩
theorem Ep3 (m:List UInt8) (hm:m≠[]) (hl:m.length≤253):vld (m++[46])=Fc5 0 (cut m):=by
 have h1:m++[46]≠[46]:=fun e=>hm (O9 (bs:=[46]) (by simpa using e))
 have h2:0<m.length:=Bw.2 hm
 unfold vld nm
 rw [if_neg h1,if_pos ⟨by simp;omega,by simp;omega,by simp⟩,R8,c5]
 have e:pcs [] m=cut m:=rfl
 have e2:Gr (decide ((0:Nat)=0)) (cut m)=Gr true (cut m):=rfl
 rw [e,e2]
 cases Gr true (cut m)<;>rfl
theorem Ff1 (m:List UInt8) (h:vld (m++[46])=true) (hm:m≠[]):lbl (m++[46])=cut m:=by
 rcases vld_cases h with ⟨h1,_⟩|⟨h1,h2,h3,_⟩
 ·exact absurd (O9 (bs:=[46]) (by simpa using h1)) hm
 ·exact (y0 h1 (fun p hp=>Lc (Hh h2 hp)) h3.symm).symm
theorem B4 (n:List UInt8) (hn:n.length≤9223372036854775807):S Ow 1 [.s n]=some [.b (vld n)]:=by
 refine Kn9 (N:=300) rfl ?_
 by_cases h0:n=[46]
 ·subst h0
  simp (disch:=omega) only [W8,xe,EVP,EV,simprocAttr]
  rfl
 ·by_cases h1:255≤n.length
  ·have hv:vld n=false:=by
    rw [Bool.eq_false_iff];intro h;have:=Pq h;omega
   simp (disch:=omega) only [W8,h0,hv,xe,EVP,EV,simprocAttr]
  ·rcases Ak (([46]:List UInt8).isSuffixOf n) with h2|h2
   ·obtain ⟨m,rfl⟩:=(Bg1 n).1 h2
    have hm:m≠[]:=fun e=>h0 (by simp [e])
    have hl:(m++[46]).length=m.length+1:=by simp
    have hml:m.length≤1000000:=by omega
    have e:List.drop 0 (List.take (((m++[46]).length:Int) - 1).toNat (m++[46]))=m:=by
     have:(((m++[46]).length:Int) - 1).toNat=m.length:=by omega
     rw [this];simp
    have hc:=Kk6 m
    have hv:=Ep3 m hm (by omega)
    have hk:=Eh9 (.s (m++[46])) (.b true) (cut m) (by omega) (fun x hx=>by have:=Fl7 m x hx;omega) 300 (by omega)
    simp (disch:=omega) only [W8,L3,ig,e,hk,h0,h2,xe,EVP,EV,simprocAttr]
    rw [hv]
    cases Fc5 0 (cut m)<;>simp
   ·have hv:vld n=false:=by
     rw [Bool.eq_false_iff];intro h
     rcases vld_cases h with ⟨h3,_⟩|⟨h3,_,h5,_⟩
     ·exact h0 h3
     ·obtain ⟨m,hm⟩:=Js _ h3
      have:=(Bg1 n).2 ⟨m,h5.trans hm⟩
      rw [h2] at this;cases this
    simp (disch:=omega) only [W8,L3,h0,h2,hv,xe,EVP,EV,simprocAttr]
theorem P7 (n:List UInt8) (hn:n.length≤9223372036854775807):S S1 1 [.s n]=some [Bq (lbl n)]:=by
 refine Jx8 (N:=1) rfl ?_
 by_cases h0:n=[46]
 ·subst h0
  simp (disch:=omega) only [Bd8,Rv,xe,EVP,EV,simprocAttr]
 ·rcases Ak (vld n) with h1|h1
  ·obtain ⟨m,hm,rfl⟩:∃m,m≠[]∧n=m++[46]:=by
    rcases vld_cases h1 with ⟨h3,_⟩|⟨h3,_,h5,_⟩
    ·exact absurd h3 h0
    ·obtain ⟨m,hm⟩:=Js _ h3
     exact ⟨m,fun e=>h0 (by rw [h5,hm,e];rfl),h5.trans hm⟩
   have hl:(m++[46]).length=m.length+1:=by simp
   have e:List.drop 0 (List.take (((m++[46]).length:Int) - 1).toNat (m++[46]))=m:=by
    have:(((m++[46]).length:Int) - 1).toNat=m.length:=by omega
    rw [this];simp
   have hl2:=Pq h1
   have e2:=Ff1 m h1 hm
   simp (disch:=omega) only [Bd8,B4,ig,e,e2,h0,h1,xe,EVP,EV,simprocAttr]
  ·have e:lbl n=[]:=by
    unfold lbl;unfold vld at h1
    cases h:nm n with
    |none=>rfl
    |some l=>rw [h] at h1;cases h1
   simp (disch:=omega) only [Bd8,B4,h0,h1,e,xe,EVP,EV,simprocAttr]
theorem Ot (p:List UInt8) (l:List (List UInt8)):flat (p::l)=p++46::flat l:=by simp [flat]
def X2 (n:List UInt8):List UInt8:=if vld n=true∧n≠[46] then jn ((lbl n).drop 1) else []
def yd (n:List UInt8):Bool:=vld n && !decide (n=[46])
theorem Wn (n:List UInt8) (hn:n.length≤9223372036854775807):S Bj4 1 [.s n]=some [.s (X2 n), .b (yd n)]:=by
 refine Kp3 (N:=1) rfl ?_
 unfold X2 yd
 by_cases h0:n=[46]
 ·subst h0
  simp (disch:=omega) only [En8,xe,EVP,EV,simprocAttr]
  simp
 ·rcases Ak (vld n) with h1|h1
  ·rcases vld_cases h1 with ⟨h3,_⟩|⟨h3,h4,h5,h6⟩
   ·exact absurd h3 h0
   ·cases hl:lbl n with
    |nil=>exact absurd hl h3
    |cons p r=>
     rw [hl] at h4 h5
     have hp:=Lc (Hh h4 (Fj ..))
     have hi:=i5 n 46
     have hc:(((46:UInt8).toNat:Nat):Int)=46:=rfl
     have hx:Lib.indexByte n 46=(p.length:Int):=by rw [h5,Ot];exact Jm 46 _ p hp
     rw [hc,hx] at hi
     have hlen:n.length=p.length+1+(flat r).length:=by rw [h5,Ot];simp;omega
     have e:List.drop ((p.length:Int)+1).toNat (List.take n.length n)=flat r:=by
      have:((p.length:Int)+1).toNat=p.length+1:=by omega
      rw [this,Cf,h5,Ot]
      simp
     by_cases h7:r=[]
     ·subst h7
      have e2:flat []=[]:=rfl
      simp (disch:=omega) only [En8,B4,hi,e,e2,h0,h1,xe,EVP,EV,simprocAttr]
      simp [jn]
     ·have e2:¬flat r=[]:=by
       obtain ⟨m,hm⟩:=Js r h7
       rw [hm];simp
      simp (disch:=omega) only [En8,B4,hi,e,e2,h0,h1,xe,EVP,EV,simprocAttr]
      simp [jn,h7]
  ·simp (disch:=omega) only [En8,B4,h0,h1,xe,EVP,EV,simprocAttr]
   simp
def Ch2 (n top:List UInt8):Bool:=(decide (top=[46])||decide (n=top))||(46::top).isSuffixOf n
theorem Iv7 (n top:List UInt8) (hn:n.length≤9223372036854775807) (ht:top.length≤1000000):S Cq7 2 [.s n, .s top]=some [.b (Ch2 n top)]:=by
 refine Kl0 (N:=1) rfl ?_
 unfold Ch2
 have h0:([46]:List UInt8).length=1:=rfl
 by_cases h1:top=[46]<;>by_cases h2:n=top<;>simp (disch:=omega) only [Kz0,L3,h1,h2,xe,EVP,EV,simprocAttr]
 all_goals simp
theorem m6 {a b:List (List UInt8)} (ha:Gr true a=true) (hb:Gr true b=true) (h:(46::flat b)<:+flat a):b<:+a:=by
 obtain ⟨p,hp⟩:=h
 have h1:=Rb a (fun x hx=>Lc (Hh ha hx))
 have h2:=Rb b (fun x hx=>Lc (Hh hb hx))
 rw [←hp] at h1
 have h3:cut (p++46::flat b)=cut p++cut (flat b):=Sd (flat b) p []
 rw [h3,h2,←Ap] at h1
 exact ⟨cut p,O9 h1⟩
theorem Fh6 {n top:List UInt8} (hn:vld n=true) (ht:vld top=true):Ch2 n top=true↔lbl top<:+lbl n:=by
 unfold Ch2
 simp only [Am,decide_eq_true_eq,K5]
 constructor
 ·rintro ((rfl|rfl)|h)
  ·rw [Rv];exact List.nil_suffix
  ·exact List.suffix_refl _
  ·rcases vld_cases ht with ⟨h1,h2⟩|⟨h1,h2,h3,_⟩
   ·rw [h2];exact List.nil_suffix
   ·rcases vld_cases hn with ⟨h5,_⟩|⟨h5,h6,h7,_⟩
    ·rw [h5] at h
     have h9:=h.length_le
     have h8:=Jx h2 h1
     rw [←h3] at h8
     simp only [A0,Bc] at h9;omega
    ·rw [h3,h7] at h
     exact m6 h6 h2 h
 ·intro h
  obtain ⟨p,hp⟩:=h
  rcases vld_cases ht with ⟨h1,h2⟩|⟨h1,h2,h3,_⟩
  ·exact .inl (.inl h1)
  ·by_cases hp0:p=[]
   ·left;right
    subst hp0
    exact S8 hn ht hp.symm
   ·right
    rcases vld_cases hn with ⟨_,h5⟩|⟨h5,h6,h7,_⟩
    ·rw [h5] at hp
     exact absurd (List.append_eq_nil_iff.1 hp).1 hp0
    ·obtain ⟨m,hm⟩:=Js p hp0
     rw [h7,←hp,Yd,hm]
     exact ⟨m,by rw [Ap,←h3];simp⟩
theorem T2 {α:Type} [DecidableEq α]:∀(a b:List α),Rc a b=b.length↔b<+:a
 |[],[]=>by simp [Rc]
 |[],y::ys=>by simp [Rc]
 |x::xs,[]=>by simp [Rc]
 |x::xs,y::ys=>by
  have:=T2 xs ys
  simp only [Rc]
  split
  ·rename_i h;subst h
   simp [this,L5]
  ·rename_i h
   simp [L5,Ne.symm h]
theorem bh (a b:List (List UInt8)):Jf a b=b.length↔b<:+a:=by
 unfold Jf
 have:=T2 a.reverse b.reverse
 rw [List.length_reverse] at this
 rw [this,List.reverse_prefix]
theorem C5 {n top:List UInt8}:under n top=true↔vld n=true∧vld top=true∧lbl top<:+lbl n:=by
 unfold under
 simp [bh,and_assoc]
theorem Al4 {n top:List UInt8} (hn:vld n=true) (ht:vld top=true):Ch2 n top=under n top:=by
 rw [C1,Fh6 hn ht,C5]
 simp [hn,ht]
theorem G8 (n top:List UInt8) (hn:n.length≤9223372036854775807) (ht:top.length≤9223372036854775807):S Pp 2 [.s n, .s top]=some [.b (under n top)]:=by
 refine Kp4 (N:=1) rfl ?_
 rcases Ak (vld n) with h1|h1
 ·rcases Ak (vld top) with h2|h2
  ·have h3:=Pq h2
   simp (disch:=omega) only [Hh9,B4,Iv7,h1,h2,xe,EVP,EV,simprocAttr]
   rw [Al4 h1 h2]
  ·have h3:under n top=false:=by simp [under,h2]
   simp (disch:=omega) only [Hh9,B4,h1,h2,h3,xe,EVP,EV,simprocAttr]
 ·have h3:under n top=false:=by simp [under,h1]
  simp (disch:=omega) only [Hh9,B4,h1,h3,xe,EVP,EV,simprocAttr]
end Go.X.G
/- Names: order, common ancestors, wildcards. -/
namespace Go.X.G
open Go Go.X
theorem Qh:∀(a:List UInt8),Op.bytesLess a a=false
 |[]=>rfl
 |a::x=>by simp [Op.bytesLess,Qh x]
theorem Lm:∀(a b:List UInt8),Lib.compareBytes a b=cmpS a b
 |[],[]=>rfl
 |[],_::_=>rfl
 |_::_,[]=>rfl
 |a::x,b::y=>by
  have ih:=Lm x y
  unfold cmpS at ih ⊢
  simp only [Lib.compareBytes,Op.bytesLess,ih]
  by_cases h1:a<b
  ·simp [h1]
  ·by_cases h2:b<a
   ·have h3:a≠b:=fun e=>by subst e;exact h1 h2
    simp [h1,h2,h3]
   ·have h3:a=b:=UInt8.le_antisymm (UInt8.not_lt.1 h2) (UInt8.not_lt.1 h1)
    subst h3
    simp [h1]
theorem It {a b:List UInt8}:cmpS a b=0↔a=b:=by
 unfold cmpS
 by_cases h:a=b
 ·subst h;simp [Qh]
 ·cases h2:Op.bytesLess a b<;>simp [h]
theorem Kg (x y:List UInt8):S Qy 2 [.s x, .s y]=some [.i .i64 (cmpS x y)]:=by
 rw [qn,Lm]
def Uy:List (List UInt8)→List (List UInt8)→Option Int
 |x::xs,y::ys=>if x=y then Uy xs ys else some (cmpS x y)
 |_,_=>none
theorem Cm0:∀(a b:List (List UInt8)),Uy a b=if Rc a b<a.length∧Rc a b<b.length then some (cmpS (a.getD (Rc a b) []) (b.getD (Rc a b) [])) else none
 |[],b=>by simp [Uy,Rc]
 |x::xs,[]=>by simp [Uy,Rc]
 |x::xs,y::ys=>by
  have ih:=Cm0 xs ys
  simp only [Uy,Rc]
  by_cases h:x=y
  ·simp only [if_pos h,ih]
   simp
  ·simp [h]
def Bx4 (a b:List (List UInt8)):Int:=match Uy a.reverse b.reverse with
 |some c=>c
 |none=>if a.length<b.length then -1 else if b.length<a.length then 1 else 0
theorem yg (a:List (List UInt8)) (k:Nat) (h:k<a.length):a.reverse.getD k []=a.getD (a.length - 1 - k) []:=by
 simp [Bd,List.getElem?_reverse h]
theorem Y0 {a b:List UInt8} (ha:vld a=true) (hb:vld b=true):I0 a b=Bx4 (lbl a) (lbl b):=by
 unfold I0 Bx4
 rw [Cm0]
 have e:Rc (lbl a).reverse (lbl b).reverse=Jf (lbl a) (lbl b):=rfl
 rw [e,ha,hb]
 simp only [List.length_reverse,Bool.and_self,if_true]
 by_cases h:Jf (lbl a) (lbl b)<(lbl a).length∧Jf (lbl a) (lbl b)<(lbl b).length
 ·rw [if_pos h,if_pos h,yg _ _ h.1,yg _ _ h.2]
 ·rw [if_neg h,if_neg h]
theorem qt (a b:List (List UInt8)) (p1 p2 p3 p4:PV) (ha:a.length≤1000) (hb:b.length≤1000) (N:Nat) (hN:1001<N):
  Cb5.ev S N [p1,p2,p3,p4,Bq a,Bq b]=some (match Uy a.reverse b.reverse with|some c=> .ret [.i .i64 c]|none=> .yld 0 []):=by
 have key:=Ip (fn:=S) (N:=N) (η:=[p1,p2,p3,p4,Bq a,Bq b]) (id:=1) (init:=[(.c (.i .i64 (1)))]) (body:=Ef4) (α:=Nat) (fun k=>[.i .i64 ((k:Int)+1)])
  (fun k=>match Uy (a.reverse.drop k) (b.reverse.drop k) with|some c=> .ret [.i .i64 c]|none=> .yld 0 []) (fun k=>k≤a.length∧k≤b.length) (fun k=>a.length - k) 0 rfl ⟨Cm _,Cm _⟩ (by omega) ?_
 ·simpa [Cb5] using key
 ·rintro k ⟨h1,h2⟩
  by_cases h3:k<a.length
  ·by_cases h4:k<b.length
   ·have e1:((a.length:Int) - ((k:Int)+1)).toNat=a.length - 1 - k:=by omega
    have e2:((b.length:Int) - ((k:Int)+1)).toNat=b.length - 1 - k:=by omega
    have g1:a[a.length - 1 - k]? =some (a[a.length - 1 - k]'(by omega)):=Ax (by omega)
    have g2:b[b.length - 1 - k]? =some (b[b.length - 1 - k]'(by omega)):=Ax (by omega)
    have d1:a.reverse.drop k=(a[a.length - 1 - k]'(by omega))::a.reverse.drop (k+1):=by
     rw [B0 (by simpa using h3)];simp
    have d2:b.reverse.drop k=(b[b.length - 1 - k]'(by omega))::b.reverse.drop (k+1):=by
     rw [B0 (by simpa using h4)];simp
    rw [d1,d2]
    generalize (a[a.length - 1 - k]'(by omega))=x at g1
    generalize (b[b.length - 1 - k]'(by omega))=y at g2
    simp only [Uy]
    by_cases h:x=y
    ·left
     have h5:cmpS x y=0:=It.2 h
     refine ⟨k+1,?_,⟨by omega,by omega⟩,by omega,by rw [if_pos h]⟩
     simp (disch:=omega) only [jh,Kg,e1,e2,g1,g2,h5,xe,EVP,EV,simprocAttr]
    ·right
     have h5:¬cmpS x y=0:=fun e=>h (It.1 e)
     rw [if_neg h]
     simp (disch:=omega) only [jh,Kg,e1,e2,g1,g2,h5,xe,EVP,EV,simprocAttr]
     simp [Out.goes]
   ·right
    have d2:b.reverse.drop k=[]:=Fb (by simp;omega)
    have z:Uy (a.reverse.drop k) []=none:=by cases a.reverse.drop k<;>rfl
    rw [d2,z]
    simp (disch:=omega) [jh,xe,EVP,EV,simprocAttr,Out.goes]
  ·right
   have d1:a.reverse.drop k=[]:=Fb (by simp;omega)
   have z:Uy [] (b.reverse.drop k)=none:=rfl
   rw [d1,z]
   simp (disch:=omega) [jh,xe,EVP,EV,simprocAttr,Out.goes]
theorem Uq (a b:List UInt8) (hn:a.length≤9223372036854775807) (ht:b.length≤9223372036854775807):S Pn 2 [.s a, .s b]=some [.i .i64 (I0 a b)]:=by
 refine Kl5 (N:=1002) rfl ?_
 have h1:=G3 a
 have h2:=G3 b
 rcases Ak (vld a) with h3|h3<;>rcases Ak (vld b) with h4|h4
 ·rw [Y0 h3 h4]
  unfold Bx4
  have hk:=qt (lbl a) (lbl b) (.s a) (.s b) (.b true) (.b true) (by omega) (by omega) 1002 (by omega)
  cases h5:Uy (lbl a).reverse (lbl b).reverse with
  |some c=>
   rw [h5] at hk
   simp (disch:=omega) only [jh,B4,P7,hk,h3,h4,xe,EVP,EV,simprocAttr]
  |none=>
   rw [h5] at hk
   simp (disch:=omega) only [jh,B4,P7,hk,h3,h4,xe,EVP,EV,simprocAttr]
   grind
 all_goals unfold I0
 all_goals simp (disch:=omega) only [jh,B4,Kg,h3,h4,xe,EVP,EV,simprocAttr]
 all_goals simp
theorem Gv5 {n:List UInt8} (h:vld n=true) (k:Nat):(jn ((lbl n).drop k)).length≤254:=Pq (Q6 h k).1
theorem Al7 {n:List UInt8} (h:vld n=true):(n[0]? =some 42↔(lbl n)[0]? =some [42]):=by
 rcases vld_cases h with ⟨h1,h2⟩|⟨h1,h2,h3,_⟩
 ·subst h1;simp [Rv]
 ·cases hl:lbl n with
  |nil=>exact absurd hl h1
  |cons p r=>
   rw [hl] at h2 h3
   have hp:=Hh h2 (Fj ..)
   have hne:=yb hp
   cases p with
   |nil=>exact absurd rfl hne
   |cons c q=>
    rw [h3,Ot]
    simp only [B3,Ck,Option.some.injEq]
    constructor
    ·rintro rfl
     unfold Jl at hp
     simp at hp
     rcases hp with h|h
     ·rw [h]
     ·exfalso
      have:Oc 42=false:=by decide
      rw [this] at h;simp at h
    ·intro h;injection h
end Go.X.G
/- The canonical order of names is a total order. -/
namespace Go.X.G
open Go Go.X
structure TO {α:Type} (lt:α→α→Prop):Prop where
 irr:∀a,¬lt a a
 tr:∀a b c,lt a b→lt b c→lt a c
 tri:∀a b,lt a b∨a=b∨lt b a
theorem TO.asym {α:Type} {lt:α→α→Prop} (h:TO lt) {a b:α} (h1:lt a b):¬lt b a:=fun h2=>h.irr a (h.tr _ _ _ h1 h2)
theorem TO.ntr {α:Type} {lt:α→α→Prop} (h:TO lt) {a b c:α} (h1:¬lt a b) (h2:¬lt b c):¬lt a c:=by
 intro h3
 rcases h.tri b a with h4|h4|h4
 ·exact h2 (h.tr _ _ _ h4 h3)
 ·subst h4;exact h2 h3
 ·exact h1 h4
def lex {α:Type} (lt:α→α→Prop):List α→List α→Prop
 |[],[]=>False
 |[],_::_=>True
 |_::_,[]=>False
 |a::x,b::y=>lt a b∨(a=b∧lex lt x y)
theorem Cz0 {α:Type} {lt:α→α→Prop} (h:TO lt):∀x:List α,¬lex lt x x
 |[]=>by simp [lex]
 |a::x=>by
  simp only [lex,true_and,not_or]
  exact ⟨h.irr a,Cz0 h x⟩
theorem Gj2 {α:Type} {lt:α→α→Prop} (h:TO lt):∀x y z:List α,lex lt x y→lex lt y z→lex lt x z
 |[],[],_,h1,_=>by simp [lex] at h1
 |[],_::_,[],_,h2=>by simp [lex] at h2
 |[],_::_,_::_,_,_=>by simp [lex]
 |_::_,[],_,h1,_=>by simp [lex] at h1
 |_::_,_::_,[],_,h2=>by simp [lex] at h2
 |a::x,b::y,c::z,h1,h2=>by
  simp only [lex] at h1 h2 ⊢
  rcases h1 with h1|⟨rfl,h1⟩
  ·rcases h2 with h2|⟨rfl,h2⟩
   ·exact .inl (h.tr _ _ _ h1 h2)
   ·exact .inl h1
  ·rcases h2 with h2|⟨rfl,h2⟩
   ·exact .inl h2
   ·exact .inr ⟨rfl,Gj2 h x y z h1 h2⟩
theorem lex_tri {α:Type} {lt:α→α→Prop} (h:TO lt):∀x y:List α,lex lt x y∨x=y∨lex lt y x
 |[],[]=> .inr (.inl rfl)
 |[],_::_=> .inl (by simp [lex])
 |_::_,[]=> .inr (.inr (by simp [lex]))
 |a::x,b::y=>by
  simp only [lex]
  rcases h.tri a b with h1|rfl|h1
  ·exact .inl (.inl h1)
  ·rcases lex_tri h x y with h2|rfl|h2
   ·exact .inl (.inr ⟨rfl,h2⟩)
   ·exact .inr (.inl rfl)
   ·exact .inr (.inr (.inr ⟨rfl,h2⟩))
  ·exact .inr (.inr (.inl h1))
theorem TO.lex {α:Type} {lt:α→α→Prop} (h:TO lt):TO (G.lex lt):=⟨Cz0 h,Gj2 h,lex_tri h⟩
theorem Kd6:TO (fun a b:UInt8=>a<b):=⟨fun a=>UInt8.lt_irrefl a,fun a b c h1 h2=>UInt8.lt_trans h1 h2,fun a b=>by
 rcases UInt8.lt_or_le a b with h|h
 ·exact .inl h
 ·rcases UInt8.lt_or_le b a with h2|h2
  ·exact .inr (.inr h2)
  ·exact .inr (.inl (UInt8.le_antisymm h2 h))⟩
abbrev ltB:List UInt8→List UInt8→Prop:=lex fun a b:UInt8=>a<b
theorem Em6:TO ltB:=Kd6.lex
theorem T5:∀a b:List UInt8,Op.bytesLess a b=true↔ltB a b
 |[],[]=>by simp [Op.bytesLess,lex]
 |[],_::_=>by simp [Op.bytesLess,lex]
 |_::_,[]=>by simp [Op.bytesLess,lex]
 |a::x,b::y=>by
  have ih:=T5 x y
  simp only [Op.bytesLess,Am,decide_eq_true_eq,Av,beq_iff_eq,lex]
  rw [ih]
theorem Rf (a b:List UInt8):cmpS a b<0↔ltB a b:=by
 rw [←T5]
 unfold cmpS
 cases h:Op.bytesLess a b
 ·simp only [Ab,if_false,iff_false]
  split<;>omega
 ·simp
abbrev ltL:List (List UInt8)→List (List UInt8)→Prop:=lex ltB
theorem to_L:TO ltL:=Em6.lex
def Bx5 (a b:List (List UInt8)):Int:=match Uy a b with
 |some c=>c
 |none=>if a.length<b.length then -1 else if b.length<a.length then 1 else 0
theorem y7:∀a b:List (List UInt8),Bx5 a b<0↔ltL a b
 |[],[]=>by simp [Bx5,Uy,lex]
 |[],_::_=>by simp [Bx5,Uy,lex]
 |_::_,[]=>by simp [Bx5,Uy,lex]
 |x::xs,y::ys=>by
  have ih:=y7 xs ys
  simp only [Bx5,Uy,lex] at ih ⊢
  by_cases h:x=y
  ·subst h
   rw [if_pos rfl]
   simp only [A0,Nat.add_lt_add_iff_right,true_and]
   rw [ih]
   constructor
   ·exact fun h=> .inr h
   ·rintro (h|h)
    ·exact absurd h (Em6.irr x)
    ·exact h
  ·rw [if_neg h]
   simp only
   rw [Rf]
   simp [h]
theorem ow (a b:List (List UInt8)):Bx4 a b=Bx5 a.reverse b.reverse:=by
 unfold Bx4 Bx5
 cases Uy a.reverse b.reverse<;>simp
theorem Cl9 (a b:List (List UInt8)):Bx4 a b<0↔ltL a.reverse b.reverse:=by
 rw [←y7,ow]
def ltN (a b:List UInt8):Prop:=if vld a=true then (if vld b=true then ltL (lbl a).reverse (lbl b).reverse else True) else (if vld b=true then False else ltB a b)
theorem E1 (a b:List UInt8):I0 a b<0↔ltN a b:=by
 unfold ltN
 rcases Ak (vld a) with ha|ha
 ·rcases Ak (vld b) with hb|hb
  ·rw [Y0 ha hb,Cl9,if_pos ha,if_pos hb]
  ·unfold I0;simp [ha,hb]
 ·rcases Ak (vld b) with hb|hb
  ·unfold I0;simp [ha,hb]
  ·have e:I0 a b=cmpS a b:=by unfold I0;simp [ha,hb]
   rw [e,Rf];simp [ha,hb]
theorem to_N:TO ltN:=by
 refine ⟨fun a h=> ?_,fun a b c h1 h2=> ?_,fun a b=> ?_⟩
 ·unfold ltN at h
  split at h
  ·exact to_L.irr _ h
  ·exact Em6.irr _ h
 ·unfold ltN at*
  rcases Ak (vld a) with ha|ha<;>rcases Ak (vld b) with hb|hb<;>rcases Ak (vld c) with hc|hc<;>
   simp only [ha,hb,hc,if_true,Ab,if_false] at h1 h2 ⊢
  ·exact to_L.tr _ _ _ h1 h2
  ·exact Em6.tr _ _ _ h1 h2
 ·unfold ltN
  rcases Ak (vld a) with ha|ha<;>rcases Ak (vld b) with hb|hb<;>simp only [ha,hb,if_true,Ab,if_false]
  ·rcases to_L.tri (lbl a).reverse (lbl b).reverse with h|h|h
   ·exact .inl h
   ·exact .inr (.inl (S8 ha hb (List.reverse_inj.1 h)))
   ·exact .inr (.inr h)
  ·simp
  ·simp
  ·exact Em6.tri a b
theorem Hs {a b:List UInt8}:I0 a b=0↔a=b:=by
 constructor
 ·intro h
  rcases Ak (vld a) with ha|ha
  ·rcases Ak (vld b) with hb|hb
   ·rw [Y0 ha hb] at h
    have key:∀x y:List (List UInt8),Bx5 x y=0→x=y:=by
     intro x
     induction x with
     |nil=>intro y hy;cases y with
      |nil=>rfl
      |cons=>simp [Bx5,Uy] at hy
     |cons x xs ih=>intro y hy;cases y with
      |nil=>simp [Bx5,Uy] at hy
      |cons y ys=>
       simp only [Bx5,Uy] at hy ih
       by_cases e:x=y
       ·subst e
        rw [if_pos rfl] at hy
        simp only [A0,Nat.add_lt_add_iff_right] at hy
        rw [ih ys hy]
       ·rw [if_neg e] at hy
        exact absurd (It.1 hy) e
    rw [ow] at h
    exact S8 ha hb (List.reverse_inj.1 (key _ _ h))
   ·unfold I0 at h;simp [ha,hb] at h
  ·rcases Ak (vld b) with hb|hb
   ·unfold I0 at h;simp [ha,hb] at h
   ·have e:I0 a b=cmpS a b:=by unfold I0;simp [ha,hb]
    rw [e] at h;exact It.1 h
 ·rintro rfl
  have h1:=E1 a a
  have h2:¬I0 a a<0:=fun h=>to_N.irr a (h1.1 h)
  have key:∀x:List (List UInt8),Bx5 x x=0:=by
   intro x
   induction x with
   |nil=>rfl
   |cons x xs ih=>
    simp only [Bx5,Uy] at ih ⊢
    simp only [if_true,A0,Nat.add_lt_add_iff_right]
    exact ih
  rcases Ak (vld a) with ha|ha
  ·rw [Y0 ha ha]
   rw [ow];exact key _
  ·have e:I0 a a=cmpS a a:=by unfold I0;simp [ha]
   rw [e];exact It.2 rfl
end Go.X.G
/- Data of records: what the reference's functions give. -/
namespace Go.X.G
open Go Go.X
def Kw7 (t:Int):List UInt8:=
 if t=1 then [65] else if t=2 then [78,83] else if t=5 then [67,78,65,77,69] else if t=6 then [83,79,65] else if t=12 then [80,84,82]
 else if t=15 then [77,88] else if t=16 then [84,88,84] else if t=28 then [65,65,65,65] else if t=33 then [83,82,86] else if t=39 then [68,78,65,77,69]
 else if t=43 then [68,83] else if t=46 then [82,82,83,73,71] else if t=47 then [78,83,69,67] else if t=48 then [68,78,83,75,69,89] else []
theorem t15 (t:Int):t=1∨t=2∨t=5∨t=6∨t=12∨t=15∨t=16∨t=28∨t=33∨t=39∨t=43∨t=46∨t=47∨t=48∨(t≠1∧t≠2∧t≠5∧t≠6∧t≠12∧t≠15∧t≠16∧t≠28∧t≠33∧t≠39∧t≠43∧t≠46∧t≠47∧t≠48):=by omega
theorem qm (t:Int):S d3 1 [.i .i64 t]=some [.s (Kw7 t)]:=by
 refine Jv7 (N:=1) rfl ?_
 rcases t15 t with rfl|rfl|rfl|rfl|rfl|rfl|rfl|rfl|rfl|rfl|rfl|rfl|rfl|rfl|⟨h0,h1,h2,h3,h4,h5,h6,h7,h8,h9,h10,h11,h12,h13⟩
 all_goals simp (disch:=omega) only [Im5,xe,EVP,EV,simprocAttr]
 all_goals first|rfl|(unfold Kw7;simp only [if_neg, *];rfl)
def knw (t:Int):Bool:=decide (t=1)||decide (t=2)||decide (t=5)||decide (t=6)||decide (t=12)||decide (t=15)||decide (t=16)||decide (t=28)||decide (t=33)||decide (t=39)||decide (t=43)||decide (t=46)||decide (t=47)||decide (t=48)
theorem Ff2 (t:Int):decide (Kw7 t≠[])=knw t:=by
 unfold Kw7 knw
 rcases t15 t with rfl|rfl|rfl|rfl|rfl|rfl|rfl|rfl|rfl|rfl|rfl|rfl|rfl|rfl|⟨h0,h1,h2,h3,h4,h5,h6,h7,h8,h9,h10,h11,h12,h13⟩
 all_goals simp [*]
theorem Cw (t:Int):S X9 1 [.i .i64 t]=some [.b (knw t)]:=by
 refine Kg2 (N:=1) rfl ?_
 simp (disch:=omega) only [Ky1,qm,Ff2,xe,EVP,EV,simprocAttr]
theorem il (t:Int):S fq 1 [.i .i64 t]=some [.b (decide (t=6)||decide (t=5)||decide (t=39))]:=by
 refine Jy2 (N:=1) rfl ?_
 simp (disch:=omega) only [In4,xe,EVP,EV,simprocAttr]
def Dm (d:Dat):Bool:=d.v6||(decide (d.hi=0) && decide (d.lo<4294967296))
theorem ic (d:Dat):S V0 1 [I2 d]=some [.b (Dm d)]:=by
 refine Jv5 (N:=1) rfl ?_
 unfold Dm
 cases h:d.v6<;>by_cases h2:d.hi=0<;>simp (disch:=omega) [Im3,h,h2,xe,EVP,EV,simprocAttr]
def inB (n most:Int):Bool:=decide (0≤n) && decide (n≤most)
theorem Bq2 (n m:Int):S Gf 2 [.i .i64 n, .i .i64 m]=some [.b (inB n m)]:=by
 refine Jv3 (N:=1) rfl ?_
 simp (disch:=omega) only [Im2,inB,xe,EVP,EV,simprocAttr]
theorem El0 (n:Int):S Cv1 1 [.i .i64 n]=some [.b (inB n 4294967295)]:=by
 refine Km0 (N:=1) rfl ?_
 simp (disch:=omega) only [Kz4,inB,xe,EVP,EV,simprocAttr]
 congr 5
 simp;omega
def Gj (s:List UInt8):Bool:=decide (1≤s.length) && decide (s.length≤255)
theorem Xx (s:List UInt8):S Sr 1 [.s s]=some [.b (Gj s)]:=by
 refine Jv2 (N:=1) rfl ?_
 simp (disch:=omega) only [Im1,Gj,xe,EVP,EV,simprocAttr]
 congr 5<;>simp<;>omega
theorem Bf1 {n:List UInt8} (h:vld n=true):0<n.length:=by
 unfold vld nm at h
 split at h
 ·rename_i e;simp [e]
 ·split at h
  ·omega
  ·cases h
def Ft (n:List UInt8):Bool:=vld n && decide (n[0]? ≠some 42)
theorem Hz (n:List UInt8) (hn:n.length≤9223372036854775807):S M1 1 [.s n]=some [.b (Ft n)]:=by
 refine Jv4 (N:=1) rfl ?_
 unfold Ft
 cases h:vld n
 ·simp (disch:=omega) only [Fp7,Fg,h,xe,EVP,EV,simprocAttr]
  rfl
 ·have h0:=Ax (Bf1 h)
  have h1:=Hl5 (n[0]'(Bf1 h)) 42 (by omega)
  simp (disch:=omega) only [Fp7,Fg,h,h0,xe,EVP,EV,simprocAttr]
  simp
  exact h1
def bit (set:Int) (t:Nat):Int:=set / 2 ^ t % 2
theorem Kv7 (x:Int):IntKind.u64.wrap ((BitVec.ofInt IntKind.u64.bits x &&& BitVec.ofInt IntKind.u64.bits 1).toNat:Int)=x % 2:=by
 have h2:(BitVec.ofInt 64 x &&& BitVec.ofInt 64 1).toNat=(BitVec.ofInt 64 x).toNat % 2:=by
  rw [BitVec.toNat_and]
  show (BitVec.ofInt 64 x).toNat &&& 1=_
  exact Nat.and_one_is_mod _
 show IntKind.u64.wrap (((BitVec.ofInt 64 x &&& BitVec.ofInt 64 1).toNat:Nat):Int)=_
 rw [h2,BitVec.toNat_ofInt]
 rw [Kc2]<;>omega
end Go.X.G
/- Data of records: bytes. -/
namespace Go.X.G
open Go Go.X
def Ah4 (set:Int) (i:Nat):Nat→Bool
 |0=>true
 |k+1=>(!decide (bit set i=1)||knw (i:Int)) && Ah4 set (i+1) k
theorem Kv9 (set:Int) (N:Nat) (hN:64<N):
  Cc7.ev S N [.i .u64 set]=some (if Ah4 set 0 64=true then .yld 0 [] else .ret [.b false]):=by
 refine Es 64 (fun i=>[.i .i64 (i:Int)]) (fun i=>if Ah4 set i (64 - i)=true then .yld 0 [] else .ret [.b false]) rfl hN (fun i hi=> ?_) ?_
 ·obtain ⟨k,hk⟩:∃k,64 - i=k+1:=⟨63 - i,by omega⟩
  have hk':64 - (i+1)=k:=by omega
  have hb:IntKind.u64.bits=64:=rfl
  have hi':i<IntKind.u64.bits:=by rw [hb];exact hi
  have h0:X.bin .shr (.i .u64 set) (.i .u64 (i:Int))=some (.i .u64 (set / 2 ^ i)):=Am1 _ _ _ _ hi'
  have h1:set / 2 ^ i % 2=bit set i:=rfl
  rw [hk,hk']
  simp only [Ah4]
  by_cases h2:bit set i=1<;>rcases Ak (knw (i:Int)) with h3|h3<;>simp (disch:=omega) only [Bd2,Cw,T7,Kv7,h0,h1,h2,h3,xe,EVP,EV,simprocAttr]
  all_goals simp [Out.goes]
 ·simp (disch:=omega) [Bd2,xe,EVP,EV,simprocAttr,Out.goes,Ah4]
theorem Kv8 (set:Int):S dr 1 [.i .u64 set]=some [.b (Ah4 set 0 64)]:=by
 refine Jv1 (N:=65) rfl ?_
 simp (disch:=omega) only [Bd2,Kv9,xe,EVP,EV,simprocAttr]
 cases Ah4 set 0 64<;>rfl
def be (v:Int):Nat→List UInt8
 |0=>[]
 |n+1=>UInt8.ofNat (v / 256 ^ n % 256).toNat::be v n
theorem Df (v:Int):∀n,(be v n).length=n
 |0=>rfl
 |n+1=>by simp [be,Df v n]
theorem Sl (z:Int) (h1:0≤z) (h2:z<256):((UInt8.ofNat z.toNat).toNat:Int)=z:=by
 simp;omega
theorem n0 (v:Int) (j:Nat):v / 256 ^ j / 256=v / 256 ^ (j+1):=by
 rw [Int.pow_succ,Int.ediv_ediv_of_nonneg (Int.le_of_lt (Int.pow_pos (by decide)))]
theorem gt (v:Int) (j:Nat) (h:0≤v):0≤v / 256 ^ j:=Int.ediv_nonneg h (Int.le_of_lt (Int.pow_pos (by decide)))
theorem g7 (v:Int) (j:Nat) (h:0≤v):v / 256 ^ j≤v:=Int.ediv_le_self _ h
theorem Cq0 (v:Int) (n i:Nat) (p q:PV) (N:Nat) (hN:i<N) (hi:i≤1000) (h0:0≤v) (h1:v≤18446744073709551615):
  Cz9.ev S N [.i .u64 v,p,q, .i .i64 (i:Int)]=some (.yld 2 [.i .u64 (v / 256 ^ i)]):=by
 refine Es i (fun j=>[.i .u64 (v / 256 ^ j), .i .i64 (j:Int)]) (fun j=> .yld 2 [.i .u64 (v / 256 ^ i)]) (by simp [Yf,m7,Lz7,Lb1]) hN (fun j hj=> ?_) ?_
 ·left
  have h2:=gt v j h0
  have h3:=g7 v j h0
  have h4:=n0 v j
  simp (disch:=omega) only [Z0,h4,xe,EVP,EV,simprocAttr]
  simp
 ·simp (disch:=omega) only [Z0,xe,EVP,EV,simprocAttr]
  simp [Out.goes]
theorem Cq1 (v:Int) (n:Nat) (N:Nat) (hN:n+1<N) (hn:n≤1000) (h0:0≤v) (h1:v≤18446744073709551615):
  mj.ev S N [.i .u64 v, .i .i64 (n:Int)]=some (.yld 0 [.l 1 (Bp (be v n))]):=by
 have key:=Ip (fn:=S) (N:=N) (η:=[.i .u64 v, .i .i64 (n:Int)]) (id:=1) (init:=[(.c (.l 1 [])),(.bin .sub (.v 1) (.c (.i .i64 (1))))]) (body:=qk) (α:=Nat×List UInt8) (fun a=>[.l 1 (Bp a.2), .i .i64 ((a.1:Int) - 1)]) (fun a=> .yld 0 [.l 1 (Bp (a.2++be v a.1))]) (fun a=>a.1+a.2.length=n) (fun a=>a.1) (n,[]) (by simp (disch:=omega) only [xe,EVP,EV,simprocAttr];rfl) rfl (by simp only;omega) ?_
 ·simpa [mj] using key
 ·rintro ⟨m,acc⟩ hm
  simp only at hm ⊢
  cases m with
  |zero=>
   right
   simp (disch:=omega) only [Z0,xe,EVP,EV,simprocAttr]
   simp [be,Out.goes]
  |succ m=>
   left
   have h2:=gt v m h0
   have h3:=g7 v m h0
   have e:((m+1:Nat):Int) - 1=(m:Int):=by omega
   have e2:=Sl (v / 256 ^ m % 256) (by omega) (by omega)
   have e3:=Lp acc
   refine ⟨(m,acc++[UInt8.ofNat (v / 256 ^ m % 256).toNat]),?_,by simp;omega,by simp,by simp [be]⟩
   rw [e]
   have hin:=Cq0 v n m (.i .i64 (n:Int)) (.l 1 (Bp acc)) N (by omega) (by omega) h0 h1
   simp (disch:=omega) only [Z0,hin,xe,EVP,EV,simprocAttr]
   rw [←P5,e2]
theorem Sm (v:Int) (n:Nat) (hn:n≤1000) (h0:0≤v) (h1:v≤18446744073709551615):S Sn 2 [.i .u64 v, .i .i64 (n:Int)]=some [.s (be v n)]:=by
 refine Jj2 (N:=n+2) rfl ?_
 simp (disch:=omega) only [Z0,Cq1,xe,EVP,EV,simprocAttr]
theorem El1 (v:Int) (n i:Nat) (p q:PV) (N:Nat) (hN:i<N) (hi:i≤1000) (h0:0≤v) (h1:v≤9223372036854775807):
  Cb1.ev S N [.i .i64 v,p,q, .i .i64 (i:Int)]=some (.yld 2 [.i .i64 (v / 256 ^ i)]):=by
 refine Es i (fun j=>[.i .i64 (v / 256 ^ j), .i .i64 (j:Int)]) (fun j=> .yld 2 [.i .i64 (v / 256 ^ i)]) (by simp [Yf,m7,Lz7,Lb1]) hN (fun j hj=> ?_) ?_
 ·left
  have h2:=gt v j h0
  have h3:=g7 v j h0
  have h4:=n0 v j
  simp (disch:=omega) only [Z1,h4,xe,EVP,EV,simprocAttr]
  simp
 ·simp (disch:=omega) only [Z1,xe,EVP,EV,simprocAttr]
  simp [Out.goes]
theorem El2 (v:Int) (n:Nat) (N:Nat) (hN:n+1<N) (hn:n≤1000) (h0:0≤v) (h1:v≤9223372036854775807):
  mq.ev S N [.i .i64 v, .i .i64 (n:Int)]=some (.yld 0 [.l 1 (Bp (be v n))]):=by
 have key:=Ip (fn:=S) (N:=N) (η:=[.i .i64 v, .i .i64 (n:Int)]) (id:=1) (init:=[(.c (.l 1 [])),(.bin .sub (.v 1) (.c (.i .i64 (1))))]) (body:=qv) (α:=Nat×List UInt8) (fun a=>[.l 1 (Bp a.2), .i .i64 ((a.1:Int) - 1)]) (fun a=> .yld 0 [.l 1 (Bp (a.2++be v a.1))]) (fun a=>a.1+a.2.length=n) (fun a=>a.1) (n,[]) (by simp (disch:=omega) only [xe,EVP,EV,simprocAttr];rfl) rfl (by simp only;omega) ?_
 ·simpa [mq] using key
 ·rintro ⟨m,acc⟩ hm
  simp only at hm ⊢
  cases m with
  |zero=>
   right
   simp (disch:=omega) only [Z1,xe,EVP,EV,simprocAttr]
   simp [be,Out.goes]
  |succ m=>
   left
   have h2:=gt v m h0
   have h3:=g7 v m h0
   have e:((m+1:Nat):Int) - 1=(m:Int):=by omega
   have e2:=Sl (v / 256 ^ m % 256) (by omega) (by omega)
   have e3:=Lp acc
   refine ⟨(m,acc++[UInt8.ofNat (v / 256 ^ m % 256).toNat]),?_,by simp;omega,by simp,by simp [be]⟩
   rw [e]
   have hin:=El1 v n m (.i .i64 (n:Int)) (.l 1 (Bp acc)) N (by omega) (by omega) h0 h1
   simp (disch:=omega) only [Z1,hin,xe,EVP,EV,simprocAttr]
   rw [←P5,e2]
theorem L2 (v:Int) (n:Nat) (hn:n≤1000) (h0:0≤v) (h1:v≤9223372036854775807):S Ef 2 [.i .i64 v, .i .i64 (n:Int)]=some [.s (be v n)]:=by
 refine Jk0 (N:=n+2) rfl ?_
 simp (disch:=omega) only [Z1,El2,xe,EVP,EV,simprocAttr]
end Go.X.G
/- Data of records: the wire form. -/
namespace Go.X.G
open Go Go.X
theorem Tq {s:List UInt8} (h:Jl s=true):s.length≤63:=by
 unfold Jl at h
 simp at h
 rcases h with h|h
 ·simp [h]
 ·omega
theorem Xy:∀(r:List UInt8) (f:Bool) (cur:List UInt8) (l:List (List UInt8)),spl f cur r=some l→∀x∈l,Jl x=true
 |[],f,cur,l,h=>by simp [spl] at h;subst h;simp
 |c::r,f,cur,l,h=>by
  simp only [spl] at h
  split at h
  ·split at h
   ·rename_i h2
    obtain ⟨m,hm,rfl⟩:=Aw.1 h
    intro x hx
    simp at hx
    rcases hx with rfl|hx
    ·exact h2.1
    ·exact Xy r _ _ _ hm x hx
   ·cases h
  ·exact Xy r _ _ _ h
theorem Od (n:List UInt8):∀x∈lbl n,Jl x=true:=by
 unfold lbl nm
 split
 ·simp
 ·split
  ·cases h:spl true [] n with
   |none=>simp
   |some l=>simpa using Xy _ _ _ _ h
  ·simp
def wireL (l:List (List UInt8)):List UInt8:=l.flatMap fun x=>be (x.length:Int) 1++x
def H9 (n:List UInt8):List UInt8:=wireL (lbl n)++be 0 1
theorem N0:∀(l:List (List UInt8)),(∀x∈l,Jl x=true)→(wireL l).length≤64*l.length
 |[],_=>by simp [wireL]
 |x::l,h=>by
  have h1:=Tq (h x (by simp))
  have h2:=N0 l (fun y hy=>h y (by simp [hy]))
  simp only [wireL,Gt,Az,Df,A0] at h2 ⊢
  omega
theorem Nt (n:List UInt8):(H9 n).length≤20000:=by
 have h1:=N0 (lbl n) (Od n)
 have h2:=G3 n
 simp only [H9,Az,Df]
 omega
theorem ql (n:List UInt8) (N:Nat) (hN:254<N):
  mw.ev S N [.s n,Bq (lbl n)]=some (.yld 0 [.s (wireL (lbl n))]):=by
 have hl:=G3 n
 have key:=Fs (fn:=S) (N:=N) (η:=[.s n,Bq (lbl n)]) (id:=1) (init:=[(.c (.s [])),(.c (.i .i64 (0)))]) (body:=qw) (lbl n) (fun i (g:List UInt8)=>[.s g, .i .i64 (i:Int)]) (fun i g r=> .yld 0 [.s (g++wireL r)]) (fun i g=>g.length≤64*i) [] rfl (Ac _) (by omega) (fun i g c r hd hi hc hI=> ?_) (fun g hI=> ?_)
 ·simpa [mw] using key
 ·left
  have h1:=Tq (Od n c (Ar hc))
  have h2:=L2 (c.length:Int) 1 (by omega) (by omega) (by omega)
  have h3:=Df (c.length:Int) 1
  have h4:(be (c.length:Int) 1++c).length=1+c.length:=by rw [Az,h3]
  refine ⟨g++(be (c.length:Int) 1++c),?_,?_,?_⟩
  ·simp only [Int.natCast_one] at h2
   simp (disch:=omega) only [Bc8,hc,h2,xe,EVP,EV,simprocAttr]
  ·rw [Az,h4];omega
  ·simp [wireL]
 ·simp (disch:=omega) only [Bc8,xe,EVP,EV,simprocAttr]
  simp [Out.goes,wireL]
theorem Ev (n:List UInt8) (hn:n.length≤9223372036854775807):S Lw 1 [.s n]=some [.s (H9 n)]:=by
 refine Jk1 (N:=255) rfl ?_
 have h1:=N0 (lbl n) (Od n)
 have h2:=G3 n
 have h3:=Df 0 1
 have h4:=L2 0 1 (by omega) (by omega) (by omega)
 simp only [Int.natCast_one] at h4
 simp (disch:=omega) only [Bc8,J2,ql,h4,xe,EVP,EV,simprocAttr]
 rfl
def bmV (set:Int) (i:Nat):Nat→Int
 |0=>0
 |j+1=>bmV set i j*2+bit set (i*8+j)
theorem Ec8 (set:Int) (t:Nat):0≤bit set t∧bit set t≤1:=by unfold bit;omega
theorem Wd (set:Int) (i:Nat):∀j,0≤bmV set i j∧bmV set i j<2 ^ j
 |0=>by simp [bmV]
 |j+1=>by
  have h1:=Wd set i j
  have h2:=Ec8 set (i*8+j)
  simp only [bmV,Int.pow_succ]
  omega
def bmB (set:Int) (i:Nat):UInt8:=UInt8.ofNat (bmV set i 8).toNat
def bmL (set:Int):Nat→Nat
 |0=>0
 |i+1=>if bmV set i 8≠0 then i+1 else bmL set i
theorem Ec1 (set:Int):∀i,bmL set i≤i
 |0=>Ac _
 |i+1=>by have:=Ec1 set i;simp only [bmL];split<;>omega
def bmap (set:Int):List UInt8:=((List.range 8).map (bmB set)).take (bmL set 8)
theorem Ec5 (set:Int) (p q:PV) (i:Nat) (hi:i<8) (N:Nat) (hN:8<N):
  Cb0.ev S N [.i .u64 set,p,q, .i .i64 (i:Int)]=some (.yld 2 [.i .i64 (bmV set i 8)]):=by
 refine Es 8 (fun j=>[.i .i64 (bmV set i j), .i .i64 (j:Int)]) (fun j=> .yld 2 [.i .i64 (bmV set i 8)]) rfl hN (fun j hj=> ?_) ?_
 ·left
  have hb:IntKind.u64.bits=64:=rfl
  have hi':i*8+j<IntKind.u64.bits:=by rw [hb];omega
  have e:((i:Int)*8+(j:Int))=((i*8+j:Nat):Int):=by simp
  have h0:X.bin .shr (.i .u64 set) (.i .u64 ((i*8+j:Nat):Int))=some (.i .u64 (set / 2 ^ (i*8+j))):=Am1 _ _ _ _ hi'
  have h1:set / 2 ^ (i*8+j) % 2=bit set (i*8+j):=rfl
  have h2:=Wd set i j
  have h3:(2:Int) ^ j≤128:=(by decide:∀j,j<8→(2:Int) ^ j≤128) j hj
  have h4:=Ec8 set (i*8+j)
  simp (disch:=omega) only [U2,T7,Kv7,h0,h1,←e,xe,EVP,EV,simprocAttr]
  refine ⟨?_,trivial⟩
  rw [e,h0]
  simp (disch:=omega) only [T7,Kv7,h0,h1,xe,EVP,EV,simprocAttr]
  rfl
 ·simp (disch:=omega) only [U2,xe,EVP,EV,simprocAttr]
  simp [Out.goes]
theorem Ec6 (set:Int) (N:Nat) (hN:8<N):
  Cb9.ev S N [.i .u64 set]=some (.yld 0 [.l 1 (Bp ((List.range 8).map (bmB set))), .i .i64 (bmL set 8:Int)]):=by
 refine Es 8 (fun i=>[.l 1 (Bp ((List.range i).map (bmB set))), .i .i64 (bmL set i:Int), .i .i64 (i:Int)]) (fun _=> .yld 0 [.l 1 (Bp ((List.range 8).map (bmB set))), .i .i64 (bmL set 8:Int)]) rfl hN (fun i hi=> ?_) ?_
 ·left
  have h1:=Ec5 set (.l 1 (Bp ((List.range i).map (bmB set)))) (.i .i64 (bmL set i:Int)) i hi N hN
  have h2:=Wd set i 8
  have h3:(2:Int) ^ 8=256:=rfl
  have h4:=Sl (bmV set i 8) (by omega) (by omega)
  have h5:(Bp ((List.range i).map (bmB set))).length=i:=by simp [Lp]
  have h6:Bp ((List.range (i+1)).map (bmB set))=Bp ((List.range i).map (bmB set))++[.i .u8 (bmV set i 8)]:=by
   rw [List.range_succ,List.map_append,←h4]
   exact (P5 _ _).symm
  rw [h6]
  by_cases h7:bmV set i 8=0
  ·simp (disch:=omega) only [U2,h1,bmL,h7,xe,EVP,EV,simprocAttr]
   simp
  ·simp (disch:=omega) only [U2,h1,bmL,xe,EVP,EV,simprocAttr]
   simp [h7]
 ·simp (disch:=omega) only [U2,xe,EVP,EV,simprocAttr]
  simp [Out.goes]
theorem Ec4 (set:Int):S dz 1 [.i .u64 set]=some [.s (bmap set)]:=by
 refine Jj9 (N:=9) rfl ?_
 have h1:=Ec1 set 8
 have h2:(Bp ((List.range 8).map (bmB set))).length=8:=by simp [Lp]
 have h3:List.drop 0 (List.take (bmL set 8) (Bp ((List.range 8).map (bmB set))))=Bp (bmap set):=by
  simp only [D1,bmap,Bp,List.map_take]
 simp (disch:=omega) only [U2,Ec6,h3,xe,EVP,EV,simprocAttr]
theorem Y9 (set:Int):(bmap set).length≤8:=by simp [bmap];omega
def N1 (d:Dat):List UInt8:=if d.v6 then be d.hi 8++be d.lo 8 else be d.lo 4
theorem Ah7 (d:Dat) (h:d.wf):S db 1 [I2 d]=some (if Dm d=true then [.s (N1 d), .i .i64 0] else [.s [], .i .i64 3]):=by
 refine Jk2 (N:=1) rfl ?_
 have h1:=h.hi
 have h2:=h.lo
 have a1:=Sm d.hi 8 (by omega) h1.1 h1.2
 have a2:=Sm d.lo 8 (by omega) h2.1 h2.2
 have a3:=Sm d.lo 4 (by omega) h2.1 h2.2
 have b1:=Df d.hi 8
 have b2:=Df d.lo 8
 simp only [Int.cast_ofNat_Int] at a1 a2 a3
 unfold N1
 rcases Ak (Dm d) with h3|h3<;>rcases Ak d.v6 with h4|h4<;>simp (disch:=omega) only [Il4,ic,h3,h4,a1,a2,a3,xe,EVP,EV,simprocAttr]
def usd (t:Int) (d:Dat):Dat:=
 if t=1∨t=28 then ⟨d.v6,d.hi,d.lo,[],[],[],0,0,0,0,0,0,0⟩
 else if t=2∨t=5∨t=12∨t=39 then ⟨false,0,0,d.host,[],[],0,0,0,0,0,0,0⟩
 else if t=6 then ⟨false,0,0,d.host,d.mail,[],d.a,d.b,d.c,d.d,d.e,0,0⟩
 else if t=15 then ⟨false,0,0,d.host,[],[],d.a,0,0,0,0,0,0⟩
 else if t=16 then ⟨false,0,0,[],[],d.text,0,0,0,0,0,0,0⟩
 else if t=33 then ⟨false,0,0,d.host,[],[],d.a,d.b,d.c,0,0,0,0⟩
 else if t=43∨t=48 then ⟨false,0,0,[],[],d.text,d.a,d.b,d.c,0,0,0,0⟩
 else if t=46 then ⟨false,0,0,d.host,[],d.text,d.a,d.b,d.c,d.d,d.e,d.f,0⟩
 else ⟨false,0,0,d.host,[],[],0,0,0,0,0,0,d.bits⟩
theorem Gp (t:Int) (d:Dat):S dt 2 [.i .i64 t,d.pv]=some [(usd t d).pv]:=by
 refine Jv6 (N:=1) rfl ?_
 rcases t15 t with rfl|rfl|rfl|rfl|rfl|rfl|rfl|rfl|rfl|rfl|rfl|rfl|rfl|rfl|⟨h0,h1,h2,h3,h4,h5,h6,h7,h8,h9,h10,h11,h12,h13⟩
 all_goals simp (disch:=omega) only [Im4,xe,EVP,EV,simprocAttr]
 all_goals first|rfl|(unfold usd;simp [*])
end Go.X.G
/- Data of records: which are valid. -/
namespace Go.X.G
open Go Go.X
def Cb (t:Int) (d:Dat):Bool:=
 if t=1 then Dm d && !d.v6
 else if t=28 then d.v6
 else if t=6 then Ft d.host && Ft d.mail && inB d.a 4294967295 && inB d.b 2147483647 && inB d.c 2147483647 && inB d.d 2147483647 && inB d.e 2147483647
 else if t=15 then Ft d.host && inB d.a 65535
 else if t=16 then decide (d.text.length≤255)
 else if t=33 then Ft d.host && inB d.a 65535 && inB d.b 65535 && inB d.c 65535
 else if t=43 then inB d.a 65535 && inB d.b 255 && inB d.c 255 && Gj d.text
 else if t=46 then knw d.a && decide (d.a≠46) && inB d.b 127 && inB d.c 2147483647 && inB d.d 4294967295 && inB d.e 4294967295 && inB d.f 65535 && Ft d.host && Gj d.text
 else if t=47 then vld d.host && decide (d.bits≠0) && Ah4 d.bits 0 64
 else if t=48 then (decide (d.a=256)||decide (d.a=257)) && decide (d.b=3) && inB d.c 255 && Gj d.text
 else Ft d.host
def Dy (t:Int) (d:Dat):Bool:=knw t && decide (usd t d=d) && Cb t d
theorem Ey (t:Int) (d:Dat) (h:d.wf):S As9 2 [.i .i64 t,d.pv]=some [.b (Dy t d)]:=by
 refine Kg1 (N:=1) rfl ?_
 have g1:=h.host
 have g2:=h.mail
 have g3:=h.text
 unfold J4 at g1 g2 g3
 rcases Ak (knw t) with hk|hk
 ·by_cases hu:usd t d=d
  ·rcases t15 t with rfl|rfl|rfl|rfl|rfl|rfl|rfl|rfl|rfl|rfl|rfl|rfl|rfl|rfl|⟨h0,h1,h2,h3,h4,h5,h6,h7,h8,h9,h10,h11,h12,h13⟩
   ·rcases ch2 (Dm d) (d.v6) with e0|⟨e0,e1⟩|⟨e0,e1⟩
    all_goals simp (disch:=omega) only [Mm,Cw,Gp,ic,xe,EVP,EV,simprocAttr,hk,hu, *]
    all_goals (unfold Dy Cb;simp [*])
   ·simp (disch:=omega) only [Mm,Cw,Gp,Hz,xe,EVP,EV,simprocAttr,hk,hu]
    unfold Dy Cb;simp [*]
   ·simp (disch:=omega) only [Mm,Cw,Gp,Hz,xe,EVP,EV,simprocAttr,hk,hu]
    unfold Dy Cb;simp [*]
   ·rcases ch7 (Ft d.host) (Ft d.mail) (inB d.a 4294967295) (inB d.b 2147483647) (inB d.c 2147483647) (inB d.d 2147483647) (inB d.e 2147483647) with e0|⟨e0,e1⟩|⟨e0,e1,e2⟩|⟨e0,e1,e2,e3⟩|⟨e0,e1,e2,e3,e4⟩|⟨e0,e1,e2,e3,e4,e5⟩|⟨e0,e1,e2,e3,e4,e5,e6⟩|⟨e0,e1,e2,e3,e4,e5,e6⟩
    all_goals simp (disch:=omega) only [Mm,Cw,Gp,Hz,El0,Bq2,xe,EVP,EV,simprocAttr,hk,hu, *]
    all_goals (unfold Dy Cb;simp [*])
   ·simp (disch:=omega) only [Mm,Cw,Gp,Hz,xe,EVP,EV,simprocAttr,hk,hu]
    unfold Dy Cb;simp [*]
   ·rcases ch2 (Ft d.host) (inB d.a 65535) with e0|⟨e0,e1⟩|⟨e0,e1⟩
    all_goals simp (disch:=omega) only [Mm,Cw,Gp,Hz,Bq2,xe,EVP,EV,simprocAttr,hk,hu, *]
    all_goals (unfold Dy Cb;simp [*])
   ·simp (disch:=omega) only [Mm,Cw,Gp,Hz,xe,EVP,EV,simprocAttr,hk,hu]
    unfold Dy Cb;simp [*];omega
   ·simp (disch:=omega) only [Mm,Cw,Gp,Hz,xe,EVP,EV,simprocAttr,hk,hu]
    unfold Dy Cb;simp [*]
   ·rcases ch4 (Ft d.host) (inB d.a 65535) (inB d.b 65535) (inB d.c 65535) with e0|⟨e0,e1⟩|⟨e0,e1,e2⟩|⟨e0,e1,e2,e3⟩|⟨e0,e1,e2,e3⟩
    all_goals simp (disch:=omega) only [Mm,Cw,Gp,Hz,Bq2,xe,EVP,EV,simprocAttr,hk,hu, *]
    all_goals (unfold Dy Cb;simp [*])
   ·simp (disch:=omega) only [Mm,Cw,Gp,Hz,xe,EVP,EV,simprocAttr,hk,hu]
    unfold Dy Cb;simp [*]
   ·rcases ch4 (inB d.a 65535) (inB d.b 255) (inB d.c 255) (Gj d.text) with e0|⟨e0,e1⟩|⟨e0,e1,e2⟩|⟨e0,e1,e2,e3⟩|⟨e0,e1,e2,e3⟩
    all_goals simp (disch:=omega) only [Mm,Cw,Gp,Bq2,Xx,xe,EVP,EV,simprocAttr,hk,hu, *]
    all_goals (unfold Dy Cb;simp [*])
   ·rcases ch9 (knw d.a) (decide (d.a≠46)) (inB d.b 127) (inB d.c 2147483647) (inB d.d 4294967295) (inB d.e 4294967295) (inB d.f 65535) (Ft d.host) (Gj d.text) with e0|⟨e0,e1⟩|⟨e0,e1,e2⟩|⟨e0,e1,e2,e3⟩|⟨e0,e1,e2,e3,e4⟩|⟨e0,e1,e2,e3,e4,e5⟩|⟨e0,e1,e2,e3,e4,e5,e6⟩|⟨e0,e1,e2,e3,e4,e5,e6,e7⟩|⟨e0,e1,e2,e3,e4,e5,e6,e7,e8⟩|⟨e0,e1,e2,e3,e4,e5,e6,e7,e8⟩
    all_goals simp (disch:=omega) only [Mm,Cw,Gp,Hz,Bq2,Xx,xe,EVP,EV,simprocAttr,hk,hu, *]
    all_goals (unfold Dy Cb;simp [*])
   ·rcases ch3 (vld d.host) (decide (d.bits≠0)) (Ah4 d.bits 0 64) with e0|⟨e0,e1⟩|⟨e0,e1,e2⟩|⟨e0,e1,e2⟩
    all_goals simp (disch:=omega) only [Mm,Cw,Gp,Fg,Kv8,xe,EVP,EV,simprocAttr,hk,hu, *]
    all_goals (unfold Dy Cb;simp [*])
   ·rcases ch4 (decide (d.a=256)||decide (d.a=257)) (decide (d.b=3)) (inB d.c 255) (Gj d.text) with e0|⟨e0,e1⟩|⟨e0,e1,e2⟩|⟨e0,e1,e2,e3⟩|⟨e0,e1,e2,e3⟩
    all_goals simp (disch:=omega) only [Mm,Cw,Gp,Bq2,Xx,xe,EVP,EV,simprocAttr,hk,hu, *]
    all_goals (unfold Dy Cb;simp [*])
   ·simp [knw, *] at hk
  ·simp (disch:=omega) only [Mm,Cw,Gp,xe,EVP,EV,simprocAttr,hk,hu]
   unfold Dy
   simp [hu]
 ·simp (disch:=omega) only [Mm,Cw,xe,EVP,EV,simprocAttr,hk]
  unfold Dy
  simp [hk]
def Ij (t:Int) (d:Dat):List UInt8:=
 if t=1∨t=28 then N1 d
 else if t=6 then H9 d.host++H9 d.mail++be d.a 4++be d.b 4++be d.c 4++be d.d 4++be d.e 4
 else if t=15 then be d.a 2++H9 d.host
 else if t=16 then be (d.text.length:Int) 1++d.text
 else if t=33 then be d.a 2++be d.b 2++be d.c 2++H9 d.host
 else if t=43∨t=48 then be d.a 2++be d.b 1++be d.c 1++d.text
 else if t=46 then be d.a 2++be 253 1++be d.b 1++be d.c 4++be d.d 4++be d.e 4++be d.f 2++H9 d.host++d.text
 else if t=47 then H9 d.host++be 0 1++be ((bmap d.bits).length:Int) 1++bmap d.bits
 else H9 d.host
theorem knw_cases {t:Int} (h:knw t=true):t=1∨t=2∨t=5∨t=6∨t=12∨t=15∨t=16∨t=28∨t=33∨t=39∨t=43∨t=46∨t=47∨t=48:=by
 simp [knw] at h;omega
theorem Uj (v:Int) (h0:0≤v) (h1:v≤9223372036854775807):S Ef 2 [.i .i64 v, .i .i64 1]=some [.s (be v 1)]:=L2 v 1 (by omega) h0 h1
theorem T9 (v:Int) (h0:0≤v) (h1:v≤9223372036854775807):S Ef 2 [.i .i64 v, .i .i64 2]=some [.s (be v 2)]:=L2 v 2 (by omega) h0 h1
theorem El3 (v:Int) (h0:0≤v) (h1:v≤9223372036854775807):S Ef 2 [.i .i64 v, .i .i64 4]=some [.s (be v 4)]:=L2 v 4 (by omega) h0 h1
theorem Rh (t:Int) (d:Dat) (h:d.wf):S Vn 2 [.i .i64 t,d.pv]=some (if Dy t d=true then [.s (Ij t d), .i .i64 0] else if knw t=true then [.s [], .i .i64 5] else [.s [], .i .i64 4]):=by
 refine Jq4 (N:=1) rfl ?_
 have g1:=h.host
 have g2:=h.mail
 have g3:=h.text
 unfold J4 at g1 g2 g3
 have g4:=Nt d.host
 have g5:=Nt d.mail
 have g6:=Y9 d.bits
 rcases Ak (knw t) with hk|hk
 ·rcases Ak (Dy t d) with hv|hv
  ·rw [if_pos hv]
   have hv':=hv
   rcases knw_cases hk with rfl|rfl|rfl|rfl|rfl|rfl|rfl|rfl|rfl|rfl|rfl|rfl|rfl|rfl
   ·simp [Dy,Cb] at hv'
    simp (disch:=omega) only [H7,Cw,Ey _ _ h,Ah7 d h,hk,hv,hv'.2.1,xe,EVP,EV,simprocAttr]
    rfl
   ·simp (disch:=omega) only [H7,Cw,Ey _ _ h,Ev,hk,hv,xe,EVP,EV,simprocAttr]
    rfl
   ·simp (disch:=omega) only [H7,Cw,Ey _ _ h,Ev,hk,hv,xe,EVP,EV,simprocAttr]
    rfl
   ·simp [Dy,Cb,inB,Gj] at hv'
    simp (disch:=first|omega|(simp only [Az,Df];omega)) only [H7,Cw,Ey _ _ h,Ev,El3,hk,hv,xe,EVP,EV,simprocAttr]
    rfl
   ·simp (disch:=omega) only [H7,Cw,Ey _ _ h,Ev,hk,hv,xe,EVP,EV,simprocAttr]
    rfl
   ·simp [Dy,Cb,inB,Gj] at hv'
    simp (disch:=first|omega|(simp only [Az,Df];omega)) only [H7,Cw,Ey _ _ h,Ev,T9,hk,hv,xe,EVP,EV,simprocAttr]
    rfl
   ·simp [Dy,Cb,inB,Gj] at hv'
    simp (disch:=first|omega|(simp only [Az,Df];omega)) only [H7,Cw,Ey _ _ h,Ev,Uj,hk,hv,xe,EVP,EV,simprocAttr]
    rfl
   ·simp [Dy,Cb] at hv'
    have ha:Dm d=true:=by simp [Dm,hv'.2]
    simp (disch:=omega) only [H7,Cw,Ey _ _ h,Ah7 d h,hk,hv,ha,xe,EVP,EV,simprocAttr]
    rfl
   ·simp [Dy,Cb,inB,Gj] at hv'
    simp (disch:=first|omega|(simp only [Az,Df];omega)) only [H7,Cw,Ey _ _ h,Ev,T9,hk,hv,xe,EVP,EV,simprocAttr]
    rfl
   ·simp (disch:=omega) only [H7,Cw,Ey _ _ h,Ev,hk,hv,xe,EVP,EV,simprocAttr]
    rfl
   ·simp [Dy,Cb,inB,Gj] at hv'
    simp (disch:=first|omega|(simp only [Az,Df];omega)) only [H7,Cw,Ey _ _ h,Ev,Uj,T9,hk,hv,xe,EVP,EV,simprocAttr]
    rfl
   ·simp [Dy,Cb,inB,Gj] at hv'
    have k1:0≤d.a:=by have:=knw_cases hv'.2.1.1.1.1.1.1.1.1;omega
    have k2:=h.a.2
    simp (disch:=first|omega|(simp only [Az,Df];omega)) only [H7,Cw,Ey _ _ h,Ev,Uj,T9,El3,hk,hv,xe,EVP,EV,simprocAttr]
    rfl
   ·simp (disch:=first|omega|(simp only [Az,Df];omega)) only [H7,Cw,Ey _ _ h,Ev,Ec4,Uj,hk,hv,xe,EVP,EV,simprocAttr]
    rfl
   ·simp [Dy,Cb,inB,Gj] at hv'
    simp (disch:=first|omega|(simp only [Az,Df];omega)) only [H7,Cw,Ey _ _ h,Ev,Uj,T9,hk,hv,xe,EVP,EV,simprocAttr]
    rfl
  ·simp (disch:=omega) only [H7,Cw,Ey _ _ h,hk,hv,xe,EVP,EV,simprocAttr]
 ·have hv:Dy t d=false:=by simp [Dy,hk]
  simp (disch:=omega) only [H7,Cw,hk,hv,xe,EVP,EV,simprocAttr]
def Cm2 (t:Int) (a b:Dat):Int:=
 if Dy t a && Dy t b then cmpS (Ij t a) (Ij t b) else if Dy t a then -1 else if Dy t b then 1 else 0
theorem q9 (t:Int) (a b:Dat) (ha:a.wf) (hb:b.wf):S eq 3 [.i .i64 t,a.pv,b.pv]=some [.i .i64 (Cm2 t a b)]:=by
 refine Jx0 (N:=1) rfl ?_
 unfold Cm2 cmpS
 rcases Ak (Dy t a) with h1|h1<;>rcases Ak (Dy t b) with h2|h2
 ·simp (disch:=omega) only [Fr1,Rh _ _ ha,Rh _ _ hb,h1,h2,xe,EVP,EV,simprocAttr]
  cases Op.bytesLess (Ij t a) (Ij t b)
  ·by_cases h3:Ij t a=Ij t b<;>simp [h3]
  ·simp
 all_goals rcases Ak (knw t) with h3|h3<;>simp (disch:=omega) [Fr1,Rh _ _ ha,Rh _ _ hb,h1,h2,h3,xe,EVP,EV,simprocAttr]
end Go.X.G
/- Lists of records: what the reference's functions give. -/
namespace Go.X.G
open Go Go.X
def Mn (r:Rec):Bool:=vld r.name && knw r.typ && decide (0≤r.ttl) && decide (r.ttl≤2147483647) && Dy r.typ r.data
theorem ib (r:Rec) (h:r.wf):S Cv5 1 [r.pv]=some [.b (Mn r)]:=by
 refine Km8 (N:=1) rfl ?_
 have g:=h.name
 unfold J4 at g
 unfold Mn
 by_cases h0:0≤r.ttl<;>by_cases h1:r.ttl≤2147483647
 all_goals rcases ch3 (vld r.name) (knw r.typ) (Dy r.typ r.data) with e0|⟨e0,e1⟩|⟨e0,e1,e2⟩|⟨e0,e1,e2⟩
 all_goals simp (disch:=omega) [Kz9,Fg,Cw,Ey _ _ h.data,xe,EVP,EV,simprocAttr, *]
def ij (a b:Int):Int:=if a<b then -1 else if b<a then 1 else 0
theorem As6 (a b:Int):S ew 2 [.i .i64 a, .i .i64 b]=some [.i .i64 (ij a b)]:=by
 refine Jx1 (N:=1) rfl ?_
 unfold ij
 simp (disch:=omega) only [In1,xe,EVP,EV,simprocAttr]
 grind
def Nf (a b:Rec):Int:=
 if I0 a.name b.name≠0 then I0 a.name b.name else if ij a.typ b.typ≠0 then ij a.typ b.typ else Cm2 a.typ a.data b.data
theorem gj (a b:Rec) (ha:a.wf) (hb:b.wf):S At4 2 [a.pv,b.pv]=some [.i .i64 (Nf a b)]:=by
 refine Kh3 (N:=1) rfl ?_
 have g1:=ha.name
 have g2:=hb.name
 unfold J4 at g1 g2
 unfold Nf
 simp (disch:=omega) only [Ky6,rj,As6,q9 _ _ _ ha.data hb.data,xe,EVP,EV,simprocAttr]
 by_cases h1:I0 a.name b.name=0<;>by_cases h2:ij a.typ b.typ=0<;>simp [h1,h2]
def isK (n:List UInt8) (t:Int) (r:Rec):Bool:=decide (r.name=n) && decide (r.typ=t)
def findR (l:List Rec) (n:List UInt8) (t:Int):List Rec:=l.filter (isK n t)
theorem Kf (l:List Rec) (n:List UInt8) (t:Int) (hl:l.length≤1000000):S dj 3 [Ad l, .s n, .i .i64 t]=some [Ad (findR l n t)]:=by
 refine Km9 (N:=l.length+1) rfl ?_
 have key:Gk8.ev S (l.length+1) [Ad l, .s n, .i .i64 t]=some (.yld 0 [Ad ([]++findR l n t)]):=by
  refine Fs l (fun i (g:List Rec)=>[Ad g, .i .i64 (i:Int)]) (fun i g r=> .yld 0 [Ad (g++findR r n t)]) (fun i g=>g.length≤i) [] rfl (Cm _) (by omega) (fun i g c r hd hi hc hI=> ?_) (fun g hI=> ?_)
  ·left
   by_cases h:isK n t c=true
   ·refine ⟨g++[c],?_,by simp;omega,by simp [findR,h]⟩
    simp [isK] at h
    simp (disch:=omega) only [Bc4,hc,h.1,h.2,xe,EVP,EV,simprocAttr]
   ·refine ⟨g,?_,by omega,by simp [findR,h]⟩
    simp [isK] at h
    by_cases h1:c.name=n
    ·simp (disch:=omega) only [Bc4,hc,h1,h h1,xe,EVP,EV,simprocAttr]
    ·simp (disch:=omega) only [Bc4,hc,h1,xe,EVP,EV,simprocAttr]
  ·simp (disch:=omega) only [Bc4,xe,EVP,EV,simprocAttr]
   simp [findR,Out.goes]
 simp (disch:=omega) only [Bc4,key,xe,EVP,EV,simprocAttr]
theorem Fn8 (l:List Rec) (n:List UInt8) (t:Int) (hl:l.length≤1000000):S Cv0 3 [Ad l, .s n, .i .i64 t]=some [Ad (findR l n t)]:=by
 refine Kl9 (N:=l.length+1) rfl ?_
 have key:Gk5.ev S (l.length+1) [Ad l, .s n, .i .i64 t]=some (.yld 0 [Ad ([]++findR l n t)]):=by
  refine Fs l (fun i (g:List Rec)=>[Ad g, .i .i64 (i:Int)]) (fun i g r=> .yld 0 [Ad (g++findR r n t)]) (fun i g=>g.length≤i) [] rfl (Cm _) (by omega) (fun i g c r hd hi hc hI=> ?_) (fun g hI=> ?_)
  ·left
   by_cases h:isK n t c=true
   ·refine ⟨g++[c],?_,by simp;omega,by simp [findR,h]⟩
    simp [isK] at h
    simp (disch:=omega) only [Bc2,hc,h.1,h.2,xe,EVP,EV,simprocAttr]
   ·refine ⟨g,?_,by omega,by simp [findR,h]⟩
    simp [isK] at h
    by_cases h1:c.name=n
    ·simp (disch:=omega) only [Bc2,hc,h1,h h1,xe,EVP,EV,simprocAttr]
    ·by_cases h2:c.typ=t<;>simp (disch:=omega) only [Bc2,hc,h1,h2,xe,EVP,EV,simprocAttr]
  ·simp (disch:=omega) only [Bc2,xe,EVP,EV,simprocAttr]
   simp [findR,Out.goes]
 simp (disch:=omega) only [Bc2,key,xe,EVP,EV,simprocAttr]
theorem L4 (a b:List Rec) (ha:a.length≤1000000):S Bk0 2 [Ad a,Ad b]=some [.b (decide (a=b))]:=by
 refine Kr5 (N:=a.length+1) rfl ?_
 by_cases hl:a.length=b.length
 ·have key:Gv1.ev S (a.length+1) [Ad a,Ad b]=some (if a.drop 0=b.drop 0 then .yld 0 [] else .ret [.b false]):=by
   refine Dv a (fun i=>[.i .i64 (i:Int)]) (fun i r=>if r=b.drop i then .yld 0 [] else .ret [.b false]) rfl (by omega) (fun i c r hd hi hc=> ?_) ?_
   ·obtain ⟨y,r',hb,hd2,hd3⟩:∃y r',b[i]? =some y∧b.drop i=y::r'∧b.drop (i+1)=r':=⟨b[i]'(by omega),_,Ax (by omega),B0 (by omega),rfl⟩
    rw [hd2,hd3]
    by_cases h:c=y
    ·subst h
     left
     simp (disch:=omega) only [Al3,hc,hb,xe,EVP,EV,simprocAttr]
     simp
    ·right
     simp (disch:=omega) only [Al3,hc,hb,h,xe,EVP,EV,simprocAttr]
     simp [h,Out.goes]
   ·have hd2:b.drop a.length=[]:=Fb (by omega)
    rw [hd2]
    simp (disch:=omega) only [Al3,xe,EVP,EV,simprocAttr]
    simp [Out.goes]
  simp only [D1] at key
  by_cases h:a=b
  ·rw [if_pos h] at key
   simp (disch:=omega) only [Al3,key,xe,EVP,EV,simprocAttr]
   try simp [h]
  ·rw [if_neg h] at key
   simp (disch:=omega) only [Al3,key,xe,EVP,EV,simprocAttr]
   try simp [h]
 ·have h:a≠b:=fun h=>hl (by rw [h])
  simp (disch:=omega) [Al3,h,xe,EVP,EV,simprocAttr]
def Tw (x:Rec):List Rec→List Rec
 |[]=>[x]
 |y::r=>if Nf y x<0 then y::Tw x r else if Nf y x=0 then (if x.ttl<y.ttl then x::r else y::r) else x::y::r
def sortR (l:List Rec):List Rec:=l.foldl (fun acc x=>Tw x acc) []
def Kx (x:Rec):List Rec→Nat
 |[]=>0
 |y::r=>if Nf y x<0 then Kx x r+1 else 0
theorem yq (x:Rec):∀l,Kx x l≤l.length
 |[]=>Ac _
 |y::r=>by have:=yq x r;simp only [Kx];split<;>simp;omega
theorem Cf7 (x:Rec):∀(l:List Rec),Tw x l=match l[Kx x l]? with
  |some y=>if Nf y x=0 then (if x.ttl<y.ttl then l.set (Kx x l) x else l) else l.take (Kx x l)++[x]++l.drop (Kx x l)
  |none=>l.take (Kx x l)++[x]++l.drop (Kx x l)
 |[]=>rfl
 |y::r=>by
  simp only [Tw,Kx]
  by_cases h:Nf y x<0
  ·simp only [if_pos h,Dd]
   rw [Cf7 x r]
   cases h2:r[Kx x r]? with
   |none=>simp
   |some z=>by_cases h3:Nf z x=0<;>by_cases h4:x.ttl<z.ttl<;>simp [h3,h4]
  ·simp only [if_neg h,Ck]
   by_cases h3:Nf y x=0<;>by_cases h4:x.ttl<y.ttl<;>simp [h3,h4]
theorem yc (x:Rec):∀l,(Tw x l).length≤l.length+1
 |[]=>by simp [Tw]
 |y::r=>by
  have:=yc x r
  simp only [Tw]
  split
  ·simp;omega
  ·split
   ·split<;>simp
   ·simp
theorem insR_mem (x:Rec):∀(l:List Rec) (y:Rec),y∈Tw x l→y=x∨y∈l
 |[],y,h=>by simp [Tw] at h;exact .inl h
 |z::r,y,h=>by
  simp only [Tw] at h
  split at h
  ·simp at h
   rcases h with h|h
   ·exact .inr (by simp [h])
   ·rcases insR_mem x r y h with h|h
    ·exact .inl h
    ·exact .inr (by simp [h])
  ·split at h
   ·split at h
    ·simp at h;rcases h with h|h
     ·exact .inl h
     ·exact .inr (by simp [h])
    ·exact .inr h
   ·simp at h;rcases h with h|h
    ·exact .inl h
    ·exact .inr (by simpa using h)
theorem Ig5 (l g:List Rec) (i:Nat) (x:Rec) (hx:l[i]? =some x) (hw:∀r∈l,r.wf) (hg:∀r∈g,r.wf) (N:Nat) (hN:g.length<N) (hl:g.length≤1000000):
  Cz7.ev S N [Ad l,Ad g, .i .i64 (i:Int)]=some (.yld 2 [.i .i64 (Kx x g:Int)]):=by
 have key:Cz7.ev S N [Ad l,Ad g, .i .i64 (i:Int)]=some (.yld 2 [.i .i64 ((0+Kx x g:Nat):Int)]):=by
  refine Dv g (fun k=>[.i .i64 (k:Int)]) (fun k r=> .yld 2 [.i .i64 ((k+Kx x r:Nat):Int)]) rfl hN (fun k c r hd hk hc=> ?_) ?_
  ·have h1:=gj c x (hg c (Ar hc)) (hw x (Ar hx))
   by_cases h:Nf c x<0
   ·left
    simp (disch:=omega) only [W9,hc,hx,h1,h,xe,EVP,EV,simprocAttr]
    refine ⟨trivial,?_⟩
    simp only [Kx,if_pos h]
    congr 3;push_cast;omega
   ·right
    simp (disch:=omega) only [W9,hc,hx,h1,xe,EVP,EV,simprocAttr]
    simp [Kx,h,Out.goes]
  ·simp (disch:=omega) only [W9,xe,EVP,EV,simprocAttr]
   simp [Kx,Out.goes]
 simpa using key
theorem Ig6 (l:List Rec) (hw:∀r∈l,r.wf) (N:Nat) (hN:l.length<N) (hl:l.length≤1000000):
  Gq3.ev S N [Ad l]=some (.yld 0 [Ad (sortR l)]):=by
 refine Fs l (fun i (g:List Rec)=>[Ad g, .i .i64 (i:Int)]) (fun i g r=> .yld 0 [Ad (r.foldl (fun acc x=>Tw x acc) g)]) (fun i g=>g.length≤i∧∀r∈g,r.wf) [] rfl ⟨Ac _,fun r h=>by cases h⟩ hN (fun i g c r hd hi hc hI=> ?_) (fun g hI=> ?_)
 ·left
  obtain ⟨h1,h2⟩:=hI
  have hcw:=hw c (Ar hc)
  have h3:=Ig5 l g i c hc hw h2 N (by omega) (by omega)
  have h4:=yq c g
  have h5:=yc c g
  refine ⟨Tw c g,?_,⟨by omega,fun r hr=> ?_⟩,rfl⟩
  ·rw [Cf7]
   cases h6:g[Kx c g]? with
   |none=>
    have h7:=List.getElem?_eq_none_iff.1 h6
    have h8:Kx c g=g.length:=by omega
    simp (disch:=first|omega|(simp;omega)) only [W9,hc,h3,h8,xe,EVP,EV,simprocAttr]
    simp
   |some y=>
    have h7:=(Aq.1 h6).1
    have h8:=gj y c (h2 y (Ar h6)) hcw
    by_cases h9:Nf y c=0
    ·by_cases h10:c.ttl<y.ttl
     ·simp (disch:=omega) only [W9,hc,h3,h6,h8,h9,h10,xe,EVP,EV,simprocAttr]
     ·simp (disch:=omega) only [W9,hc,h3,h6,h8,h9,h10,xe,EVP,EV,simprocAttr]
    ·simp (disch:=first|omega|(simp;omega)) only [W9,hc,h3,h6,h8,h9,xe,EVP,EV,simprocAttr]
     simp
  ·rcases insR_mem c g r hr with h|h
   ·subst h;exact hcw
   ·exact h2 r h
 ·simp (disch:=omega) only [W9,xe,EVP,EV,simprocAttr]
  simp [Out.goes]
theorem Rl (l:List Rec) (hw:∀r∈l,r.wf) (hl:l.length≤1000000):S Cw2 1 [Ad l]=some [Ad (sortR l)]:=by
 refine Kp0 (N:=l.length+1) rfl ?_
 simp (disch:=omega) only [W9,Ig6 l hw,xe,EVP,EV,simprocAttr]
end Go.X.G
/- Zones: what the reference's check gives. -/
namespace Go.X.G
open Go Go.X
def Dr (n top:List UInt8):Bool:=decide (n≠top) && under n top
theorem J1 (n top:List UInt8) (hn:n.length≤9223372036854775807) (ht:top.length≤9223372036854775807):S Yk 2 [.s n, .s top]=some [.b (Dr n top)]:=by
 refine Kl8 (N:=1) rfl ?_
 unfold Dr
 by_cases h:n=top
 ·simp (disch:=omega) only [Il1,L0,h,xe,EVP,EV,simprocAttr]
  simp
 ·simp (disch:=omega) only [Il1,L0,h,xe,EVP,EV,simprocAttr]
  simp
def Uw (l:List Rec) (n:List UInt8) (t:Int):Bool:=decide (0<(findR l n t).length)
theorem Ol (l:List Rec) (n:List UInt8) (t:Int) (hl:l.length≤1000000):S Bj2 3 [Ad l, .s n, .i .i64 t]=some [.b (Uw l n t)]:=by
 refine Km7 (N:=1) rfl ?_
 unfold Uw
 simp (disch:=omega) only [Kz8,Kf,xe,EVP,EV,simprocAttr]
 simp
def G6 (r x:Rec):Bool:=
 !decide (x.name=r.name)||(!(decide (x.typ=r.typ) && decide (r.typ≠46) && decide (x.ttl≠r.ttl)) && !(decide (x.typ=r.typ) && (decide (r.typ=6)||decide (r.typ=5)||decide (r.typ=39)) && decide (x≠r)) &&
  !(decide (r.typ=5) && decide (x.typ≠5) && decide (x.typ≠46) && decide (x.typ≠47)))
def Lr (z:Zone) (r:Rec):Bool:=z.recs.all (G6 r)
theorem Ed1 (z:Zone) (r:Rec) (N:Nat) (hN:z.recs.length<N) (hz:z.recs.length≤1000000):
  Gk7.ev S N [z.pv,r.pv]=some (if Lr z r=true then .yld 0 [] else .ret [.b false]):=by
 refine Dv z.recs (fun i=>[.i .i64 (i:Int)]) (fun i l=>if l.all (G6 r)=true then .yld 0 [] else .ret [.b false]) rfl hN (fun i c l hd hi hc=> ?_) ?_
 ·have key:Ef6.ev S N ([z.pv,r.pv]++[.i .i64 (i:Int)])=some (if G6 r c=true then .yld 1 [.i .i64 ((i:Int)+1)] else .ret [.b false]):=by
   by_cases h1:c.name=r.name
   ·by_cases h2:c.typ=r.typ
    ·simp (disch:=omega) only [Bc3,il,hc,h1,h2,xe,EVP,EV,simprocAttr]
     simp only [G6,h1,h2]
     grind
    ·simp (disch:=omega) only [Bc3,il,hc,h1,h2,xe,EVP,EV,simprocAttr]
     simp only [G6,h1,h2]
     grind
   ·simp (disch:=omega) only [Bc3,hc,h1,xe,EVP,EV,simprocAttr]
    simp [G6,h1]
  rw [key]
  rcases Ak (G6 r c) with h|h<;>simp [h,Out.goes]
 ·simp (disch:=omega) [Bc3,xe,EVP,EV,simprocAttr,Out.goes]
theorem Ed0 (z:Zone) (r:Rec) (hz:z.recs.length≤1000000):S Cv4 2 [z.pv,r.pv]=some [.b (Lr z r)]:=by
 refine Km5 (N:=z.recs.length+1) rfl ?_
 simp (disch:=omega) only [Bc3,Ed1,xe,EVP,EV,simprocAttr]
 cases Lr z r<;>simp
def Fp (z:Zone) (r x:Rec):Bool:=
 !(decide (x.typ=39) && Dr r.name x.name) && !(decide (x.typ=2) && Dr x.name z.origin && Dr r.name x.name && decide (r.typ≠1) && decide (r.typ≠28))
def Ph (t:Int):Bool:=decide (t=2)||decide (t=43)||decide (t=47)||decide (t=46)||decide (t=1)||decide (t=28)
def Nw (z:Zone) (r:Rec):Bool:=
 if (lbl r.name)[0]? =some [42]∧(r.typ=2∨r.typ=39) then false
 else z.recs.all (Fp z r) && (if Dr r.name z.origin && Uw z.recs r.name 2 then Ph r.typ else decide (r.typ≠43))
theorem Sz (z:Zone) (r:Rec) (hz:z.wf) (hr:r.wf) (p:PV) (N:Nat) (hN:z.recs.length<N) (hl:z.recs.length≤1000000):
  Gk6.ev S N [z.pv,r.pv,p]=some (if z.recs.all (Fp z r)=true then .yld 0 [] else .ret [.b false]):=by
 have g1:=hz.origin
 have g2:=hr.name
 unfold J4 at g1 g2
 refine Dv z.recs (fun i=>[.i .i64 (i:Int)]) (fun i l=>if l.all (Fp z r)=true then .yld 0 [] else .ret [.b false]) rfl hN (fun i c l hd hi hc=> ?_) ?_
 ·have g3:=(hz.recs.2 c (Ar hc)).name
  unfold J4 at g3
  have key:Ef5.ev S N ([z.pv,r.pv,p]++[.i .i64 (i:Int)])=some (if Fp z r c=true then .yld 1 [.i .i64 ((i:Int)+1)] else .ret [.b false]):=by
   by_cases h1:c.typ=39
   ·have h2:c.typ≠2:=by omega
    rcases Ak (Dr r.name c.name) with h3|h3<;>simp (disch:=omega) only [W6,J1,hc,h1,h3,xe,EVP,EV,simprocAttr]<;>simp [Fp,h1,h3]
   ·by_cases h2:c.typ=2
    ·rcases Ak (Dr r.name c.name) with h3|h3<;>rcases Ak (Dr c.name z.origin) with h4|h4<;>simp (disch:=omega) only [W6,J1,hc,h2,h3,h4,xe,EVP,EV,simprocAttr]<;>simp [Fp,h2,h3,h4]
     by_cases h5:r.typ=1<;>by_cases h6:r.typ=28<;>simp [h5,h6]
    ·simp (disch:=omega) only [W6,hc,h1,h2,xe,EVP,EV,simprocAttr]
     simp [Fp,h1,h2]
  rw [key]
  rcases Ak (Fp z r c) with h|h<;>simp [h,Out.goes]
 ·simp (disch:=omega) [W6,xe,EVP,EV,simprocAttr,Out.goes]
theorem Cj5 (z:Zone) (r:Rec) (hz:z.wf) (hr:r.wf) (hl:z.recs.length≤1000000):S Cv3 2 [z.pv,r.pv]=some [.b (Nw z r)]:=by
 refine Km4 (N:=z.recs.length+1) rfl ?_
 have g1:=hz.origin
 have g2:=hr.name
 unfold J4 at g1 g2
 have g3:=G3 r.name
 have tail:T.ev S (z.recs.length+1) o2 [z.pv,r.pv,Bq (lbl r.name)]=some (.ret [.b (z.recs.all (Fp z r) && (if Dr r.name z.origin && Uw z.recs r.name 2 then Ph r.typ else decide (r.typ≠43)))]):=by
  rcases Ak (z.recs.all (Fp z r)) with h0|h0
  ·rcases Ak (Dr r.name z.origin) with h1|h1<;>rcases Ak (Uw z.recs r.name 2) with h2|h2
   ·simp (disch:=omega) only [W6,Sz z r hz hr,J1,Ol,h0,h1,h2,xe,EVP,EV,simprocAttr]
    simp only [Ph]
    grind
   all_goals simp (disch:=omega) only [W6,Sz z r hz hr,J1,Ol,h0,h1,h2,xe,EVP,EV,simprocAttr]
   all_goals simp
  ·simp (disch:=omega) only [W6,Sz z r hz hr,h0,xe,EVP,EV,simprocAttr]
   simp
 unfold Nw
 cases h:lbl r.name with
 |nil=>
  rw [h] at tail
  simp (disch:=first|omega|(simp;omega)) only [↓tail,W6,J2,h,xe,EVP,EV,simprocAttr]
  simp
 |cons a l=>
  rw [h] at tail
  have g4:0<((a::l).length:Int):=by simp only [A0];omega
  by_cases h1:a=[42]<;>by_cases h2:r.typ=2<;>by_cases h3:r.typ=39
  all_goals first|omega|skip
  all_goals try subst h1
  all_goals simp (disch:=first|omega|(simp;omega)) only [↓tail,W6,J2,h,h2,h3,xe,EVP,EV,simprocAttr]
  all_goals simp [h2,h3, *]
def K2 (z:Zone) (r:Rec):Bool:=under r.name z.origin && !(decide (r.typ=6) && decide (r.name≠z.origin)) && Lr z r && Nw z r
def Ks (z:Zone):Int:=
 if vld z.origin=false then 2
 else if 2048<z.recs.length then 9
 else if z.recs.all (fun r=>decide ((findR z.recs r.name r.typ).length≤64))=false then 9
 else if z.recs.all Mn=false then 5
 else if z.recs≠sortR z.recs then 7
 else if (findR z.recs z.origin 6).length≠1∨Uw z.recs z.origin 2=false then 13
 else if z.recs.all (K2 z)=false then 13
 else 0
theorem Ml (z:Zone) (N:Nat) (hN:z.recs.length<N) (hl:z.recs.length≤1000000) (p:PV):
  Gv2.ev S N [z.pv,p]=some (if z.recs.all (fun r=>decide ((findR z.recs r.name r.typ).length≤64))=true then .yld 0 [] else .ret [.i .i64 9]):=by
 refine Dv z.recs (fun i=>[.i .i64 (i:Int)]) (fun i l=>if l.all (fun r=>decide ((findR z.recs r.name r.typ).length≤64))=true then .yld 0 [] else .ret [.i .i64 9]) rfl hN (fun i c l hd hi hc=> ?_) ?_
 ·by_cases h:(findR z.recs c.name c.typ).length≤64
  ·left
   simp (disch:=omega) only [K6,Kf,hc,xe,EVP,EV,simprocAttr]
   simp [h]
  ·right
   simp (disch:=omega) only [K6,Kf,hc,xe,EVP,EV,simprocAttr]
   simp [h,Out.goes]
 ·simp (disch:=omega) [K6,xe,EVP,EV,simprocAttr,Out.goes]
theorem O7 (z:Zone) (hz:z.wf) (N:Nat) (hN:z.recs.length<N) (hl:z.recs.length≤1000000) (p:PV):
  Gj7.ev S N [z.pv,p]=some (if z.recs.all Mn=true then .yld 0 [] else .ret [.i .i64 5]):=by
 refine Dv z.recs (fun i=>[.i .i64 (i:Int)]) (fun i l=>if l.all Mn=true then .yld 0 [] else .ret [.i .i64 5]) rfl hN (fun i c l hd hi hc=> ?_) ?_
 ·have hw:=hz.recs.2 c (Ar hc)
  rcases Ak (Mn c) with h|h
  ·left
   simp (disch:=omega) only [K6,ib c hw,hc,h,xe,EVP,EV,simprocAttr]
   simp [h]
  ·right
   simp (disch:=omega) only [K6,ib c hw,hc,h,xe,EVP,EV,simprocAttr]
   simp [h,Out.goes]
 ·simp (disch:=omega) [K6,xe,EVP,EV,simprocAttr,Out.goes]
theorem Fn9 (z:Zone) (hz:z.wf) (N:Nat) (hN:z.recs.length<N) (hl:z.recs.length≤1000000) (p1 p2 p3 p4 p5:PV):
  Gj3.ev S N [z.pv,p1,p2,p3,p4,p5]=some (if z.recs.all (K2 z)=true then .yld 0 [] else .ret [.i .i64 13]):=by
 have g1:=hz.origin
 unfold J4 at g1
 refine Dv z.recs (fun i=>[.i .i64 (i:Int)]) (fun i l=>if l.all (K2 z)=true then .yld 0 [] else .ret [.i .i64 13]) rfl hN (fun i c l hd hi hc=> ?_) ?_
 ·have hw:=hz.recs.2 c (Ar hc)
  have g2:=hw.name
  unfold J4 at g2
  have key:Ed2.ev S N ([z.pv,p1,p2,p3,p4,p5]++[.i .i64 (i:Int)])=some (if K2 z c=true then .yld 1 [.i .i64 ((i:Int)+1)] else .ret [.i .i64 13]):=by
   rcases Ak (under c.name z.origin) with h1|h1
   ·by_cases h2:c.typ=6<;>by_cases h3:c.name=z.origin
    all_goals try rw [h3] at h1 g2
    all_goals rcases ch2 (Lr z c) (Nw z c) with e0|⟨e0,e1⟩|⟨e0,e1⟩
    all_goals simp (disch:=omega) only [K6,L0,Ed0,Cj5 z c hz hw,hc,h1,h2,h3,xe,EVP,EV,simprocAttr, *]
    all_goals simp [K2,h1,h2,h3, *]
   ·simp (disch:=omega) only [K6,L0,hc,h1,xe,EVP,EV,simprocAttr]
    simp [K2,h1]
  rw [key]
  rcases Ak (K2 z c) with h|h<;>simp [h,Out.goes]
 ·simp (disch:=omega) [K6,xe,EVP,EV,simprocAttr,Out.goes]
theorem Bz1 (z:Zone) (hz:z.wf):S Cx7 1 [z.pv]=some [.i .i64 (Ks z)]:=by
 refine Kr9 (N:=z.recs.length+1) rfl ?_
 have g1:=hz.origin
 unfold J4 at g1
 unfold Ks
 rcases Ak (vld z.origin) with h1|h1
 ·by_cases h2:2048<z.recs.length
  ·simp (disch:=omega) only [K6,Fg,h1,h2,xe,EVP,EV,simprocAttr]
  ·rcases Ak (z.recs.all (fun r=>decide ((findR z.recs r.name r.typ).length≤64))) with h3|h3
   ·rcases Ak (z.recs.all Mn) with h4|h4
    ·by_cases h5:z.recs=sortR z.recs
     ·by_cases h6:(findR z.recs z.origin 6).length=1
      ·rcases Ak (Uw z.recs z.origin 2) with h7|h7
       ·rcases Ak (z.recs.all (K2 z)) with h8|h8<;>simp (disch:=omega) only [K6,Fg,Ml,O7 z hz,Fn9 z hz,Rl _ hz.recs.2,L4,Kf,Ol,h1,h2,h3,h4,←h5,h6,h7,h8,xe,EVP,EV,simprocAttr]<;>simp
       ·simp (disch:=omega) only [K6,Fg,Ml,O7 z hz,Rl _ hz.recs.2,L4,Kf,Ol,h1,h2,h3,h4,←h5,h6,h7,xe,EVP,EV,simprocAttr]
        simp
      ·simp (disch:=omega) only [K6,Fg,Ml,O7 z hz,Rl _ hz.recs.2,L4,Kf,Ol,h1,h2,h3,h4,←h5,h6,xe,EVP,EV,simprocAttr]
       simp
     ·simp (disch:=omega) only [K6,Fg,Ml,O7 z hz,Rl _ hz.recs.2,L4,h1,h2,h3,h4,h5,xe,EVP,EV,simprocAttr]
    ·simp (disch:=omega) only [K6,Fg,Ml,O7 z hz,h1,h2,h3,h4,xe,EVP,EV,simprocAttr]
   ·simp (disch:=omega) only [K6,Fg,Ml,h1,h2,h3,xe,EVP,EV,simprocAttr]
 ·simp (disch:=omega) only [K6,Fg,h1,xe,EVP,EV,simprocAttr]
end Go.X.G
/- The order of records; what a checked zone is like. -/
namespace Go.X.G
open Go Go.X
theorem TO.prod {α β:Type} {l1:α→α→Prop} {l2:β→β→Prop} (h1:TO l1) (h2:TO l2):TO (fun p q:α×β=>l1 p.1 q.1∨(p.1=q.1∧l2 p.2 q.2)) where
 irr:=fun p h=>by
  rcases h with h|⟨_,h⟩
  ·exact h1.irr _ h
  ·exact h2.irr _ h
 tr:=fun p q r a b=>by
  rcases a with a|⟨a,a'⟩<;>rcases b with b|⟨b,b'⟩
  ·exact .inl (h1.tr _ _ _ a b)
  ·exact .inl (b▸a)
  ·exact .inl (a▸b)
  ·exact .inr ⟨a.trans b,h2.tr _ _ _ a' b'⟩
 tri:=fun p q=>by
  rcases h1.tri p.1 q.1 with a|a|a
  ·exact .inl (.inl a)
  ·rcases h2.tri p.2 q.2 with b|b|b
   ·exact .inl (.inr ⟨a,b⟩)
   ·exact .inr (.inl (Prod.ext a b))
   ·exact .inr (.inr (.inr ⟨a.symm,b⟩))
  ·exact .inr (.inr (.inl a))
theorem Ir6:TO (fun a b:Int=>a<b):=⟨fun a h=>by omega,fun a b c h1 h2=>by omega,fun a b=>by omega⟩
theorem Y1 (a b:Int):ij a b<0↔a<b:=by unfold ij;split<;>(try split)<;>omega
theorem Ht (a b:Int):ij a b=0↔a=b:=by unfold ij;split<;>(try split)<;>omega
abbrev Key:=List UInt8×Int×List UInt8
abbrev ltK:Key→Key→Prop:=fun p q=>ltN p.1 q.1∨(p.1=q.1∧(p.2.1<q.2.1∨(p.2.1=q.2.1∧ltB p.2.2 q.2.2)))
theorem to_K:TO ltK:=to_N.prod (Ir6.prod Em6)
def Em7 (r:Rec):Key:=(r.name,r.typ,Ij r.typ r.data)
abbrev ltR (a b:Rec):Prop:=ltK (Em7 a) (Em7 b)
theorem N2 {r:Rec} (h:Mn r=true):Dy r.typ r.data=true:=by
 unfold Mn at h
 simp only [Av] at h
 exact h.2
theorem Z8 {r:Rec} (h:Mn r=true):vld r.name=true:=by
 unfold Mn at h
 simp only [Av] at h
 exact h.1.1.1.1
theorem Gw7 {t:Int} {a b:Dat} (ha:Dy t a=true) (hb:Dy t b=true):Cm2 t a b=cmpS (Ij t a) (Ij t b):=by
 unfold Cm2;rw [ha,hb];rfl
theorem y6 {a b:Rec} (ha:Mn a=true) (hb:Mn b=true):Nf a b<0↔ltR a b:=by
 unfold Nf ltR ltK Em7
 simp only
 by_cases h1:I0 a.name b.name=0
 ·rw [if_neg (by simp [h1])]
  have e1:=Hs.1 h1
  have n1:¬ltN a.name b.name:=by rw [e1];exact to_N.irr _
  by_cases h2:ij a.typ b.typ=0
  ·rw [if_neg (by simp [h2])]
   have e2:=(Ht _ _).1 h2
   have ha':=N2 ha
   have hb':=N2 hb
   rw [e2] at ha' ⊢
   rw [Gw7 ha' hb',Rf]
   constructor
   ·intro h;exact .inr ⟨e1, .inr ⟨rfl,h⟩⟩
   ·rintro (h|⟨_,h|⟨_,h⟩⟩)
    ·exact absurd h n1
    ·omega
    ·exact h
  ·rw [if_pos h2,Y1]
   have e2:a.typ≠b.typ:=fun e=>h2 ((Ht _ _).2 e)
   constructor
   ·intro h;exact .inr ⟨e1, .inl h⟩
   ·rintro (h|⟨_,h|⟨h,_⟩⟩)
    ·exact absurd h n1
    ·exact h
    ·exact absurd h e2
 ·rw [if_pos h1,E1]
  have e1:a.name≠b.name:=fun e=>h1 (Hs.2 e)
  constructor
  ·intro h;exact .inl h
  ·rintro (h|⟨h,_⟩)
   ·exact h
   ·exact absurd h e1
theorem ik {a b:Rec} (ha:Mn a=true) (hb:Mn b=true):Nf a b=0↔Em7 a=Em7 b:=by
 unfold Nf Em7
 by_cases h1:I0 a.name b.name=0
 ·rw [if_neg (by simp [h1])]
  have e1:=Hs.1 h1
  by_cases h2:ij a.typ b.typ=0
  ·rw [if_neg (by simp [h2])]
   have e2:=(Ht _ _).1 h2
   have ha':=N2 ha
   have hb':=N2 hb
   rw [e2] at ha' ⊢
   rw [Gw7 ha' hb',It]
   simp [e1]
  ·rw [if_pos h2]
   have e2:a.typ≠b.typ:=fun e=>h2 ((Ht _ _).2 e)
   constructor
   ·intro h;exact absurd h h2
   ·intro h;injection h with _ h;injection h with h _;exact absurd h e2
 ·rw [if_pos h1]
  have e1:a.name≠b.name:=fun e=>h1 (Hs.2 e)
  constructor
  ·intro h;exact absurd h h1
  ·intro h;injection h with h _;exact absurd h e1
theorem Tv {x:Rec} (hx:Mn x=true):∀(l:List Rec),(∀r∈l,Mn r=true)→l.Pairwise ltR→(Tw x l).Pairwise ltR
 |[],_,_=>by simp [Tw]
 |y::r,hv,h=>by
  obtain ⟨h1,h2⟩:=As.1 h
  have hy:=hv y (.head _)
  have ih:=Tv hx r (fun w hw=>hv w (.tail _ hw)) h2
  simp only [Tw]
  by_cases c:Nf y x<0
  ·rw [if_pos c]
   refine As.2 ⟨fun w hw=> ?_,ih⟩
   rcases insR_mem x r w hw with rfl|hw
   ·exact (y6 hy hx).1 c
   ·exact h1 w hw
  ·rw [if_neg c]
   by_cases e:Nf y x=0
   ·rw [if_pos e]
    split
    ·have ke:=(ik hy hx).1 e
     refine As.2 ⟨fun w hw=> ?_,h2⟩
     have:=h1 w hw
     show ltK (Em7 x) (Em7 w)
     rw [←ke];exact this
    ·exact h
   ·rw [if_neg e]
    have hxy:ltR x y:=by
     rcases to_K.tri (Em7 x) (Em7 y) with q|q|q
     ·exact q
     ·exact absurd ((ik hy hx).2 q.symm) e
     ·exact absurd ((y6 hy hx).2 q) c
    refine As.2 ⟨fun w hw=> ?_,h⟩
    rcases Al.1 hw with rfl|hw
    ·exact hxy
    ·exact to_K.tr _ _ _ hxy (h1 w hw)
theorem bv (l:List Rec) (hv:∀r∈l,Mn r=true):(sortR l).Pairwise ltR∧∀r∈sortR l,r∈l:=by
 have:∀(l a:List Rec),(∀r∈l,Mn r=true)→(∀r∈a,Mn r=true)→a.Pairwise ltR→(l.foldl (fun acc x=>Tw x acc) a).Pairwise ltR∧∀r∈l.foldl (fun acc x=>Tw x acc) a,r∈a∨r∈l:=by
  intro l
  induction l with
  |nil=>intro a _ _ h;exact ⟨h,fun r hr=> .inl hr⟩
  |cons x r ih=>
   intro a h1 h2 h3
   have hx:=h1 x (.head _)
   obtain ⟨g1,g2⟩:=ih (Tw x a) (fun w hw=>h1 w (.tail _ hw)) (fun w hw=>by
    rcases insR_mem x a w hw with rfl|hw
    ·exact hx
    ·exact h2 w hw) (Tv hx a h2 h3)
   refine ⟨g1,fun w hw=> ?_⟩
   rcases g2 w hw with hw|hw
   ·rcases insR_mem x a w hw with rfl|hw
    ·exact .inr (.head _)
    ·exact .inl hw
   ·exact .inr (.tail _ hw)
 obtain ⟨h1,h2⟩:=this l [] hv (fun r hr=>by cases hr) .nil
 exact ⟨h1,fun r hr=>(h2 r hr).resolve_left (by simp)⟩
structure ZOk (z:Zone):Prop where
 origin:vld z.origin=true
 small:z.recs.length≤2048
 valid:∀r∈z.recs,Mn r=true
 rising:z.recs.Pairwise ltR
 soa:(findR z.recs z.origin 6).length=1
 ns:Uw z.recs z.origin 2=true
 recs:∀r∈z.recs,K2 z r=true
theorem ZOk.beside {z:Zone} (h:ZOk z) {r x:Rec} (hr:r∈z.recs) (hx:x∈z.recs):G6 r x=true:=by
 have:=h.recs r hr
 unfold K2 at this
 simp only [Av] at this
 have h2:=this.1.2
 unfold Lr at h2
 exact By.1 h2 x hx
theorem ZOk.under {z:Zone} (h:ZOk z) {r:Rec} (hr:r∈z.recs):under r.name z.origin=true:=by
 have:=h.recs r hr
 unfold K2 at this
 simp only [Av] at this
 exact this.1.1.1
theorem ZOk.single {z:Zone} (h:ZOk z) (n:List UInt8) (t:Int) (ht:t=6∨t=5∨t=39):(findR z.recs n t).length≤1:=by
 have hp:(findR z.recs n t).Pairwise ltR:=h.rising.filter _
 have hm:∀x∈findR z.recs n t,x∈z.recs∧x.name=n∧x.typ=t:=fun x hx=>by
  obtain ⟨h1,h2⟩:=Bs.1 hx
  simp only [isK,Av,decide_eq_true_eq] at h2
  exact ⟨h1,h2.1,h2.2⟩
 generalize findR z.recs n t=l at*
 match l,hp,hm with
 |[],_,_=>simp
 |[_],_,_=>simp
 |a::b::r,hp,hm=>
  exfalso
  have hab:ltR a b:=(As.1 hp).1 b (.head _)
  obtain ⟨a1,a2,a3⟩:=hm a (.head _)
  obtain ⟨b1,b2,b3⟩:=hm b (.tail _ (.head _))
  have hb:=h.beside a1 b1
  have e:b=a:=by
   unfold G6 at hb
   rw [a2,a3,b2,b3] at hb
   have ht':(decide (t=6)||decide (t=5)||decide (t=39))=true:=by rcases ht with h|h|h<;>simp [h]
   rw [ht'] at hb
   simp only [decide_true,Kh,Kl,Pj,Bool.true_and,Av,A9,decide_eq_false_iff_not,ne_eq,Nn] at hb
   exact hb.1.2
  rw [e] at hab
  exact to_K.irr _ hab
end Go.X.G
/- Sorted lists of names, each once. -/
namespace Go.X.G
open Go Go.X
def Q2 {α:Type} (e:α→α→Bool):α→List α→List α
 |_,[]=>[]
 |p,c::r=>if e c p=true then Q2 e c r else c::Q2 e c r
def cpt {α:Type} (e:α→α→Bool):List α→List α
 |[]=>[]
 |x::r=>x::Q2 e x r
theorem g9 {α:Type} (e:α→α→Bool) (c:α):∀(r:List α) (p:α),Q2 e p (r++[c])=Q2 e p r++(if e c ((p::r).getLast (by simp))=true then [] else [c])
 |[],p=>by
  simp only [Cd,Q2,List.getLast_singleton]
  rfl
 |x::r,p=>by
  have ih:=g9 e c r x
  simp only [B3,Q2,List.getLast_cons_cons]
  split
  ·exact ih
  ·rw [ih];rfl
theorem Md {α:Type} (e:α→α→Bool) (c:α) (l:List α) (h:l≠[]):cpt e (l++[c])=cpt e l++(if e c (l.getLast h)=true then [] else [c]):=by
 cases l with
 |nil=>exact absurd rfl h
 |cons x r=>
  show x::Q2 e x (r++[c])=_
  rw [g9];rfl
theorem y1 {α:Type} (e:α→α→Bool):∀(r:List α) (p:α),(Q2 e p r).length≤r.length
 |[],_=>by simp [Q2]
 |c::r,p=>by
  have:=y1 e r c
  simp only [Q2]
  split<;>simp<;>omega
theorem Tt {α:Type} (e:α→α→Bool) (l:List α):(cpt e l).length≤l.length:=by
 cases l with
 |nil=>simp [cpt]
 |cons x r=>have:=y1 e r x;simp [cpt];exact this
theorem Ys {α:Type} (e:α→α→Bool):∀(r:List α) (p:α),∀x∈Q2 e p r,x∈r
 |[],_,x,h=>by simp [Q2] at h
 |c::r,p,x,h=>by
  simp only [Q2] at h
  split at h
  ·exact .tail _ (Ys e r c x h)
  ·rcases Al.1 h with rfl|h
   ·exact .head _
   ·exact .tail _ (Ys e r c x h)
theorem Iw7 {α:Type} (e:α→α→Bool) (l:List α):∀x∈cpt e l,x∈l:=by
 cases l with
 |nil=>intro x h;simp [cpt] at h
 |cons y r=>
  intro x h
  rcases Al.1 (show x∈y::Q2 e y r from h) with rfl|h
  ·exact .head _
  ·exact .tail _ (Ys e r y x h)
abbrev eqs {α:Type} [DecidableEq α]:α→α→Bool:=fun a b=>decide (a=b)
theorem cptG_mem {α:Type} [DecidableEq α]:∀(r:List α) (p x:α),x∈r→x=p∨x∈Q2 eqs p r
 |[],_,x,h=>by simp at h
 |c::r,p,x,h=>by
  simp only [Q2]
  by_cases hc:c=p
  ·subst hc
   rw [if_pos (by simp [eqs])]
   rcases Al.1 h with rfl|h
   ·exact .inl rfl
   ·exact cptG_mem r c x h
  ·rw [if_neg (by simp [eqs,hc])]
   right
   rcases Al.1 h with rfl|h
   ·exact .head _
   ·rcases cptG_mem r c x h with rfl|h
    ·exact .head _
    ·exact .tail _ h
theorem Iw8 {α:Type} [DecidableEq α] (l:List α) (x:α):x∈cpt eqs l↔x∈l:=by
 refine ⟨Iw7 _ l x,fun h=> ?_⟩
 cases l with
 |nil=>simp at h
 |cons y r=>
  rcases Al.1 h with rfl|h
  ·exact .head _
  ·rcases cptG_mem r y x h with rfl|h
   ·exact .head _
   ·exact .tail _ h
theorem T1 {α:Type} [DecidableEq α] {lt:α→α→Prop} (ht:TO lt):∀(r:List α) (p:α),(p::r).Pairwise (fun a b=>¬lt b a)→(p::Q2 eqs p r).Pairwise lt
 |[],p,_=>by simp [Q2]
 |c::r,p,h=>by
  rw [As] at h
  have ih:=T1 ht r c h.2
  simp only [Q2]
  by_cases hc:c=p
  ·subst hc
   rw [if_pos (by simp [eqs])]
   exact ih
  ·rw [if_neg (by simp [eqs,hc])]
   rw [As]
   refine ⟨fun x hx=> ?_,ih⟩
   have hpc:lt p c:=by
    rcases ht.tri p c with h1|h1|h1
    ·exact h1
    ·exact absurd h1.symm hc
    ·exact absurd h1 (h.1 c (.head _))
   rcases Al.1 hx with rfl|hx
   ·exact hpc
   ·exact ht.tr _ _ _ hpc ((As.1 ih).1 x hx)
theorem Bx2 {α:Type} [DecidableEq α] {lt:α→α→Prop} (ht:TO lt) (l:List α) (h:l.Pairwise (fun a b=>¬lt b a)):(cpt eqs l).Pairwise lt:=by
 cases l with
 |nil=>simp [cpt]
 |cons x r=>exact T1 ht r x h
theorem Sx {α:Type} {lt:α→α→Prop} (ht:TO lt):∀(a b:List α),a.Pairwise lt→b.Pairwise lt→(∀x,x∈a↔x∈b)→a=b
 |[],[],_,_,_=>rfl
 |[],y::b,_,_,h=>absurd ((h y).2 (.head _)) (by simp)
 |x::a,[],_,_,h=>absurd ((h x).1 (.head _)) (by simp)
 |x::a,y::b,ha,hb,h=>by
  rw [As] at ha hb
  have hxy:x=y:=by
   rcases Al.1 ((h x).1 (.head _)) with h1|h1
   ·exact h1
   ·rcases Al.1 ((h y).2 (.head _)) with h2|h2
    ·exact h2.symm
    ·exact absurd (hb.1 x h1) (ht.asym (ha.1 y h2))
  subst hxy
  rw [Sx ht a b ha.2 hb.2 fun z=> ?_]
  constructor
  ·intro hz
   rcases Al.1 ((h z).1 (.tail _ hz)) with rfl|h1
   ·exact absurd (ha.1 z hz) (ht.irr z)
   ·exact h1
  ·intro hz
   rcases Al.1 ((h z).2 (.tail _ hz)) with rfl|h1
   ·exact absurd (hb.1 z hz) (ht.irr z)
   ·exact h1
def setN (l:List (List UInt8)):List (List UInt8):=cpt eqs (l.mergeSort fun x y=> !decide (I0 y x<0))
theorem Hs8 (l:List (List UInt8)):(l.mergeSort fun x y=> !decide (I0 y x<0)).Pairwise (fun a b=>¬ltN b a):=by
 have:=List.pairwise_mergeSort (le:=fun x y:List UInt8=> !decide (I0 y x<0)) (fun a b c h1 h2=>by
  simp only [A9,decide_eq_false_iff_not,E1] at h1 h2 ⊢
  exact to_N.ntr h2 h1) (fun a b=>by
  simp only [Am,A9,decide_eq_false_iff_not,E1]
  rcases to_N.tri a b with h|h|h
  ·exact .inl (to_N.asym h)
  ·subst h;exact .inl (to_N.irr a)
  ·exact .inr (to_N.asym h)) l
 refine this.imp fun {a b} h=> ?_
 simpa only [A9,decide_eq_false_iff_not,E1] using h
theorem Nk (l:List (List UInt8)):(setN l).Pairwise ltN:=Bx2 to_N _ (Hs8 l)
theorem J9 (l:List (List UInt8)) (x:List UInt8):x∈setN l↔x∈l:=by
 unfold setN
 rw [Iw8]
 exact (List.mergeSort_perm _ _).mem_iff
theorem Xf (l:List (List UInt8)):(setN l).length≤l.length:=by
 have:=Tt eqs (l.mergeSort fun x y=> !decide (I0 y x<0))
 rw [jz] at this
 exact this
end Go.X.G
/- Names on the way up; delegations above a name. -/
namespace Go.X.G
open Go Go.X
def upN (o n:List UInt8):List (List UInt8):=(List.range ((lbl n).length - (lbl o).length+1)).map fun k=>jn ((lbl n).drop k)
theorem Rt {o n x:List UInt8} (h:under n o=true):x∈upN o n↔under n x=true∧under x o=true:=by
 obtain ⟨hn,ho,hs⟩:=C5.1 h
 have hle:=hs.length_le
 rw [I5] at hs
 unfold upN
 rw [D5]
 constructor
 ·rintro ⟨k,hk,rfl⟩
  rw [E9] at hk
  obtain ⟨v1,v2⟩:=Q6 hn k
  refine ⟨C5.2 ⟨hn,v1,by rw [v2];exact List.drop_suffix _ _⟩,C5.2 ⟨v1,ho,?_⟩⟩
  rw [v2,hs]
  have:(lbl n).length - (lbl o).length=k+((lbl n).length - (lbl o).length - k):=by omega
  rw [this,←C4]
  exact List.drop_suffix _ _
 ·rintro ⟨h1,h2⟩
  obtain ⟨_,hx,h3⟩:=C5.1 h1
  obtain ⟨_,_,h4⟩:=C5.1 h2
  have l1:=h3.length_le
  have l2:=h4.length_le
  rw [I5] at h3
  refine ⟨(lbl n).length - (lbl x).length,?_,?_⟩
  ·rw [E9];omega
  ·rw [←h3];exact (Rs hx).symm
theorem js (o n:List UInt8):(upN o n).length≤256:=by
 have:=G3 n
 simp [upN];omega
theorem Xv {o n:List UInt8} {k:Nat} (hk:k≤(lbl n).length - (lbl o).length):(upN o n)[k]? =some (jn ((lbl n).drop k)):=by
 unfold upN
 rw [Bh,Cv (by omega)];rfl
theorem Cd7 {n:List UInt8} (h:vld n=true):jn ((lbl n).drop 0)=n:=by rw [D1];exact (Rs h).symm
theorem sj {o n:List UInt8} (h:under n o=true) {k:Nat} (hk:k≤(lbl n).length - (lbl o).length):jn ((lbl n).drop k)=o↔k=(lbl n).length - (lbl o).length:=by
 obtain ⟨hn,ho,hs⟩:=C5.1 h
 have hle:=hs.length_le
 rw [I5] at hs
 obtain ⟨v1,v2⟩:=Q6 hn k
 constructor
 ·intro e
  have:=congrArg (fun x=>(lbl x).length) e
  simp only [v2,Bt] at this
  omega
 ·rintro rfl
  rw [←hs];exact (Rs ho).symm
theorem Fr4 {o n:List UInt8} (h:under n o=true) {k:Nat} (hk:k<(lbl n).length - (lbl o).length):X2 (jn ((lbl n).drop k))=jn ((lbl n).drop (k+1))∧yd (jn ((lbl n).drop k))=true:=by
 obtain ⟨hn,ho,hs⟩:=C5.1 h
 obtain ⟨v1,v2⟩:=Q6 hn k
 have hne:jn ((lbl n).drop k)≠[46]:=by
  intro e
  have:=(Ij1 v1).2 e
  rw [v2] at this
  have:=congrArg List.length this
  simp at this
  omega
 unfold X2 yd
 rw [if_pos ⟨v1,hne⟩,v2,C4]
 exact ⟨rfl,by simp [v1,hne]⟩
theorem Yc (l:List (List UInt8)) (i j:Nat) (h:i<j) (hj:j≤l.length):(flat (l.drop j)).length<(flat (l.drop i)).length:=by
 have e:l.drop i=(l.drop i).take (j - i)++l.drop j:=by
  have:=(Bl (j - i) (l.drop i)).symm
  rw [C4,show i+(j - i)=j by omega] at this
  exact this
 rw [e,Yd,Az]
 have:0<(flat ((l.drop i).take (j - i))).length:=by
  cases hc:(l.drop i).take (j - i) with
  |nil=>
   have:=congrArg List.length hc
   simp at this;omega
  |cons x r=>simp [flat];omega
 omega
theorem Eh7 {n a b:List UInt8} (ha:under n a=true) (hb:under n b=true):a.length<b.length↔(lbl a).length<(lbl b).length:=by
 have key:∀{a b:List UInt8},under n a=true→under n b=true→(lbl a).length<(lbl b).length→a.length<b.length:=by
  intro a b ha hb hl
  obtain ⟨hn,va,sa⟩:=C5.1 ha
  obtain ⟨_,vb,sb⟩:=C5.1 hb
  have la:=sa.length_le
  have lb:=sb.length_le
  rw [I5] at sa sb
  rw [Rs va,Rs vb]
  have hbne:lbl b≠[]:=fun e=>by rw [e] at hl;simp at hl
  have e2:jn (lbl b)=flat (lbl b):=by unfold jn;rw [if_neg hbne]
  rw [e2]
  by_cases ha0:lbl a=[]
  ·have e1:jn (lbl a)=[46]:=by unfold jn;rw [if_pos ha0]
   rw [e1]
   have:=Jx (rt vb) hbne
   simp;omega
  ·have e1:jn (lbl a)=flat (lbl a):=by unfold jn;rw [if_neg ha0]
   rw [e1,sa,sb]
   exact Yc _ _ _ (by omega) (by omega)
 constructor
 ·intro h
  rcases Nat.lt_or_ge (lbl a).length (lbl b).length with h1|h1
  ·exact h1
  ·rcases Nat.lt_or_eq_of_le h1 with h2|h2
   ·have:=key hb ha h2;omega
   ·obtain ⟨_,va,sa⟩:=C5.1 ha
    obtain ⟨_,vb,sb⟩:=C5.1 hb
    rw [I5] at sa sb
    have:a=b:=S8 va vb (by rw [sa,sb,h2])
    subst this;omega
 ·exact key ha hb
def Dw (z:Zone) (r:Rec):Bool:=decide (r.typ=2) && Dr r.name z.origin
def En0 (z:Zone) (n:List UInt8):List UInt8→List Rec→List UInt8
 |b,[]=>b
 |b,r::rs=>En0 z n (if Dw z r && under n r.name && (decide (b=[])||decide ((lbl r.name).length<(lbl b).length)) then r.name else b) rs
def oj (z:Zone) (n:List UInt8):List UInt8:=En0 z n [] z.recs
def jk (z:Zone) (n:List UInt8):Bool:=z.recs.any fun r=>Dw z r && decide (r.name≠n) && under n r.name
def Ih6 (z:Zone):List (List UInt8):=(z.recs.filter fun r=>under r.name z.origin && !jk z r.name).flatMap fun r=>upN z.origin r.name
def namesN (z:Zone):List (List UInt8):=setN (Ih6 z)
def Gv6 (z:Zone) (x:List UInt8):Prop:=∃r∈z.recs,under r.name z.origin=true∧jk z r.name=false∧under r.name x=true∧under x z.origin=true
theorem Ah1 (z:Zone) (x:List UInt8):x∈Ih6 z↔Gv6 z x:=by
 unfold Ih6 Gv6
 simp only [List.mem_flatMap,Bs,Av,A9]
 constructor
 ·rintro ⟨r,⟨hr,h1,h2⟩,h3⟩
  obtain ⟨h4,h5⟩:=(Rt h1).1 h3
  exact ⟨r,hr,h1,h2,h4,h5⟩
 ·rintro ⟨r,hr,h1,h2,h4,h5⟩
  exact ⟨r,⟨hr,h1,h2⟩,(Rt h1).2 ⟨h4,h5⟩⟩
theorem Fc9 (z:Zone) (l:List (List UInt8)) (h:∀x,x∈l↔Gv6 z x):setN l=namesN z:=
 Sx to_N _ _ (Nk _) (Nk _) fun x=>by rw [J9,h,namesN,J9,Ah1]
theorem As8 (z:Zone) (x:List UInt8):x∈namesN z↔Gv6 z x:=by
 unfold namesN;rw [J9,Ah1]
end Go.X.G
/- Zones by the names of their records: groups of a sorted list, in plain words. -/
namespace Go.X.G
open Go Go.X
theorem Cy8 {α:Type} {lt:α→α→Prop}:∀(p q:List α),p<+:q→p≠q→lex lt p q
 |[],[],_,h=>absurd rfl h
 |[],_::_,_,_=>trivial
 |a::p,[],h,_=>by simp at h
 |a::p,b::q,h,hne=>by
  obtain ⟨rfl,hpq⟩:=L5.1 h
  exact .inr ⟨rfl,Cy8 p q hpq fun e=>hne (by rw [e])⟩
theorem Cy9 {α:Type} {lt:α→α→Prop} (ht:TO lt):∀(p q x:List α),p<+:q→¬lex lt x p→¬lex lt q x→p<+:x
 |[],_,_,_,_,_=>List.nil_prefix
 |a::p,[],_,h,_,_=>by simp at h
 |a::p,b::q,[],_,h,_=>absurd trivial h
 |a::p,b::q,c::x,h,h1,h2=>by
  obtain ⟨rfl,hpq⟩:=L5.1 h
  simp only [lex,not_or,not_and] at h1 h2
  have e:a=c:=by
   rcases ht.tri a c with k|k|k
   ·exact absurd k h2.1
   ·exact k
   ·exact absurd k h1.1
  subst e
  exact L5.2 ⟨rfl,Cy9 ht p q x hpq (h1.2 rfl) (h2.2 rfl)⟩
theorem Ht3 {a b:List UInt8} (ha:vld a=true) (hb:vld b=true):ltN a b↔ltL (lbl a).reverse (lbl b).reverse:=by
 unfold ltN;rw [if_pos ha,if_pos hb]
theorem Z9 {n top:List UInt8} (h:under n top=true):(lbl top).reverse<+:(lbl n).reverse:=List.reverse_prefix.2 (C5.1 h).2.2
theorem Ep7 {n top:List UInt8} (h:under n top=true) (hne:n≠top):ltN top n:=by
 obtain ⟨h1,h2,h3⟩:=C5.1 h
 rw [Ht3 h2 h1]
 refine Cy8 _ _ (Z9 h) fun e=>hne ?_
 exact (S8 h2 h1 (List.reverse_inj.1 e)).symm
theorem Bf2 {d x n:List UInt8} (hx:vld x=true) (h:under n d=true) (h1:¬ltN x d) (h2:¬ltN n x):under x d=true:=by
 obtain ⟨k1,k2,k3⟩:=C5.1 h
 rw [Ht3 hx k2] at h1
 rw [Ht3 k1 hx] at h2
 exact C5.2 ⟨hx,k2,List.reverse_prefix.1 (Cy9 Em6 _ _ _ (Z9 h) h1 h2)⟩
theorem Bb4 {a b c:List UInt8} (h1:under a b=true) (h2:under b c=true):under a c=true:=by
 obtain ⟨a1,a2,a3⟩:=C5.1 h1
 obtain ⟨b1,b2,b3⟩:=C5.1 h2
 exact C5.2 ⟨a1,b2,b3.trans a3⟩
def Ul (p:List Rec):List Rec→List (List Rec)
 |[]=>[]
 |x::r=>if (match r with|[]=>true|y::_=> !decide (y.name=x.name))=true then (p++[x])::Ul [] r else Ul (p++[x]) r
def grp (l:List Rec):List (List Rec):=Ul [] l
def nmG (g:List Rec):List UInt8:=match g with|[]=>[]|x::_=>x.name
theorem f3 (n:List UInt8):∀(r p:List Rec) (x:Rec),x.name=n→(∀y∈p,y.name=n)→∃g l',x::r=g++l'∧g≠[]∧(∀y∈g,y.name=n)∧(∀y,l'.head? =some y→y.name≠n)∧Ul p (x::r)=(p++g)::grp l'
 |[],p,x,hx,hp=>⟨[x],[],rfl,by simp,by simpa using hx,by simp,rfl⟩
 |y::r,p,x,hx,hp=>by
  by_cases h:y.name=x.name
  ·obtain ⟨g,l',h1,h2,h3,h4,h5⟩:=f3 n r (p++[x]) y (by rw [h,hx]) (fun w hw=>by
    rcases Br.1 hw with hw|hw
    ·exact hp w hw
    ·have:w=x:=by simpa using hw
     rw [this,hx])
   refine ⟨x::g,l',by rw [h1];rfl,by simp,fun w hw=> ?_,h4,?_⟩
   ·rcases Al.1 hw with rfl|hw
    ·exact hx
    ·exact h3 w hw
   ·rw [Ul,if_neg (by simp [h]),h5]
    simp
  ·refine ⟨[x],y::r,rfl,by simp,by simpa using hx,fun w hw=> ?_,?_⟩
   ·simp at hw;subst hw;rw [←hx];exact h
   ·rw [Ul,if_pos (by simp [h])]
    rfl
theorem Rw (x:Rec) (r:List Rec):∃g l',x::r=g++l'∧g≠[]∧(∀y∈g,y.name=x.name)∧(∀y,l'.head? =some y→y.name≠x.name)∧grp (x::r)=g::grp l':=by
 obtain ⟨g,l',h1,h2,h3,h4,h5⟩:=f3 x.name r [] x rfl (by simp)
 exact ⟨g,l',h1,h2,h3,h4,by rw [grp,h5];rfl⟩
theorem Ft7 {g:List Rec} {n:List UInt8} (h:g≠[]) (h2:∀y∈g,y.name=n):nmG g=n:=by
 cases g with
 |nil=>exact absurd rfl h
 |cons x r=>exact h2 x (.head _)
abbrev Jy4 (l:List Rec):Prop:=l.Pairwise fun a b=>¬ltN b.name a.name
def F7 (g:List Rec) (t:Int):Bool:=g.any fun r=>decide (r.typ=t)
def I4 (g:List Rec) (ts:List Int):Bool:=g.all fun r=>decide (r.typ∈ts)
def U5 (p:Rec):List Rec→Bool
 |[]=>true
 |x::r=>(!decide (x.typ=p.typ)||(!(decide (x.typ=6)||decide (x.typ=5)||decide (x.typ=39)) && (decide (x.typ=46)||decide (x.ttl=p.ttl)))) && U5 x r
def Em5 (g:List Rec):Bool:=match g with|[]=>true|x::r=>U5 x r
def propG (o:List UInt8) (g:List Rec) (cut red:Bool):Bool:=
 under (nmG g) o && (decide (F7 g 6=decide (nmG g=o))) && Em5 g && (!decide (nmG g=o)||F7 g 2) && (!F7 g 5||I4 g [5,46,47]) && !red && (!cut||I4 g [1,28]) &&
  (if (!decide (nmG g=o) && F7 g 2)=true then I4 g [2,43,47,46,1,28] else !F7 g 43) && (!decide ((nmG g)[0]? =some 42)||(!F7 g 2 && !F7 g 39))
def Dp (n c:List UInt8):List UInt8:=if c≠[]∧under n c=false then [] else c
def oy (o:List UInt8):List (List Rec)→List UInt8→List UInt8→Bool→Bool
 |[],_,_,soa=>soa
 |g::gs,cut,red,soa=>
  if propG o g (decide (Dp (nmG g) cut≠[])) (decide (Dp (nmG g) red≠[]))=true then
   oy o gs (if Dp (nmG g) cut=[]∧nmG g≠o∧F7 g 2=true then nmG g else Dp (nmG g) cut) (if F7 g 39=true then nmG g else Dp (nmG g) red) (soa||decide (nmG g=o))
  else false
def Hp5 (z:Zone) (n:List UInt8):Bool:=z.recs.any fun r=>decide (r.typ=39) && Dr n r.name
def cj (z:Zone) (g:List Rec):Bool:=propG z.origin g (jk z (nmG g)) (Hp5 z (nmG g))
theorem jc {n:List UInt8} (h:vld n=true):n≠[]:=fun e=>by
 subst e
 have:vld []=false:=by decide
 rw [this] at h;cases h
structure GInv (z:Zone) (done l:List Rec) (cut red:List UInt8):Prop where
 cut1:cut≠[]→∃r∈done,Dw z r=true∧r.name=cut
 cut2:∀m∈l,∀r∈done,Dw z r=true→under m.name r.name=true→cut≠[]∧under m.name cut=true
 red1:red≠[]→∃r∈done,r.typ=39∧r.name=red
 red2:∀m∈l,∀r∈done,r.typ=39→under m.name r.name=true→red≠[]∧under m.name red=true
theorem kt {o:List UInt8} {g:List Rec} {c r:Bool} (h:propG o g c r=true):under (nmG g) o=true∧r=false:=by
 unfold propG at h
 simp only [Av,A9] at h
 exact ⟨h.1.1.1.1.1.1.1.1,h.1.1.1.2⟩
theorem y8 (z:Zone) (hv:∀r∈z.recs,vld r.name=true) (hs:Jy4 z.recs):∀(n:Nat) (done l:List Rec) (cut red:List UInt8) (soa:Bool),l.length≤n→z.recs=done++l→(∀a∈done,∀b∈l,ltN a.name b.name)→GInv z done l cut red→
  (oy z.origin (grp l) cut red soa=true↔(∀g∈grp l,cj z g=true)∧(soa=true∨∃r∈l,r.name=z.origin))
 |n,done,[],cut,red,soa,_,_,_,_=>by simp [grp,Ul,oy]
 |0,done,x::r,cut,red,soa,hn,_,_,_=>by simp at hn
 |n+1,done,x::r,cut,red,soa,hn,hz,hlt,hI=>by
  obtain ⟨g,l',h1,h2,h3,h4,h5⟩:=Rw x r
  have hnm:nmG g=x.name:=Ft7 h2 h3
  have hmem:∀y∈g,y∈x::r:=fun y hy=>by rw [h1];exact Cg _ hy
  have hmem':∀y∈l',y∈x::r:=fun y hy=>by rw [h1];exact Bg _ hy
  have hzx:∀y∈x::r,y∈z.recs:=fun y hy=>by rw [hz];exact Bg _ hy
  have hvx:vld x.name=true:=hv x (hzx x (.head _))
  have hgl:∀b∈l',ltN x.name b.name:=by
   have hs2:Jy4 (g++l'):=by
    rw [←h1];have:=hs;rw [hz] at this;exact (E8.1 this).2.1
   have hs3:=E8.1 hs2
   cases l' with
   |nil=>intro b hb;cases hb
   |cons y l''=>
    have hy:ltN x.name y.name:=by
     obtain ⟨w,hw⟩:=Ff g h2
     have k:=hs3.2.2 w hw y (.head _)
     rw [h3 w hw] at k
     rcases to_N.tri x.name y.name with q|q|q
     ·exact q
     ·exact absurd q.symm (h4 y rfl)
     ·exact absurd q k
    intro b hb
    rcases Al.1 hb with rfl|hb
    ·exact hy
    ·have k:=(As.1 hs3.2.1).1 b hb
     rcases to_N.tri y.name b.name with q|q|q
     ·exact to_N.tr _ _ _ hy q
     ·rw [←q];exact hy
     ·exact absurd q k
  have habove:∀w∈z.recs,under x.name w.name=true→x.name≠w.name→w∈done:=fun w hw hu hne=>by
   rw [hz] at hw
   rcases Br.1 hw with hw|hw
   ·exact hw
   ·exfalso
    have k:=Ep7 hu hne
    rw [h1] at hw
    rcases Br.1 hw with hw|hw
    ·exact hne (h3 w hw).symm
    ·exact to_N.asym k (hgl w hw)
  have hcut:decide (Dp x.name cut≠[])=jk z x.name:=by
   rw [C1,decide_eq_true_eq]
   unfold jk Dp
   rw [B8]
   constructor
   ·intro k
    have c0:cut≠[]:=fun e=>by rw [e] at k;simp at k
    have c1:under x.name cut=true:=by
     rcases Ak (under x.name cut) with q|q
     ·exact q
     ·rw [if_pos ⟨c0,q⟩] at k;exact absurd rfl k
    obtain ⟨w,w1,w2,w3⟩:=hI.cut1 c0
    refine ⟨w,by rw [hz];exact Cg _ w1,?_⟩
    have:w.name≠x.name:=fun e=>to_N.irr _ (by have:=hlt w w1 x (.head _);rw [e] at this;exact this)
    rw [w2,w3]
    rw [w3] at this
    simp [this,c1]
   ·rintro ⟨w,w1,w2⟩
    simp only [Av,decide_eq_true_eq] at w2
    have wd:=habove w w1 w2.2 (fun e=>w2.1.2 e.symm)
    obtain ⟨c0,c1⟩:=hI.cut2 x (.head _) w wd w2.1.1 w2.2
    rw [if_neg (by simp [c1])]
    exact c0
  have hred:decide (Dp x.name red≠[])=Hp5 z x.name:=by
   rw [C1,decide_eq_true_eq]
   unfold Hp5 Dp Dr
   rw [B8]
   constructor
   ·intro k
    have c0:red≠[]:=fun e=>by rw [e] at k;simp at k
    have c1:under x.name red=true:=by
     rcases Ak (under x.name red) with q|q
     ·exact q
     ·rw [if_pos ⟨c0,q⟩] at k;exact absurd rfl k
    obtain ⟨w,w1,w2,w3⟩:=hI.red1 c0
    refine ⟨w,by rw [hz];exact Cg _ w1,?_⟩
    have:x.name≠w.name:=fun e=>to_N.irr _ (by have:=hlt w w1 x (.head _);rw [e] at this;exact this)
    rw [w3] at this ⊢
    simp [this,c1,w2]
   ·rintro ⟨w,w1,w2⟩
    simp only [Av,decide_eq_true_eq] at w2
    have wd:=habove w w1 w2.2.2 w2.2.1
    obtain ⟨c0,c1⟩:=hI.red2 x (.head _) w wd w2.1 w2.2.2
    rw [if_neg (by simp [c1])]
    exact c0
  have hex:(∃w∈x::r,w.name=z.origin)↔(x.name=z.origin∨∃w∈l',w.name=z.origin):=by
   rw [h1]
   constructor
   ·rintro ⟨w,w1,w2⟩
    rcases Br.1 w1 with w1|w1
    ·exact .inl (by rw [←h3 w w1];exact w2)
    ·exact .inr ⟨w,w1,w2⟩
   ·rintro (k|⟨w,w1,w2⟩)
    ·obtain ⟨w,hw⟩:=Ff g h2
     exact ⟨w,Cg _ hw,by rw [h3 w hw];exact k⟩
    ·exact ⟨w,Bg _ w1,w2⟩
  rw [h5,hex]
  simp only [oy,hnm,Al,forall_eq_or_imp]
  have hp0:cj z g=propG z.origin g (jk z x.name) (Hp5 z x.name):=by unfold cj;rw [hnm]
  rw [hp0]
  rw [hcut,hred]
  by_cases hp:propG z.origin g (jk z x.name) (Hp5 z x.name)=true
  ·rw [if_pos hp]
   obtain ⟨pu,pr⟩:=kt hp
   rw [hnm] at pu
   have hlen:=congrArg List.length h1
   have hg0:0<g.length:=Bw.2 h2
   simp only [Az,A0] at hlen hn
   have hmid:∀m∈l',∀w∈done,under m.name w.name=true→under x.name w.name=true:=fun m hm w hw hu=>
    Bf2 hvx hu (fun k=>to_N.asym (hlt w hw x (.head _)) k) (fun k=>to_N.asym (hgl m hm) k)
   have hredE:Dp x.name red=[]:=by
    have:=hred;rw [pr] at this;simpa using this
   have ih:=y8 z hv hs n (done++g) l' (if Dp x.name cut=[]∧x.name≠z.origin∧F7 g 2=true then x.name else Dp x.name cut) (if F7 g 39=true then x.name else Dp x.name red) (soa||decide (x.name=z.origin)) (by omega) (by rw [hz,h1,Ap])
    (fun a ha b hb=>by
     rcases Br.1 ha with ha|ha
     ·exact hlt a ha b (hmem' b hb)
     ·rw [h3 a ha];exact hgl b hb)
    ⟨?_,?_,?_,?_⟩
   ·rw [ih]
    simp only [Am,decide_eq_true_eq,hp,true_and]
    constructor
    ·rintro ⟨k1,(k2|k2)|k2⟩
     ·exact ⟨k1, .inl k2⟩
     ·exact ⟨k1, .inr (.inl k2)⟩
     ·exact ⟨k1, .inr (.inr k2)⟩
    ·rintro ⟨k1,k2|k2|k2⟩
     ·exact ⟨k1, .inl (.inl k2)⟩
     ·exact ⟨k1, .inl (.inr k2)⟩
     ·exact ⟨k1, .inr k2⟩
   ·-- the cut is one
    intro k
    by_cases c:Dp x.name cut=[]∧x.name≠z.origin∧F7 g 2=true
    ·rw [if_pos c]
     obtain ⟨w,w1,w2⟩:=B8.1 c.2.2
     simp only [decide_eq_true_eq] at w2
     refine ⟨w,Bg _ w1,?_,h3 w w1⟩
     unfold Dw Dr
     rw [h3 w w1]
     simp [w2,pu,c.2.1]
    ·rw [if_neg c] at k ⊢
     have c0:cut≠[]:=fun e=>by rw [e] at k;simp [Dp] at k
     have c1:Dp x.name cut=cut:=by
      unfold Dp at k ⊢
      by_cases q:cut≠[]∧under x.name cut=false
      ·rw [if_pos q] at k;exact absurd rfl k
      ·rw [if_neg q]
     rw [c1]
     obtain ⟨w,w1,w2⟩:=hI.cut1 c0
     exact ⟨w,Cg _ w1,w2⟩
   ·intro m hm w hw hc hu
    rcases Br.1 hw with hw|hw
    ·have hxu:=hmid m hm w hw hu
     obtain ⟨c0,c1⟩:=hI.cut2 x (.head _) w hw hc hxu
     obtain ⟨_,c2⟩:=hI.cut2 m (hmem' m hm) w hw hc hu
     have c3:Dp x.name cut=cut:=by unfold Dp;rw [if_neg (by simp [c1])]
     rw [c3,if_neg (by simp [c0])]
     exact ⟨c0,c2⟩
    ·rw [h3 w hw] at hu
     have hc':=hc
     unfold Dw Dr at hc'
     rw [h3 w hw] at hc'
     simp only [Av,decide_eq_true_eq] at hc'
     have hns:F7 g 2=true:=B8.2 ⟨w,hw,by simp [hc'.1]⟩
     by_cases c:Dp x.name cut=[]
     ·rw [if_pos ⟨c,hc'.2.1,hns⟩]
      exact ⟨jc hvx,hu⟩
     ·rw [if_neg (by simp [c])]
      have q:¬(cut≠[]∧under x.name cut=false):=fun q=>c (by unfold Dp;rw [if_pos q])
      have c1:Dp x.name cut=cut:=by unfold Dp;rw [if_neg q]
      rw [c1] at c ⊢
      have c2:under x.name cut=true:=by
       rcases Ak (under x.name cut) with k|k
       ·exact k
       ·exact absurd ⟨c,k⟩ q
      exact ⟨c,Bb4 hu c2⟩
   ·intro k
    rw [hredE] at k ⊢
    by_cases c:F7 g 39=true
    ·rw [if_pos c]
     obtain ⟨w,w1,w2⟩:=B8.1 c
     simp only [decide_eq_true_eq] at w2
     exact ⟨w,Bg _ w1,w2,h3 w w1⟩
    ·rw [if_neg c] at k;exact absurd rfl k
   ·intro m hm w hw hc hu
    rcases Br.1 hw with hw|hw
    ·exfalso
     have hxu:=hmid m hm w hw hu
     obtain ⟨c0,c1⟩:=hI.red2 x (.head _) w hw hc hxu
     have:Dp x.name red=red:=by unfold Dp;rw [if_neg (by simp [c1])]
     rw [this] at hredE
     exact c0 hredE
    ·rw [h3 w hw] at hu
     have hd:F7 g 39=true:=B8.2 ⟨w,hw,by simp [hc]⟩
     rw [if_pos hd]
     exact ⟨jc hvx,hu⟩
  ·rw [if_neg hp]
   simp [hp]
end Go.X.G
