/- Delegations and names of a zone, as the reference finds them; what exists. -/
import Derived.Test.YteiaijjlmnacpaaGreatDoorZoneGluesG13
import Derived.Test.YteiaijjlmnacpaaGreatDoorZoneGluesG9
import Derived.Test.YteiaijjlmnacpaaGreatDoorZoneGluesG12
import Derived.Test.YteiaijjlmnacpaaGreatDoorZoneGluesG11
open Bool renaming eq_false_or_eq_true→Ak,and_eq_true→Av,false_eq_true→Ab,not_eq_true'→A9,eq_iff_iff→C1
open Int renaming toNat_natCast→G0
open List renaming getElem?_eq_some_iff→Aq,getElem?_eq_getElem→Ax,length_append→Az,length_take→Ah,mem_cons→Al,mem_of_getElem?→Ar,pairwise_cons→As,length_cons→A0,take_append_drop→Bl,drop_eq_getElem_cons→B0,cons_append→B3,take_add_one→B7,any_eq_true→B8,nil_append→Cd,take_length→Cf,mem_append_left→Cg,take_of_length_le→Cn,length_filter_le→Dc,mem_map→D5,filter_cons_of_pos→D8,mem_of_mem_take→Ew,filter_eq_nil_iff→Eb,mem_cons_self→Fj,filter_append→Fq,length_map→F9,flatMap_cons→Gt,mem_cons_of_mem→Ic,drop_of_length_le→Ws
open Nat renaming le_refl→Ac,mul_le_mul→E6,min_eq_left→Nh,mul_one→Bb0
set_option maxHeartbeats 1000000
set_option linter.unusedVariables false
set_option linter.unusedSimpArgs false
namespace Go.X.G
open Go Go.X
theorem Hp6 (z:Zone) (n:List UInt8) (hz:z.wf) (hl:z.recs.length≤1000000) (hn:n.length≤9223372036854775807):S Cw5 2 [z.pv, .s n]=some [.s (oj z n), .b (decide (oj z n≠[]))]:=by
 refine Kr1 (N:=z.recs.length+1) rfl ?_
 have g1:=hz.origin
 unfold J4 at g1
 have key:Gq9.ev S (z.recs.length+1) [z.pv, .s n]=some (.yld 0 [.s (En0 z n [] z.recs)]):=by
  refine Fs z.recs (fun i (b:List UInt8)=>[.s b, .i .i64 (i:Int)]) (fun i b r=> .yld 0 [.s (En0 z n b r)]) (fun i b=>b=[]∨under n b=true) [] rfl (.inl rfl) (by omega) (fun i b c r hd hi hc hI=> ?_) (fun b hI=> ?_)
  ·left
   have g2:=(hz.recs.2 c (Ar hc)).name
   unfold J4 at g2
   refine ⟨if Dw z c && under n c.name && (decide (b=[])||decide ((lbl c.name).length<(lbl b).length)) then c.name else b,?_,Cl5 hI,rfl⟩
   by_cases h1:c.typ=2
   ·have k1:=J1 c.name z.origin g2 g1
    have k2:=L0 n c.name hn g2
    rcases Ak (Dr c.name z.origin) with h3|h3
    ·rcases Ak (under n c.name) with h4|h4
     ·rw [h3] at k1
      rw [h4] at k2
      by_cases h5:b=[]
      ·simp (disch:=omega) only [Zt,hc,h1,h3,h4,h5,k1,k2,EVM,EVC,xe,EVP,EV,simprocAttr]
       simp [Dw,h1,h3,h4,h5]
      ·have hb:=hI.resolve_left h5
       have k3:=J2 c.name g2
       have k4:=J2 b (by have:=Pq (C5.1 hb).2.1;omega)
       by_cases h6:(lbl c.name).length<(lbl b).length
       ·have h8:((lbl c.name).length:Int)<((lbl b).length:Int):=by omega
        simp (disch:=omega) only [Zt,hc,h1,h3,h4,h5,h8,k1,k2,k3,k4,EVM,EVC,xe,EVP,EV,simprocAttr]
        simp [Dw,h1,h3,h4,h5,h6]
       ·have h8:¬((lbl c.name).length:Int)<((lbl b).length:Int):=by omega
        simp (disch:=omega) only [Zt,hc,h1,h3,h4,h5,h8,k1,k2,k3,k4,EVM,EVC,xe,EVP,EV,simprocAttr]
        simp [Dw,h1,h3,h4,h5,h6]
     ·rw [h3] at k1
      rw [h4] at k2
      simp (disch:=omega) only [Zt,hc,h1,h3,h4,k1,k2,EVM,EVC,xe,EVP,EV,simprocAttr]
      simp [Dw,h1,h3,h4]
    ·rw [h3] at k1
     simp (disch:=omega) only [Zt,hc,h1,h3,k1,EVM,EVC,xe,EVP,EV,simprocAttr]
     simp [Dw,h1,h3]
   ·simp (disch:=omega) only [Zt,hc,h1,EVM,EVC,xe,EVP,EV,simprocAttr]
    simp [Dw,h1]
  ·simp (disch:=omega) only [Zt,EVM,EVC,xe,EVP,EV,simprocAttr]
   simp [En0,Out.goes]
 rw [show En0 z n [] z.recs=oj z n from rfl] at key
 simp (disch:=omega) only [Zt,key,EVM,EVC,xe,EVP,EV,simprocAttr]
 try simp
def Cf8 (x:List UInt8):List (List UInt8)→List (List UInt8)
 |[]=>[x]
 |y::r=>if I0 y x<0 then y::Cf8 x r else if y=x then y::r else x::y::r
theorem insN_mem (x z:List UInt8):∀(l:List (List UInt8)),z∈Cf8 x l↔z=x∨z∈l
 |[]=>by simp [Cf8]
 |y::r=>by
  have ih:=insN_mem x z r
  simp only [Cf8]
  split
  ·simp only [Al,ih];grind
  ·split
   ·rename_i h;subst h;simp only [Al];grind
   ·simp only [Al]
theorem Tx (x:List UInt8):∀(l:List (List UInt8)),l.Pairwise ltN→(Cf8 x l).Pairwise ltN
 |[],_=>by simp [Cf8]
 |y::r,h=>by
  obtain ⟨h1,h2⟩:=As.1 h
  have ih:=Tx x r h2
  simp only [Cf8]
  by_cases c:I0 y x<0
  ·rw [if_pos c]
   refine As.2 ⟨fun w hw=> ?_,ih⟩
   rcases (insN_mem x w r).1 hw with rfl|hw
   ·exact (E1 _ _).1 c
   ·exact h1 w hw
  ·rw [if_neg c]
   by_cases e:y=x
   ·rw [if_pos e];exact h
   ·rw [if_neg e]
    have hxy:ltN x y:=by
     rcases to_N.tri x y with q|q|q
     ·exact q
     ·exact absurd q.symm e
     ·exact absurd ((E1 _ _).2 q) c
    refine As.2 ⟨fun w hw=> ?_,h⟩
    rcases Al.1 hw with rfl|hw
    ·exact hxy
    ·exact to_N.tr _ _ _ hxy (h1 w hw)
def Ft8 (l:List (List UInt8)):List (List UInt8):=l.foldl (fun a x=>Cf8 x a) []
theorem c8 (l:List (List UInt8)):Ft8 l=setN l:=by
 have:∀(l a:List (List UInt8)),a.Pairwise ltN→(l.foldl (fun a x=>Cf8 x a) a).Pairwise ltN∧∀z,z∈l.foldl (fun a x=>Cf8 x a) a↔z∈a∨z∈l:=by
  intro l
  induction l with
  |nil=>intro a h;exact ⟨h,fun z=>by simp⟩
  |cons x r ih=>
   intro a h
   obtain ⟨h1,h2⟩:=ih (Cf8 x a) (Tx x a h)
   refine ⟨h1,fun z=> ?_⟩
   rw [List.foldl_cons,h2,insN_mem,Al]
   grind
 obtain ⟨h1,h2⟩:=this l [] List.Pairwise.nil
 exact Sx to_N _ _ h1 (Nk l) fun x=>by
  rw [J9]
  rw [Ft8,h2 x]
  simp
end Go.X.G
/- What exists in a zone, and what encloses a name; names with another end. -/
namespace Go.X.G
open Go Go.X
def exB (z:Zone) (x:List UInt8):Bool:=z.recs.any fun r=>under r.name z.origin && !jk z r.name && under r.name x && under x z.origin
theorem Js2 (z:Zone) (x:List UInt8):exB z x=true↔Gv6 z x:=by
 unfold exB Gv6
 simp only [B8,Av,A9,and_assoc]
theorem Cg9 (z:Zone) (x:List UInt8):decide (x∈namesN z)=exB z x:=by
 rw [C1,Js2,←As8]
 simp
theorem Vg (z:Zone) (hl:z.recs.length≤1000):(namesN z).length≤1000000:=by
 have h1:=Xf (Ih6 z)
 have h2:∀l:List Rec,(l.flatMap fun r=>upN z.origin r.name).length≤256*l.length:=by
  intro l
  induction l with
  |nil=>simp
  |cons x r ih=>
   have:=js z.origin x.name
   rw [Gt,Az,A0];omega
 have h3:=h2 (z.recs.filter fun r=>under r.name z.origin && !jk z r.name)
 have h4:=Dc (fun r=>under r.name z.origin && !jk z r.name) z.recs
 show (setN (Ih6 z)).length≤1000000
 unfold Ih6 at h1 ⊢
 omega
theorem U1 (z:Zone) (n:List UInt8) (hz:z.wf) (hl:z.recs.length≤1000):S Bj6 2 [z.pv, .s n]=some [.b (exB z n)]:=by
 refine Kp7 (N:=1) rfl ?_
 have k1:=Rm z hz hl
 have k2:=Qp (namesN z) n (Vg z hl)
 rw [Cg9] at k2
 generalize namesN z=nz at*
 simp (disch:=omega) only [Kb7,k1,k2,EVM,EVC,xe,EVP,EV,simprocAttr]
def Kj6 (z:Zone) (n:List UInt8):Option (List UInt8):=(upN z.origin n).find? (exB z)
def Kj7 (z:Zone) (n:List UInt8):List UInt8:=if under n z.origin=true then (Kj6 z n).getD [] else []
theorem Ir0 {n:List UInt8} (h:vld n=true):n≠[]:=fun e=>by subst e;simp [vld,nm] at h
theorem Ch3 {z:Zone} {n e:List UInt8} (hu:under n z.origin=true) (h:Kj6 z n=some e):under n e=true∧exB z e=true:=by
 unfold Kj6 at h
 have h1:=List.mem_of_find?_eq_some h
 have h2:=List.find?_some h
 exact ⟨((Rt hu).1 h1).1,h2⟩
theorem P8 (z:Zone) (n:List UInt8) (hz:z.wf) (hl:z.recs.length≤1000) (hn:n.length≤9223372036854775807):S Bj8 2 [z.pv, .s n]=some [.s (Kj7 z n), .b (decide (Kj7 z n≠[]))]:=by
 refine Kr0 (N:=1000) rfl ?_
 have g1:=hz.origin
 unfold J4 at g1
 have k0:=G8 n z.origin hn g1
 unfold Kj7
 rcases Ak (under n z.origin) with hu|hu
 ·rw [if_pos hu]
  rw [hu] at k0
  have k1:=Rm z hz hl
  have hnl:=Vg z hl
  have k2:∀x,S lg 2 [Bq (namesN z), .s x]=some [.b (exB z x)]:=fun x=>by rw [←Cg9];exact Qp (namesN z) x hnl
  generalize namesN z=nz at*
  obtain ⟨v1,v2,_⟩:=C5.1 hu
  have hlb:=G3 n
  have h0:jn ((lbl n).drop 0)=n:=Cd7 v1
  let res:Option (List UInt8)→Out:=fun o=>match o with|some e=> .yld 0 [.s e]|none=> .ret [.s [], .b false]
  have key:Gq8.ev S 1000 [z.pv, .s n, .b true,Bq nz]=some (res (Kj6 z n)):=by
   have:=Es (fn:=S) (N:=1000) (η:=[z.pv, .s n, .b true,Bq nz]) (id:=1) (init:=[(.v 1)]) (body:=Ef8) ((lbl n).length - (lbl z.origin).length)
    (fun k=>[.s (jn ((lbl n).drop k))]) (fun k=>res (((upN z.origin n).drop k).find? (exB z))) ?_ (by omega) (fun k hk=> ?_) ?_
   ·exact this
   ·rw [h0]
    simp (disch:=omega) only [EVM,EVC,xe,EVP,EV,simprocAttr]
   ·have hup:(upN z.origin n)[k]? =some (jn ((lbl n).drop k)):=Xv (Nat.le_of_lt hk)
    have hd:(upN z.origin n).drop k=jn ((lbl n).drop k)::(upN z.origin n).drop (k+1):=by
     obtain ⟨h1,h2⟩:=Aq.1 hup
     rw [B0 h1,h2]
    obtain ⟨q1,q2⟩:=Fr4 hu hk
    have q3:¬jn ((lbl n).drop k)=z.origin:=fun h=>by have:=(sj hu (Nat.le_of_lt hk)).1 h;omega
    have q4:=Gv5 v1 k
    have k1:=Wn (jn ((lbl n).drop k)) (by omega)
    rw [q1,q2] at k1
    have k3:=k2 (jn ((lbl n).drop k))
    rw [hd]
    generalize jn ((lbl n).drop (k+1))=nx at*
    generalize jn ((lbl n).drop k)=cu at*
    rcases Ak (exB z cu) with h5|h5
    ·right
     rw [h5] at k3
     rw [List.find?_cons_of_pos h5]
     refine ⟨?_,rfl⟩
     simp (disch:=omega) only [jm,k3,EVM,EVC,xe,EVP,EV,simprocAttr]
     rfl
    ·left
     rw [h5] at k3
     rw [List.find?_cons_of_neg (by simp [h5])]
     refine ⟨?_,rfl⟩
     simp (disch:=omega) only [jm,k1,k3,q3,EVM,EVC,xe,EVP,EV,simprocAttr]
   ·have hup:(upN z.origin n)[(lbl n).length - (lbl z.origin).length]? =some (jn ((lbl n).drop ((lbl n).length - (lbl z.origin).length))):=Xv (Ac _)
    have hd:(upN z.origin n).drop ((lbl n).length - (lbl z.origin).length)=[jn ((lbl n).drop ((lbl n).length - (lbl z.origin).length))]:=by
     obtain ⟨h1,h2⟩:=Aq.1 hup
     have h9:(upN z.origin n).drop ((lbl n).length - (lbl z.origin).length+1)=[]:=Ws (by simp [upN])
     rw [B0 h1,h2,h9]
    have q3:=(sj hu (Ac _)).2 rfl
    rw [hd,q3]
    have k3:=k2 z.origin
    rcases Ak (exB z z.origin) with h5|h5
    ·rw [h5] at k3
     rw [List.find?_cons_of_pos h5]
     refine ⟨?_,rfl⟩
     simp (disch:=omega) only [jm,k3,EVM,EVC,xe,EVP,EV,simprocAttr]
     rfl
    ·rw [h5] at k3
     rw [List.find?_cons_of_neg (by simp [h5]),List.find?_nil]
     refine ⟨?_,rfl⟩
     simp (disch:=omega) only [jm,k3,EVM,EVC,xe,EVP,EV,simprocAttr]
     rfl
  cases he:Kj6 z n with
  |none=>
   rw [he] at key
   simp only [res] at key
   simp (disch:=omega) only [jm,k0,k1,key,EVM,EVC,xe,EVP,EV,simprocAttr]
   simp
  |some e=>
   rw [he] at key
   simp only [res] at key
   have h6:=Ir0 (C5.1 (Ch3 hu he).1).2.1
   simp (disch:=omega) only [jm,k0,k1,key,EVM,EVC,xe,EVP,EV,simprocAttr]
   simp [h6]
 ·rw [if_neg (by simp [hu])]
  rw [hu] at k0
  simp (disch:=omega) only [jm,k0,EVM,EVC,xe,EVP,EV,simprocAttr]
  try simp
end Go.X.G
/- The law LookupSoas. -/
namespace Go.X.G
open Go Go.X
theorem M8 (z:Zone) (n:List UInt8) (t:Int) (hl:z.recs.length≤1000000):S lr 3 [z.pv, .s n, .i .i64 t]=some [Ad (findR z.recs n t)]:=by
 refine Kr4 (N:=1) rfl ?_
 simp (disch:=omega) only [Kb9,Fn8,xe,EVP,EV,simprocAttr]
theorem i7 (z:Zone) (n:List UInt8) (t:Int) (hl:z.recs.length≤1000000):S Bj9 3 [z.pv, .s n, .i .i64 t]=some [Ad (findR z.recs n t)]:=by
 refine Kr3 (N:=1) rfl ?_
 simp (disch:=omega) only [Kb8,Kf,xe,EVP,EV,simprocAttr]
def zero:Dat:=⟨false,0,0,[],[],[],0,0,0,0,0,0,0⟩
end Go.X.G
/- The laws of zones: what they call. -/
namespace Go.X.G
open Go Go.X
theorem Lh (o:List UInt8) (l:List Rec):PV.a [.s o,Ad l]=Zone.pv ⟨o,l⟩:=rfl
theorem Fh5 (z:Zone):(⟨z.origin,z.recs⟩:Zone)=z:=rfl
def c3 (s:List UInt8):List UInt8:=s.take 300
def Jt (r:Rec):Rec:=⟨c3 r.name,r.typ,r.ttl,{r.data with host:=c3 r.data.host,mail:=c3 r.data.mail,text:=c3 r.data.text}⟩
def smallZ (z:Zone):Zone:=⟨c3 z.origin,(z.recs.take 70).map Jt⟩
theorem Gr0 (s:List UInt8):(c3 s).length≤300:=by unfold c3;rw [Ah];omega
theorem Cl6 {r:Rec} (h:r.wf):(Jt r).wf:=by
 have hs:∀s:List UInt8,J4 (c3 s):=fun s=>by have:=Gr0 s;unfold J4;omega
 exact ⟨hs _,h.typ,h.ttl,⟨h.data.hi,h.data.lo,hs _,hs _,hs _,h.data.a,h.data.b,h.data.c,h.data.d,h.data.e,h.data.f,h.data.bits⟩⟩
theorem Bg8 {z:Zone} (h:z.wf):(smallZ z).wf:=by
 refine ⟨by have:=Gr0 z.origin;unfold smallZ J4;simp only;omega,by simp [smallZ];omega,fun r hr=> ?_⟩
 simp only [smallZ,D5] at hr
 obtain ⟨x,hx,rfl⟩:=hr
 exact Cl6 (h.recs.2 x (Ew hx))
theorem Am0 (z:Zone):(smallZ z).recs.length≤70:=by simp [smallZ];omega
theorem bj (s:List UInt8) (hs:s.length≤9223372036854775807):bk (.s s) (.i .i64 0) (.i .i64 (if (300:Int)<(s.length:Int) then 300 else (s.length:Int)))=some (.s (c3 s)):=by
 unfold c3
 by_cases h:(300:Int)<(s.length:Int)
 ·rw [if_pos h]
  have h1:(0:Int)≤0∧(0:Int)≤300∧(300:Int)≤(s.length:Int):=by omega
  simp only [bk,h1,and_self,if_true]
  rfl
 ·rw [if_neg h]
  have h1:(0:Int)≤0∧(0:Int)≤(s.length:Int)∧(s.length:Int)≤(s.length:Int):=by omega
  simp only [bk,h1,and_self,if_true,G0,Cf]
  rw [Cn (by omega)]
  rfl
theorem Jc8 (n:Int):Cx9 (.i .i64 n) (.i .i64 300)=some (.i .i64 (if (300:Int)<n then 300 else n)):=by simp [Cx9]
theorem Fn6 (z:Zone) (hz:z.wf):S Cx8 1 [z.pv]=some [(smallZ z).pv]:=by
 obtain ⟨N,hN⟩:∃N:Nat,N=72:=⟨_,rfl⟩
 refine Ks2 (N:=N) rfl ?_
 have hzl:z.origin.length≤9223372036854775807:=hz.origin
 have hrl:=hz.recs.1
 have key:Gv4.ev S N [z.pv]=some (.yld 0 [Ad ((z.recs.take 70).map Jt)]):=by
  have hm:(z.recs.take 70).length≤70:=by simp;omega
  refine Dv (z.recs.take 70) (fun i=>[Ad ((z.recs.take i).map Jt), .i .i64 (i:Int)]) (fun i r=> .yld 0 [Ad ((z.recs.take 70).map Jt)]) rfl (by omega) (fun i c r hd hi hc=> ?_) ?_
  ·left
   refine ⟨?_,rfl⟩
   have hi70:i<70:=by omega
   have hc':z.recs[i]? =some c:=by rw [←hc,List.getElem?_take_of_lt hi70]
   have hil:=(Aq.1 hc').1
   have hcw:=hz.recs.2 c (Ar hc')
   have e:(z.recs.take (i+1)).map Jt=(z.recs.take i).map Jt++[Jt c]:=by rw [B7,hc'];simp
   have hlen:((z.recs.take i).map Jt).length=i:=by rw [F9,Ah];omega
   have s1:=bj c.name hcw.name
   have s2:=bj c.data.host hcw.data.host
   have s3:=bj c.data.mail hcw.data.mail
   have s4:=bj c.data.text hcw.data.text
   have h1:(i:Int)<(z.recs.length:Int):=by omega
   have h2:(i:Int)<70:=by omega
   have ei:(i:Int).toNat=i:=by omega
   rw [e]
   generalize (z.recs.take i).map Jt=a at*
   simp (disch:=omega) only [Ep1,h1,h2,ei,hc',Jc8,s1,s2,s3,s4,EVC,xe,EVP,EV,simprocAttr]
   rfl
  ·refine ⟨?_,rfl⟩
   have e:z.recs.take (z.recs.take 70).length=z.recs.take 70:=by
    rw [Ah]
    by_cases h:z.recs.length≤70
    ·rw [Nat.min_eq_right h,Cf,Cn h]
    ·rw [Nh (by omega)]
   have hlen:((z.recs.take 70).length:Int)=if 70<z.recs.length then 70 else (z.recs.length:Int):=by
    rw [Ah];split<;>omega
   rw [e,hlen]
   by_cases h:70<z.recs.length
   ·rw [if_pos h]
    have h1:(70:Int)<(z.recs.length:Int):=by omega
    generalize (z.recs.take 70).map Jt=a at*
    simp (disch:=omega) only [Ep1,h1,EVC,xe,EVP,EV,simprocAttr]
   ·rw [if_neg h]
    have h1:¬(z.recs.length:Int)<(z.recs.length:Int):=by omega
    generalize (z.recs.take 70).map Jt=a at*
    simp (disch:=omega) only [Ep1,h1,EVC,xe,EVP,EV,simprocAttr]
 have s0:=bj z.origin hzl
 unfold smallZ
 generalize (z.recs.take 70).map Jt=a at*
 simp (disch:=omega) only [Ep1,key,Jc8,s0,Lh,EVC,xe,EVP,EV,simprocAttr]
def newZ (o:List UInt8) (l:List Rec):Zone:=if Ks ⟨o,sortR l⟩=0 then ⟨o,sortR l⟩ else ⟨[],[]⟩
theorem Fx3 {l:List Rec} (h:∀r∈l,r.wf):∀r∈sortR l,r.wf:=fun r hr=>h r (((U9 l).2 r).1 hr).mem
theorem wh {o:List UInt8} {l:List Rec} (ho:J4 o) (hl:l.length≤1000000) (hw:∀r∈l,r.wf):(⟨o,sortR l⟩:Zone).wf:=by
 have:=bw l hw hl
 exact ⟨ho,by simp only;omega,Fx3 hw⟩
theorem El4 (o:List UInt8) (l:List Rec) (ho:J4 o) (hl:l.length≤1000000) (hw:∀r∈l,r.wf):S Bk3 2 [.s o,Ad l]=some [(newZ o l).pv, .i .i64 (Ks ⟨o,sortR l⟩)]:=by
 refine Ks1 (N:=1) rfl ?_
 have k1:=Ah8 l hw hl
 have hlen:=bw l hw hl
 have k2:=Uv ⟨o,sortR l⟩ (wh ho hl hw) (by simp only;omega)
 unfold newZ
 generalize sortR l=s at*
 by_cases h:Ks ⟨o,s⟩=0
 ·rw [if_pos h]
  rw [h] at k2 ⊢
  simp (disch:=omega) only [In0,k1,k2,Lh,EVC,xe,EVP,EV,simprocAttr]
 ·rw [if_neg h]
  simp (disch:=omega) only [In0,k1,k2,h,Lh,EVC,xe,EVP,EV,simprocAttr]
end Go.X.G
/- The laws of zones: serial numbers, addresses of hosts, the chapter's example. -/
namespace Go.X.G
open Go Go.X
def Hn5 (z:Zone) (r:Rec):Bool:=decide (r.typ=6) && decide (r.name=z.origin)
theorem bz (z:Zone) (r:Rec):S V6 1 [r.pv,z.pv]=some [.b (Hn5 z r)]:=by
 refine Jy1 (N:=1) rfl ?_
 unfold Hn5
 by_cases h:r.typ=6
 ·simp (disch:=omega) only [Fr3,h,EVC,xe,EVP,EV,simprocAttr]
  try simp
 ·simp (disch:=omega) only [Fr3,h,EVC,xe,EVP,EV,simprocAttr]
  try simp
theorem kx (z:Zone) (hl:z.recs.length≤1000000):S At9 1 [z.pv]=some [.i .i64 (ixG (Hn5 z) 0 z.recs)]:=by
 refine Km1 (N:=1) rfl ?_
 have h:=U0 z.recs V6 [z.pv] (Hn5 z) hl (fun r _=>bz z r)
 simp (disch:=omega) only [Kz5,Lh,Fh5,h,EVC,xe,EVP,EV,simprocAttr]
theorem Al9 (z:Zone):findR z.recs z.origin 6=z.recs.filter (Hn5 z):=by
 unfold findR
 congr 1
 funext r
 unfold isK Hn5
 rw [Bool.and_comm]
def Kg0 (z:Zone):Int:=match findR z.recs z.origin 6 with
 |[]=>0
 |r::_=>r.data.a
theorem ix_find (p:Rec→Bool) (l:List Rec):(ixG p 0 l= -1∧l.filter p=[])∨∃(j:Nat) (x:Rec) (r:List Rec),ixG p 0 l=(j:Int)∧l[j]? =some x∧p x=true∧l.filter p=x::r:=by
 have h:=md p l 0
 by_cases hn:0≤ixG p 0 l
 ·right
  obtain ⟨j,g1,g2,g3,x,g4,g5⟩:=fh p l 0 hn
  have hd:l=l.take j++x::l.drop (j+1):=by
   have:=B0 g2
   have e:l[j]=x:=by rw [Ax g2] at g4;injection g4
   rw [e] at this
   rw [←this,Bl]
  refine ⟨j,x,(l.drop (j+1)).filter p,by rw [g1];simp,g4,g5,?_⟩
  conv=>lhs;rw [hd]
  rw [Fq,D8 g5]
  have:(l.take j).filter p=[]:=Eb.2 fun y hy=>by simp [g3 y hy]
  rw [this,Cd]
 ·left
  refine ⟨by omega,Eb.2 fun y hy=> ?_⟩
  intro hp
  exact hn (h.1.2 (B8.2 ⟨y,hy,hp⟩))
theorem By8 (z:Zone) (hl:z.recs.length≤1000000):S Cx4 1 [z.pv]=some [.i .i64 (Kg0 z)]:=by
 refine Kr6 (N:=1) rfl ?_
 have h:=kx z hl
 unfold Kg0
 rw [Al9]
 rcases ix_find (Hn5 z) z.recs with ⟨h1,h2⟩|⟨j,x,r,h1,h2,h3,h4⟩
 ·rw [h1] at h
  rw [h2]
  simp (disch:=omega) only [Il3,h,EVC,xe,EVP,EV,simprocAttr]
 ·rw [h1] at h
  rw [h4]
  have hj:(0:Int)≤(j:Int):=by omega
  have ej:(j:Int).toNat=j:=by omega
  simp (disch:=omega) only [Il3,h,hj,ej,h2,EVC,xe,EVP,EV,simprocAttr]
theorem By6 (z:Zone) (s:Int) (h:inB s 4294967295=false):S Cx5 2 [z.pv, .i .i64 s]=some [Zone.pv ⟨[],[]⟩, .i .i64 14]:=by
 refine Kr7 (N:=1) rfl ?_
 have k1:=Cp s
 rw [h] at k1
 simp (disch:=omega) only [Kc0,k1,Lh,EVC,xe,EVP,EV,simprocAttr]
def mr (z:Zone) (h:List UInt8):List Rec:=if oj z h≠[] then findR z.recs h 1++findR z.recs h 28 else []
def glueN (z:Zone) (hs:List (List UInt8)):List Rec:=hs.flatMap (mr z)
theorem Cg3 (z:Zone) (h:List UInt8):(mr z h).length≤2*z.recs.length:=by
 unfold mr findR
 split
 ·rw [Az]
  have h1:=Dc (isK h 1) z.recs
  have h2:=Dc (isK h 28) z.recs
  omega
 ·simp
theorem Om (z:Zone):∀hs:List (List UInt8),(glueN z hs).length≤2*z.recs.length*hs.length
 |[]=>by simp [glueN]
 |h::hs=>by
  have h1:=Cg3 z h
  have h2:=Om z hs
  simp only [glueN,Gt,Az,A0] at h2 ⊢
  rw [Nat.mul_add,Bb0];omega
theorem Ah9 (z:Zone) (hs:List (List UInt8)) (hz:z.wf) (hl:z.recs.length≤1000) (hn:hs.length≤100) (hh:∀h∈hs,h.length≤9223372036854775807):S Bj5 2 [z.pv,Bq hs]=some [Ad (glueN z hs)]:=by
 obtain ⟨N,hN⟩:∃N,N=hs.length+1:=⟨_,rfl⟩
 refine Kp6 (N:=N) rfl ?_
 have key:Gq5.ev S N [z.pv,Bq hs]=some (.yld 0 [Ad (glueN z hs)]):=by
  refine Dv hs (fun i=>[Ad (glueN z (hs.take i)), .i .i64 (i:Int)]) (fun i r=> .yld 0 [Ad (glueN z hs)]) rfl (by omega) (fun i c r hd hi hc=> ?_) ?_
  ·left
   refine ⟨?_,rfl⟩
   have e:glueN z (hs.take (i+1))=glueN z (hs.take i)++mr z c:=by rw [B7,hc];simp [glueN]
   have hlen:=Om z (hs.take i)
   have hl2:2*z.recs.length*(hs.take i).length≤2000*100:=E6 (by omega) (by rw [Ah];omega)
   have h1:(i:Int)<(hs.length:Int):=by omega
   have ei:(i:Int).toNat=i:=by omega
   have k1:=jf z c hz (by omega) (hh c (Ar hc))
   have k2:=M8 z c 1 (by omega)
   have k3:=M8 z c 28 (by omega)
   have l2:(findR z.recs c 1).length≤z.recs.length:=Dc _ _
   have l3:(findR z.recs c 28).length≤z.recs.length:=Dc _ _
   rw [e]
   unfold mr
   generalize glueN z (hs.take i)=a at*
   by_cases hc2:oj z c=[]
   ·have eb:decide (oj z c≠[])=false:=by simp [hc2]
    rw [eb] at k1
    rw [if_neg (by simp [hc2])]
    simp (disch:=omega) only [Ep0,h1,ei,hc,k1,EVC,xe,EVP,EV,simprocAttr]
    simp
   ·have eb:decide (oj z c≠[])=true:=by simp [hc2]
    rw [eb] at k1
    rw [if_pos hc2]
    generalize findR z.recs c 1=f1 at*
    generalize findR z.recs c 28=f2 at*
    have la:(a++f1).length≤1000000:=by rw [Az];omega
    simp (disch:=omega) only [Ep0,h1,ei,hc,k1,k2,k3,EVC,xe,EVP,EV,simprocAttr]
    simp
  ·refine ⟨?_,rfl⟩
   have h1:¬(hs.length:Int)<(hs.length:Int):=by omega
   have e:hs.take hs.length=hs:=Cf
   rw [e]
   generalize glueN z hs=a at*
   simp (disch:=omega) only [Ep0,h1,EVC,xe,EVP,EV,simprocAttr]
 generalize glueN z hs=a at*
 simp (disch:=omega) only [Ep0,key,EVC,xe,EVP,EV,simprocAttr]
theorem Fn7 (z:Zone) (hs:List (List UInt8)) (hz:z.wf) (hl:z.recs.length≤1000) (hn:hs.length≤100) (hh:∀h∈hs,h.length≤9223372036854775807):S Cw4 2 [z.pv,Bq hs]=some [Ad (glueN z hs)]:=by
 obtain ⟨N,hN⟩:∃N,N=hs.length+1:=⟨_,rfl⟩
 refine Kp5 (N:=N) rfl ?_
 have key:Gq4.ev S N [z.pv,Bq hs]=some (.yld 0 [Ad (glueN z hs)]):=by
  refine Dv hs (fun i=>[Ad (glueN z (hs.take i)), .i .i64 (i:Int)]) (fun i r=> .yld 0 [Ad (glueN z hs)]) rfl (by omega) (fun i c r hd hi hc=> ?_) ?_
  ·left
   refine ⟨?_,rfl⟩
   have e:glueN z (hs.take (i+1))=glueN z (hs.take i)++mr z c:=by rw [B7,hc];simp [glueN]
   have hlen:=Om z (hs.take i)
   have hl2:2*z.recs.length*(hs.take i).length≤2000*100:=E6 (by omega) (by rw [Ah];omega)
   have h1:(i:Int)<(hs.length:Int):=by omega
   have ei:(i:Int).toNat=i:=by omega
   have k1:=Hp6 z c hz (by omega) (hh c (Ar hc))
   have k2:=i7 z c 1 (by omega)
   have k3:=i7 z c 28 (by omega)
   have l2:(findR z.recs c 1).length≤z.recs.length:=Dc _ _
   have l3:(findR z.recs c 28).length≤z.recs.length:=Dc _ _
   rw [e]
   unfold mr
   generalize glueN z (hs.take i)=a at*
   by_cases hc2:oj z c=[]
   ·have eb:decide (oj z c≠[])=false:=by simp [hc2]
    rw [eb] at k1
    rw [if_neg (by simp [hc2])]
    simp (disch:=omega) only [En9,h1,ei,hc,k1,EVC,xe,EVP,EV,simprocAttr]
    simp
   ·have eb:decide (oj z c≠[])=true:=by simp [hc2]
    rw [eb] at k1
    rw [if_pos hc2]
    generalize findR z.recs c 1=f1 at*
    generalize findR z.recs c 28=f2 at*
    have la:(a++f1).length≤1000000:=by rw [Az];omega
    simp (disch:=omega) only [En9,h1,ei,hc,k1,k2,k3,EVC,xe,EVP,EV,simprocAttr]
    simp
  ·refine ⟨?_,rfl⟩
   have h1:¬(hs.length:Int)<(hs.length:Int):=by omega
   have e:hs.take hs.length=hs:=Cf
   rw [e]
   generalize glueN z hs=a at*
   simp (disch:=omega) only [En9,h1,EVC,xe,EVP,EV,simprocAttr]
 generalize glueN z hs=a at*
 simp (disch:=omega) only [En9,key,EVC,xe,EVP,EV,simprocAttr]
end Go.X.G
/- The laws of zones: the chapter's example. -/
namespace Go.X.G
open Go Go.X
def exL:List Rec:=[⟨[101,120,97,109,112,108,101,46],6,60,{zero with host:=[110,115,46,98,46,101,120,97,109,112,108,101,46],mail:=[109,46,101,120,97,109,112,108,101,46],a:=5,b:=60,c:=60,d:=600,e:=30}⟩,⟨[101,120,97,109,112,108,101,46],2,60,{zero with host:=[110,115,46,98,46,101,120,97,109,112,108,101,46]}⟩,⟨[98,46,101,120,97,109,112,108,101,46],2,60,{zero with host:=[110,115,46,98,46,101,120,97,109,112,108,101,46]}⟩,⟨[101,120,97,109,112,108,101,46],1,60,{zero with lo:=1}⟩,⟨[99,46,100,46,101,120,97,109,112,108,101,46],1,60,{zero with lo:=2}⟩,⟨[110,115,46,98,46,101,120,97,109,112,108,101,46],1,60,{zero with lo:=3}⟩]
def Gv7:Rec:=⟨[98,46,101,120,97,109,112,108,101,46],15,60,{zero with a:=1,host:=[97,46]}⟩
def exO:List UInt8:=[101,120,97,109,112,108,101,46]
theorem Bz0:S Cv2 0 []=some [Ad exL]:=(Nq ext_mono).2 ⟨3,by kernel_rfl⟩
theorem Gv8:∀r∈exL++[Gv7],r.wf:=by
 intro r hr
 simp only [exL,Gv7,B3,Cd,Al,List.mem_nil_iff,or_false] at hr
 rcases hr with rfl|rfl|rfl|rfl|rfl|rfl|rfl<;>(constructor<;>(try constructor))<;>simp [zero,Ir3,ml,J4]
def exZ:Zone:=⟨exO,sortR exL⟩
theorem yn:Ks exZ=0:=by kernel_rfl
theorem Js1:Ks ⟨exO,sortR (exL++[Gv7])⟩=13:=by kernel_rfl
theorem Iq5:oj exZ [120,46,110,115,46,98,46,101,120,97,109,112,108,101,46]=[98,46,101,120,97,109,112,108,101,46]:=by kernel_rfl
theorem Iq4:oj exZ exO=[]:=by kernel_rfl
theorem Iq2:Kj7 exZ [120,46,121,46,100,46,101,120,97,109,112,108,101,46]=[100,46,101,120,97,109,112,108,101,46]:=by kernel_rfl
theorem Iq1:Kj7 exZ [110,115,46,98,46,101,120,97,109,112,108,101,46]=[98,46,101,120,97,109,112,108,101,46]:=by kernel_rfl
theorem Js0:exB exZ [100,46,101,120,97,109,112,108,101,46]=true:=by kernel_rfl
theorem Jr9:exB exZ [110,115,46,98,46,101,120,97,109,112,108,101,46]=false:=by kernel_rfl
theorem Fh4:namesN exZ=[[101,120,97,109,112,108,101,46],[98,46,101,120,97,109,112,108,101,46],[100,46,101,120,97,109,112,108,101,46],[99,46,100,46,101,120,97,109,112,108,101,46]]:=by unfold namesN;rw [←c8];kernel_rfl
theorem Iq3:(cutsN exZ).length=1:=by unfold cutsN;rw [←c8];kernel_rfl
theorem Ik9:glueN exZ [[110,115,46,98,46,101,120,97,109,112,108,101,46],exO]=[⟨[110,115,46,98,46,101,120,97,109,112,108,101,46],1,60,{zero with lo:=3}⟩]:=by kernel_rfl
theorem Jr7:Kg0 exZ=5:=by kernel_rfl
theorem Jr8:exZ.recs.length=6:=by kernel_rfl
theorem Iq0:findR exZ.recs [100,46,101,120,97,109,112,108,101,46] 1=[]:=by kernel_rfl
theorem Js3 (n:List UInt8) (lo:Int):S Cw3 2 [.s n, .i .u64 lo]=some [Rec.pv ⟨n,1,60,{zero with lo:=lo}⟩]:=by
 refine Kp2 (N:=1) rfl ?_
 simp (disch:=omega) only [Kb6,EVC,xe,EVP,EV,simprocAttr]
 rfl
theorem By2:S Bk1 0 []=some [.b true]:=by
 refine Kr8 (N:=1) rfl ?_
 have hw:∀r∈exL,r.wf:=fun r hr=>Gv8 r (Cg _ hr)
 have ho:J4 exO:=by unfold J4 exO;decide
 have k0:=Bz0
 have hz:exZ.wf:=wh ho (by decide) hw
 have hl:exZ.recs.length=6:=Jr8
 have ec:Ks ⟨exO,sortR exL⟩=0:=yn
 have k1:=El4 exO exL ho (by decide) hw
 have en:newZ exO exL=exZ:=by unfold newZ;rw [if_pos ec];rfl
 rw [en,ec] at k1
 have k2:=Uv exZ hz (by omega)
 rw [yn] at k2
 have k3:=By8 exZ (by omega)
 rw [Jr7] at k3
 have c1:=jf exZ [120,46,110,115,46,98,46,101,120,97,109,112,108,101,46] hz (by omega) (by decide)
 rw [Iq5] at c1
 have c2:=jf exZ exO hz (by omega) (by decide)
 rw [Iq4] at c2
 have e1:=P8 exZ [120,46,121,46,100,46,101,120,97,109,112,108,101,46] hz (by omega) (by decide)
 rw [Iq2] at e1
 have e2:=P8 exZ [110,115,46,98,46,101,120,97,109,112,108,101,46] hz (by omega) (by decide)
 rw [Iq1] at e2
 have n1:=Rm exZ hz (by omega)
 rw [Fh4] at n1
 have u1:=ry exZ hz (by omega)
 have ul:=Iq3
 have g1:=Ah9 exZ [[110,115,46,98,46,101,120,97,109,112,108,101,46],exO] hz (by omega) (by decide) (by decide)
 rw [Ik9] at g1
 have w1:=By6 exZ (-1) (by decide)
 have b1:=El4 exO (exL++[Gv7]) ho (by decide) Gv8
 rw [Js1] at b1
 have a1:=Js3 [110,115,46,98,46,101,120,97,109,112,108,101,46] 3
 have x1:=U1 exZ [100,46,101,120,97,109,112,108,101,46] hz (by omega)
 rw [Js0] at x1
 have x2:=U1 exZ [110,115,46,98,46,101,120,97,109,112,108,101,46] hz (by omega)
 rw [Jr9] at x2
 have f1:=M8 exZ [100,46,101,120,97,109,112,108,101,46] 1 (by omega)
 rw [Iq0] at f1
 have eo:([101,120,97,109,112,108,101,46]:List UInt8)=exO:=rfl
 have happ:Iv 16 (Ad exL) (Ad [⟨[98,46,101,120,97,109,112,108,101,46],15,60,⟨false,0,0,[97,46],[],[],1,0,0,0,0,0,0⟩⟩])=some (Ad (exL++[Gv7])):=iy exL Gv7 (by decide)
 have hlit:Jr 16 [PV.a [.s [98,46,101,120,97,109,112,108,101,46], .i .i64 15, .i .i64 60, .b false, .i .u64 0, .i .u64 0, .s [97,46], .s [], .s [], .i .i64 1, .i .i64 0, .i .i64 0, .i .i64 0, .i .i64 0, .i .i64 0, .i .u64 0]]=some (Ad [⟨[98,46,101,120,97,109,112,108,101,46],15,60,⟨false,0,0,[97,46],[],[],1,0,0,0,0,0,0⟩⟩]):=rfl
 have hs2:Bq [[110,115,46,98,46,101,120,97,109,112,108,101,46],exO]= .l 1 [.s [110,115,46,98,46,101,120,97,109,112,108,101,46], .s [101,120,97,109,112,108,101,46]]:=rfl
 rw [hs2] at g1
 have hex:PV.s exO= .s [101,120,97,109,112,108,101,46]:=rfl
 rw [hex] at k1 c2 b1
 generalize newZ exO (exL++[Gv7])=nz at*
 generalize exL++[Gv7]=l2 at*
 have hn4:(Bq [[101,120,97,109,112,108,101,46],[98,46,101,120,97,109,112,108,101,46],[100,46,101,120,97,109,112,108,101,46],[99,46,100,46,101,120,97,109,112,108,101,46]])= .l 1 (List.map PV.s [[101,120,97,109,112,108,101,46],[98,46,101,120,97,109,112,108,101,46],[100,46,101,120,97,109,112,108,101,46],[99,46,100,46,101,120,97,109,112,108,101,46]]):=rfl
 generalize cutsN exZ=cz at*
 have hrl:((exZ.recs.length:Nat):Int)=6:=by omega
 generalize exZ=zz at*
 generalize exL=l1 at*
 have hlit2:Jr 1 [.s [110,115,46,98,46,101,120,97,109,112,108,101,46], .s [101,120,97,109,112,108,101,46]]=some (.l 1 [.s [110,115,46,98,46,101,120,97,109,112,108,101,46], .s [101,120,97,109,112,108,101,46]]):=rfl
 clear hn4 hs2 hex eo
 simp (disch:=first|omega|decide) only [Kc1,k0,k1,k2,k3,hrl,c1,c2,e1,e2,n1,u1,ul,g1,w1,happ,hlit,hlit2,b1,a1,x1,x2,f1,EVC,xe,EVP,EV,simprocAttr]
end Go.X.G
/- The laws ZoneChecks, ZoneFinds, ZoneCuts, ZoneGlues. -/
namespace Go.X.G
open Go Go.X
theorem law_ZoneGlues (z:Zone) (hosts:List (List UInt8)) (hz:z.wf) (hh:hosts.length≤9223372036854775807∧∀h∈hosts,J4 h):S Jc6 2 [z.pv,Bq hosts]=some [.b true]:=by
 refine Ld6 (N:=1) rfl ?_
 have k0:=Fn6 z hz
 have hw:=Bg8 hz
 have hl:=Am0 z
 generalize smallZ z=x at*
 have k3:=Uv x hw (by omega)
 have k4:=Bz1 x hw
 have ka:=By2
 have hhl:=hh.1
 have hm20:Cx9 (.i .i64 (hosts.length:Int)) (.i .i64 20)=some (.i .i64 (if (20:Int)<(hosts.length:Int) then 20 else (hosts.length:Int))):=by simp [Cx9]
 have hs:H2 1 (Bq hosts) (.i .i64 0) (.i .i64 (if (20:Int)<(hosts.length:Int) then 20 else (hosts.length:Int)))=some (Bq (hosts.take 20)):=by
  rw [Kv _ _ _ _ _ (by omega) (by split<;>omega) (by split<;>omega)]
  by_cases h:(20:Int)<(hosts.length:Int)
  ·rw [if_pos h];rfl
  ·rw [if_neg h,G0,Cf,Cn (by omega)];rfl
 have h20:(hosts.take 20).length≤20:=by rw [Ah];omega
 have hm:∀h∈hosts.take 20,h.length≤9223372036854775807:=fun h hx=>hh.2 h (Ew hx)
 generalize hosts.take 20=hs' at*
 by_cases h:Ks x=0
 ·rw [h] at k3 k4
  have a1:=Ah9 x hs' hw (by omega) (by omega) hm
  have a2:=Fn7 x hs' hw (by omega) (by omega) hm
  have hgl:=Om x hs'
  have hg2:2*x.recs.length*hs'.length≤140*20:=E6 (by omega) h20
  have a3:=L4 (glueN x hs') (glueN x hs') (by omega)
  generalize glueN x hs'=g at*
  simp (disch:=omega) only [Ld0,k0,hm20,hs,k3,k4,a1,a2,a3,ka,EVM,EVC,xe,EVP,EV,simprocAttr]
  try simp
 ·simp (disch:=omega) only [Ld0,k0,hm20,hs,k3,k4,h,ka,EVM,EVC,xe,EVP,EV,simprocAttr]
end Go.X.G
/- What the laws on tasks are called with. -/
namespace Go.X
structure Begin where
 q:Ques
 zone:List UInt8
 hosts:List (List UInt8)
 addrs:List Adr
structure Actn where
 kind:Int
 n:Int
 odd:Bool
 m:Msg
 host:List UInt8
 addrs:List Adr
def u8r (x:Int):Prop:=0≤x∧x≤255
structure Begin.wf (b:Begin):Prop where
 q:b.q.wf
 zone:J4 b.zone
 hosts:b.hosts.length≤9223372036854775807∧∀h∈b.hosts,J4 h
 addrs:b.addrs.length≤9223372036854775807
structure Actn.wf (a:Actn):Prop where
 kind:u8r a.kind
 n:u8r a.n
 m:a.m.wf
 host:J4 a.host
 addrs:a.addrs.length≤9223372036854775807
def Begin.cells (b:Begin):List PV:=[.s b.q.name, .i .i64 b.q.typ, .s b.zone,Bq b.hosts,E2 b.addrs]
def Begin.pv (b:Begin):PV:= .a b.cells
def Actn.cells (a:Actn):List PV:=[.i .u8 a.kind, .i .u8 a.n, .b a.odd, .i .i64 a.m.id, .i .i64 a.m.op, .i .i64 a.m.code, .b a.m.resp, .b a.m.aa, .b a.m.tc, .b a.m.rd, .b a.m.ra, .b a.m.ad, .b a.m.cd, .b a.m.dok, .i .i64 a.m.size, .s a.m.q.name, .i .i64 a.m.q.typ,Ad a.m.ans,Ad a.m.auth,Ad a.m.ext, .s a.host,E2 a.addrs]
def Actn.pv (a:Actn):PV:= .a a.cells
theorem Fc4 {e:Sh} {α:Type} (W:α→Prop) (pv:α→PV) (hag:e.agg=false) (h1:∀p,e.okC [p]→∃x,W x∧p=pv x) {cs:List PV} (h:(Sh.l e).okC cs):∃l:List α,l.length≤9223372036854775807∧(∀x∈l,W x)∧cs=[.l e.size (l.map pv)]:=by
 simp only [Sh.okC,hag,Ab,if_false] at h
 obtain ⟨xs,rfl,hl,hx⟩:=h
 have go:∀xs:List PV,(∀x,x∈xs→x.scal=true∧e.okC [x])→∃l:List α,(∀r∈l,W r)∧xs=l.map pv:=by
  intro xs
  induction xs with
  |nil=>exact fun _=>⟨[],fun r h=>(by cases h),rfl⟩
  |cons x xs ih=>
   intro hx
   obtain ⟨l,g1,rfl⟩:=ih (fun y hy=>hx y (Ic _ hy))
   obtain ⟨r,hr,rfl⟩:=h1 x (hx x (Fj ..)).2
   refine ⟨r::l,fun y hy=> ?_,rfl⟩
   rcases Al.1 hy with rfl|hy
   ·exact hr
   ·exact g1 y hy
 obtain ⟨l,g1,rfl⟩:=go xs hx
 exact ⟨l,by simpa [maxLen] using hl,g1,rfl⟩
theorem Hr7 {cs:List PV} (h:(Sh.l .s).okC cs):∃l:List (List UInt8),(l.length≤9223372036854775807∧∀x∈l,J4 x)∧cs=[Bq l]:=by
 obtain ⟨l,h1,h2,rfl⟩:=Fc4 (fun x=>J4 x) PV.s rfl (fun p hp=>by
  obtain ⟨x,hx,hs⟩:=As5 hp
  injection hx with hx
  exact ⟨x,hs,hx⟩) h
 exact ⟨l,⟨h1,h2⟩,rfl⟩
theorem Fc7 {p:PV} (h:(Sh.l .s).ok p):∃l:List (List UInt8),(l.length≤9223372036854775807∧∀x∈l,J4 x)∧p=Bq l:=by
 have h':p.scal=true∧(Sh.l .s).okC [p]:=h
 obtain ⟨l,hl,hp⟩:=Hr7 h'.2
 injection hp with hp
 exact ⟨l,hl,hp⟩
end Go.X
