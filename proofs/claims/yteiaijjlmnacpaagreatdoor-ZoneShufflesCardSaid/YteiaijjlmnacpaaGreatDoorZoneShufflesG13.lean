/- What exists in a zone, and what encloses a name; names with another end. -/
import Derived.Test.YteiaijjlmnacpaaGreatDoorZoneShufflesG12
import Derived.Test.YteiaijjlmnacpaaGreatDoorZoneShufflesG9
import Derived.Test.YteiaijjlmnacpaaGreatDoorZoneShufflesG11
import Derived.Test.YteiaijjlmnacpaaGreatDoorZoneShufflesG10
open Bool renaming eq_false_or_eq_true→Aq,and_eq_true→Av,false_eq_true→Ab,not_eq_true'→A8,eq_iff_iff→Cf
open Classical renaming not_not→If
open Int renaming toNat_natCast→Ic
open List renaming getElem?_eq_some_iff→Ak,getElem?_eq_getElem→Ax,length_append→Az,mem_cons→Ah,length_take→Al,pairwise_cons→Ar,length_cons→As,mem_of_getElem?→A5,take_append_drop→Bl,mem_append→Bp,cons_append→Bt,mem_singleton→B5,any_eq_true→B6,drop_eq_getElem_cons→B9,nil_append→Cy,take_add_one→Cz,mem_append_left→Cb,take_length→Ct,take_of_length_le→C0,getElem_mem→Dj,getElem?_set_ne→Dd,mem_map→Dn,filter_cons_of_pos→Dt,filter_eq_nil_iff→D8,length_set→Ev,length_filter_le→Eb,mem_of_mem_take→E3,mem_cons_self→E4,filter_append→E5,getElem?_set_self→Fq,flatMap_cons→Gb,length_map→Gn,mem_cons_of_mem→H2,drop_of_length_le→Uv
open Nat renaming le_refl→Ac,mul_le_mul→Gz,min_eq_left→Mq,mul_one→Ak8
set_option maxHeartbeats 1000000
set_option linter.unusedVariables false
set_option linter.unusedSimpArgs false
namespace Go.X.G
open Go Go.X
def exB (z:Zone) (x:List UInt8):Bool:=z.recs.any fun r=>under r.name z.origin && !cq z r.name && under r.name x && under x z.origin
theorem Gs3 (z:Zone) (x:List UInt8):exB z x=true↔Dp0 z x:=by
 unfold exB Dp0
 simp only [B6,Av,A8,and_assoc]
theorem Bw9 (z:Zone) (x:List UInt8):decide (x∈namesN z)=exB z x:=by
 rw [Cf,Gs3,←yq]
 simp
theorem S8 (z:Zone) (hl:z.recs.length≤1000):(namesN z).length≤1000000:=by
 have h1:=U2 (Fr4 z)
 have h2:∀l:List Rec,(l.flatMap fun r=>upN z.origin r.name).length≤256*l.length:=by
  intro l
  induction l with
  |nil=>simp
  |cons x r ih=>
   have:=dq z.origin x.name
   rw [Gb,Az,As];omega
 have h3:=h2 (z.recs.filter fun r=>under r.name z.origin && !cq z r.name)
 have h4:=Eb (fun r=>under r.name z.origin && !cq z r.name) z.recs
 show (setN (Fr4 z)).length≤1000000
 unfold Fr4 at h1 ⊢
 omega
theorem Sf (z:Zone) (n:List UInt8) (hz:z.wf) (hl:z.recs.length≤1000):S yn 2 [z.pv, .s n]=some [.b (exB z n)]:=by
 refine Hm0 (N:=1) rfl ?_
 have k1:=Pt z hz hl
 have k2:=O5 (namesN z) n (S8 z hl)
 rw [Bw9] at k2
 generalize namesN z=nz at*
 simp (disch:=omega) only [Hz7,k1,k2,EVM,EVC,xe,EVP,EV,simprocAttr]
def Hj7 (z:Zone) (n:List UInt8):Option (List UInt8):=(upN z.origin n).find? (exB z)
def Hj8 (z:Zone) (n:List UInt8):List UInt8:=if under n z.origin=true then (Hj7 z n).getD [] else []
theorem Gj9 {n:List UInt8} (h:vld n=true):n≠[]:=fun e=>by subst e;simp [vld,nm] at h
theorem Bx3 {z:Zone} {n e:List UInt8} (hu:under n z.origin=true) (h:Hj7 z n=some e):under n e=true∧exB z e=true:=by
 unfold Hj7 at h
 have h1:=List.mem_of_find?_eq_some h
 have h2:=List.find?_some h
 exact ⟨((P6 hu).1 h1).1,h2⟩
theorem Ow (z:Zone) (n:List UInt8) (hz:z.wf) (hl:z.recs.length≤1000) (hn:n.length≤9223372036854775807):S yr 2 [z.pv, .s n]=some [.s (Hj8 z n), .b (decide (Hj8 z n≠[]))]:=by
 refine Hm3 (N:=1000) rfl ?_
 have g1:=hz.origin
 unfold Py at g1
 have k0:=Gl n z.origin hn g1
 unfold Hj8
 rcases Aq (under n z.origin) with hu|hu
 ·rw [if_pos hu]
  rw [hu] at k0
  have k1:=Pt z hz hl
  have hnl:=S8 z hl
  have k2:∀x,S fj 2 [Bc (namesN z), .s x]=some [.b (exB z x)]:=fun x=>by rw [←Bw9];exact O5 (namesN z) x hnl
  generalize namesN z=nz at*
  obtain ⟨v1,v2,_⟩:=C5.1 hu
  have hlb:=L9 n
  have h0:jn ((lbl n).drop 0)=n:=Bq7 v1
  let res:Option (List UInt8)→Out:=fun o=>match o with|some e=> .yld 0 [.s e]|none=> .ret [.s [], .b false]
  have key:Dn4.ev S 1000 [z.pv, .s n, .b true,Bc nz]=some (res (Hj7 z n)):=by
   have:=Gq (fn:=S) (N:=1000) (η:=[z.pv, .s n, .b true,Bc nz]) (id:=1) (init:=[(.v 1)]) (body:=Cb3) ((lbl n).length - (lbl z.origin).length)
    (fun k=>[.s (jn ((lbl n).drop k))]) (fun k=>res (((upN z.origin n).drop k).find? (exB z))) ?_ (by omega) (fun k hk=> ?_) ?_
   ·exact this
   ·rw [h0]
    simp (disch:=omega) only [EVM,EVC,xe,EVP,EV,simprocAttr]
   ·have hup:(upN z.origin n)[k]? =some (jn ((lbl n).drop k)):=Un (Nat.le_of_lt hk)
    have hd:(upN z.origin n).drop k=jn ((lbl n).drop k)::(upN z.origin n).drop (k+1):=by
     obtain ⟨h1,h2⟩:=Ak.1 hup
     rw [B9 h1,h2]
    obtain ⟨q1,q2⟩:=Df9 hu hk
    have q3:¬jn ((lbl n).drop k)=z.origin:=fun h=>by have:=(lv hu (Nat.le_of_lt hk)).1 h;omega
    have q4:=Dn9 v1 k
    have k1:=Uj (jn ((lbl n).drop k)) (by omega)
    rw [q1,q2] at k1
    have k3:=k2 (jn ((lbl n).drop k))
    rw [hd]
    generalize jn ((lbl n).drop (k+1))=nx at*
    generalize jn ((lbl n).drop k)=cu at*
    rcases Aq (exB z cu) with h5|h5
    ·right
     rw [h5] at k3
     rw [List.find?_cons_of_pos h5]
     refine ⟨?_,rfl⟩
     simp (disch:=omega) only [c8,k3,EVM,EVC,xe,EVP,EV,simprocAttr]
     rfl
    ·left
     rw [h5] at k3
     rw [List.find?_cons_of_neg (by simp [h5])]
     refine ⟨?_,rfl⟩
     simp (disch:=omega) only [c8,k1,k3,q3,EVM,EVC,xe,EVP,EV,simprocAttr]
   ·have hup:(upN z.origin n)[(lbl n).length - (lbl z.origin).length]? =some (jn ((lbl n).drop ((lbl n).length - (lbl z.origin).length))):=Un (Ac _)
    have hd:(upN z.origin n).drop ((lbl n).length - (lbl z.origin).length)=[jn ((lbl n).drop ((lbl n).length - (lbl z.origin).length))]:=by
     obtain ⟨h1,h2⟩:=Ak.1 hup
     have h9:(upN z.origin n).drop ((lbl n).length - (lbl z.origin).length+1)=[]:=Uv (by simp [upN])
     rw [B9 h1,h2,h9]
    have q3:=(lv hu (Ac _)).2 rfl
    rw [hd,q3]
    have k3:=k2 z.origin
    rcases Aq (exB z z.origin) with h5|h5
    ·rw [h5] at k3
     rw [List.find?_cons_of_pos h5]
     refine ⟨?_,rfl⟩
     simp (disch:=omega) only [c8,k3,EVM,EVC,xe,EVP,EV,simprocAttr]
     rfl
    ·rw [h5] at k3
     rw [List.find?_cons_of_neg (by simp [h5]),List.find?_nil]
     refine ⟨?_,rfl⟩
     simp (disch:=omega) only [c8,k3,EVM,EVC,xe,EVP,EV,simprocAttr]
     rfl
  cases he:Hj7 z n with
  |none=>
   rw [he] at key
   simp only [res] at key
   simp (disch:=omega) only [c8,k0,k1,key,EVM,EVC,xe,EVP,EV,simprocAttr]
   simp
  |some e=>
   rw [he] at key
   simp only [res] at key
   have h6:=Gj9 (C5.1 (Bx3 hu he).1).2.1
   simp (disch:=omega) only [c8,k0,k1,key,EVM,EVC,xe,EVP,EV,simprocAttr]
   simp [h6]
 ·rw [if_neg (by simp [hu])]
  rw [hu] at k0
  simp (disch:=omega) only [c8,k0,EVM,EVC,xe,EVP,EV,simprocAttr]
  try simp
end Go.X.G
/- The law LookupSoas. -/
namespace Go.X.G
open Go Go.X
theorem L0 (z:Zone) (n:List UInt8) (t:Int) (hl:z.recs.length≤1000000):S fx 3 [z.pv, .s n, .i .i64 t]=some [Af (findR z.recs n t)]:=by
 refine Hm5 (N:=1) rfl ?_
 simp (disch:=omega) only [Hz8,Dd6,xe,EVP,EV,simprocAttr]
def zero:Dat:=⟨false,0,0,[],[],[],0,0,0,0,0,0,0⟩
end Go.X.G
/- The laws of zones: what they call. -/
namespace Go.X.G
open Go Go.X
theorem H8 (o:List UInt8) (l:List Rec):PV.a [.s o,Af l]=Zone.pv ⟨o,l⟩:=rfl
theorem V7 (z:Zone):(⟨z.origin,z.recs⟩:Zone)=z:=rfl
def c3 (s:List UInt8):List UInt8:=s.take 300
def Jj (r:Rec):Rec:=⟨c3 r.name,r.typ,r.ttl,{r.data with host:=c3 r.data.host,mail:=c3 r.data.mail,text:=c3 r.data.text}⟩
def smallZ (z:Zone):Zone:=⟨c3 z.origin,(z.recs.take 70).map Jj⟩
theorem Ex2 (s:List UInt8):(c3 s).length≤300:=by unfold c3;rw [Al];omega
theorem By3 {r:Rec} (h:r.wf):(Jj r).wf:=by
 have hs:∀s:List UInt8,Py (c3 s):=fun s=>by have:=Ex2 s;unfold Py;omega
 exact ⟨hs _,h.typ,h.ttl,⟨h.data.hi,h.data.lo,hs _,hs _,hs _,h.data.a,h.data.b,h.data.c,h.data.d,h.data.e,h.data.f,h.data.bits⟩⟩
theorem Ay0 {z:Zone} (h:z.wf):(smallZ z).wf:=by
 refine ⟨by have:=Ex2 z.origin;unfold smallZ Py;simp only;omega,by simp [smallZ];omega,fun r hr=> ?_⟩
 simp only [smallZ,Dn] at hr
 obtain ⟨x,hx,rfl⟩:=hr
 exact By3 (h.recs.2 x (E3 hx))
theorem vw (z:Zone):(smallZ z).recs.length≤70:=by simp [smallZ];omega
theorem X7 (s:List UInt8) (hs:s.length≤9223372036854775807):X8 (.s s) (.i .i64 0) (.i .i64 (if (300:Int)<(s.length:Int) then 300 else (s.length:Int)))=some (.s (c3 s)):=by
 unfold c3
 by_cases h:(300:Int)<(s.length:Int)
 ·rw [if_pos h]
  have h1:(0:Int)≤0∧(0:Int)≤300∧(300:Int)≤(s.length:Int):=by omega
  simp only [X8,h1,and_self,if_true]
  rfl
 ·rw [if_neg h]
  have h1:(0:Int)≤0∧(0:Int)≤(s.length:Int)∧(s.length:Int)≤(s.length:Int):=by omega
  simp only [X8,h1,and_self,if_true,Ic,Ct]
  rw [C0 (by omega)]
  rfl
theorem Gf8 (n:Int):Dw0 (.i .i64 n) (.i .i64 300)=some (.i .i64 (if (300:Int)<n then 300 else n)):=by simp [Dw0]
theorem Dd4 (z:Zone) (hz:z.wf):S As5 1 [z.pv]=some [(smallZ z).pv]:=by
 obtain ⟨N,hN⟩:∃N:Nat,N=72:=⟨_,rfl⟩
 refine Hn3 (N:=N) rfl ?_
 have hzl:z.origin.length≤9223372036854775807:=hz.origin
 have hrl:=hz.recs.1
 have key:Dn8.ev S N [z.pv]=some (.yld 0 [Af ((z.recs.take 70).map Jj)]):=by
  have hm:(z.recs.take 70).length≤70:=by simp;omega
  refine Eh (z.recs.take 70) (fun i=>[Af ((z.recs.take i).map Jj), .i .i64 (i:Int)]) (fun i r=> .yld 0 [Af ((z.recs.take 70).map Jj)]) rfl (by omega) (fun i c r hd hi hc=> ?_) ?_
  ·left
   refine ⟨?_,rfl⟩
   have hi70:i<70:=by omega
   have hc':z.recs[i]? =some c:=by rw [←hc,List.getElem?_take_of_lt hi70]
   have hil:=(Ak.1 hc').1
   have hcw:=hz.recs.2 c (A5 hc')
   have e:(z.recs.take (i+1)).map Jj=(z.recs.take i).map Jj++[Jj c]:=by rw [Cz,hc'];simp
   have hlen:((z.recs.take i).map Jj).length=i:=by rw [Gn,Al];omega
   have s1:=X7 c.name hcw.name
   have s2:=X7 c.data.host hcw.data.host
   have s3:=X7 c.data.mail hcw.data.mail
   have s4:=X7 c.data.text hcw.data.text
   have h1:(i:Int)<(z.recs.length:Int):=by omega
   have h2:(i:Int)<70:=by omega
   have ei:(i:Int).toNat=i:=by omega
   rw [e]
   generalize (z.recs.take i).map Jj=a at*
   simp (disch:=omega) only [Ch0,h1,h2,ei,hc',Gf8,s1,s2,s3,s4,EVC,xe,EVP,EV,simprocAttr]
   rfl
  ·refine ⟨?_,rfl⟩
   have e:z.recs.take (z.recs.take 70).length=z.recs.take 70:=by
    rw [Al]
    by_cases h:z.recs.length≤70
    ·rw [Nat.min_eq_right h,Ct,C0 h]
    ·rw [Mq (by omega)]
   have hlen:((z.recs.take 70).length:Int)=if 70<z.recs.length then 70 else (z.recs.length:Int):=by
    rw [Al];split<;>omega
   rw [e,hlen]
   by_cases h:70<z.recs.length
   ·rw [if_pos h]
    have h1:(70:Int)<(z.recs.length:Int):=by omega
    generalize (z.recs.take 70).map Jj=a at*
    simp (disch:=omega) only [Ch0,h1,EVC,xe,EVP,EV,simprocAttr]
   ·rw [if_neg h]
    have h1:¬(z.recs.length:Int)<(z.recs.length:Int):=by omega
    generalize (z.recs.take 70).map Jj=a at*
    simp (disch:=omega) only [Ch0,h1,EVC,xe,EVP,EV,simprocAttr]
 have s0:=X7 z.origin hzl
 unfold smallZ
 generalize (z.recs.take 70).map Jj=a at*
 simp (disch:=omega) only [Ch0,key,Gf8,s0,H8,EVC,xe,EVP,EV,simprocAttr]
theorem Az1 (a b:Zone) (ha:a.recs.length≤1000000):S As3 2 [a.pv,b.pv]=some [.b (decide (a=b))]:=by
 refine Hn0 (N:=1) rfl ?_
 have k:=Cd6 a.recs b.recs ha
 by_cases h1:a.origin=b.origin
 ·have e:decide (a=b)=decide (a.recs=b.recs):=by
   rw [Cf,decide_eq_true_eq,decide_eq_true_eq]
   exact ⟨fun h=>by rw [h],fun h=>by cases a;cases b;simp only at h h1;rw [h,h1]⟩
  rw [e]
  simp (disch:=omega) only [Fs2,k,h1,EVC,xe,EVP,EV,simprocAttr]
 ·have e:decide (a=b)=false:=decide_eq_false fun h=>h1 (by rw [h])
  rw [e]
  simp (disch:=omega) only [Fs2,h1,EVC,xe,EVP,EV,simprocAttr]
def newZ (o:List UInt8) (l:List Rec):Zone:=if J6 ⟨o,sortR l⟩=0 then ⟨o,sortR l⟩ else ⟨[],[]⟩
theorem Ct4 {l:List Rec} (h:∀r∈l,r.wf):∀r∈sortR l,r.wf:=fun r hr=>h r (((K7 l).2 r).1 hr).mem
theorem nc {o:List UInt8} {l:List Rec} (ho:Py o) (hl:l.length≤1000000) (hw:∀r∈l,r.wf):(⟨o,sortR l⟩:Zone).wf:=by
 have:=Yk l hw hl
 exact ⟨ho,by simp only;omega,Ct4 hw⟩
theorem j6 (o:List UInt8) (l:List Rec) (ho:Py o) (hl:l.length≤1000000) (hw:∀r∈l,r.wf):S fz 2 [.s o,Af l]=some [(newZ o l).pv, .i .i64 (J6 ⟨o,sortR l⟩)]:=by
 refine Hn2 (N:=1) rfl ?_
 have k1:=ug l hw hl
 have hlen:=Yk l hw hl
 have k2:=R4 ⟨o,sortR l⟩ (nc ho hl hw) (by simp only;omega)
 unfold newZ
 generalize sortR l=s at*
 by_cases h:J6 ⟨o,s⟩=0
 ·rw [if_pos h]
  rw [h] at k2 ⊢
  simp (disch:=omega) only [Ft1,k1,k2,H8,EVC,xe,EVP,EV,simprocAttr]
 ·rw [if_neg h]
  simp (disch:=omega) only [Ft1,k1,k2,h,H8,EVC,xe,EVP,EV,simprocAttr]
end Go.X.G
/- The laws of zones: serial numbers, addresses of hosts, the chapter's example. -/
namespace Go.X.G
open Go Go.X
def Et4 (z:Zone) (r:Rec):Bool:=decide (r.typ=6) && decide (r.name=z.origin)
theorem Yq (z:Zone) (r:Rec):S Tf 1 [r.pv,z.pv]=some [.b (Et4 z r)]:=by
 refine Gb2 (N:=1) rfl ?_
 unfold Et4
 by_cases h:r.typ=6
 ·simp (disch:=omega) only [Df8,h,EVC,xe,EVP,EV,simprocAttr]
  try simp
 ·simp (disch:=omega) only [Df8,h,EVC,xe,EVP,EV,simprocAttr]
  try simp
theorem dn (z:Zone) (hl:z.recs.length≤1000000):S yf 1 [z.pv]=some [.i .i64 (ixG (Et4 z) 0 z.recs)]:=by
 refine Hh3 (N:=1) rfl ?_
 have h:=Sd z.recs Tf [z.pv] (Et4 z) hl (fun r _=>Yq z r)
 simp (disch:=omega) only [Hy9,H8,V7,h,EVC,xe,EVP,EV,simprocAttr]
theorem vv (z:Zone):findR z.recs z.origin 6=z.recs.filter (Et4 z):=by
 unfold findR
 congr 1
 funext r
 unfold isK Et4
 rw [Bool.and_comm]
def Hd9 (z:Zone):Int:=match findR z.recs z.origin 6 with
 |[]=>0
 |r::_=>r.data.a
theorem ix_find (p:Rec→Bool) (l:List Rec):(ixG p 0 l= -1∧l.filter p=[])∨∃(j:Nat) (x:Rec) (r:List Rec),ixG p 0 l=(j:Int)∧l[j]? =some x∧p x=true∧l.filter p=x::r:=by
 have h:=f5 p l 0
 by_cases hn:0≤ixG p 0 l
 ·right
  obtain ⟨j,g1,g2,g3,x,g4,g5⟩:=Z3 p l 0 hn
  have hd:l=l.take j++x::l.drop (j+1):=by
   have:=B9 g2
   have e:l[j]=x:=by rw [Ax g2] at g4;injection g4
   rw [e] at this
   rw [←this,Bl]
  refine ⟨j,x,(l.drop (j+1)).filter p,by rw [g1];simp,g4,g5,?_⟩
  conv=>lhs;rw [hd]
  rw [E5,Dt g5]
  have:(l.take j).filter p=[]:=D8.2 fun y hy=>by simp [g3 y hy]
  rw [this,Cy]
 ·left
  refine ⟨by omega,D8.2 fun y hy=> ?_⟩
  intro hp
  exact hn (h.1.2 (B6.2 ⟨y,hy,hp⟩))
theorem Aj8 (z:Zone) (hl:z.recs.length≤1000000):S As1 1 [z.pv]=some [.i .i64 (Hd9 z)]:=by
 refine Hm7 (N:=1) rfl ?_
 have h:=dn z hl
 unfold Hd9
 rw [vv]
 rcases ix_find (Et4 z) z.recs with ⟨h1,h2⟩|⟨j,x,r,h1,h2,h3,h4⟩
 ·rw [h1] at h
  rw [h2]
  simp (disch:=omega) only [Fs0,h,EVC,xe,EVP,EV,simprocAttr]
 ·rw [h1] at h
  rw [h4]
  have hj:(0:Int)≤(j:Int):=by omega
  have ej:(j:Int).toNat=j:=by omega
  simp (disch:=omega) only [Fs0,h,hj,ej,h2,EVC,xe,EVP,EV,simprocAttr]
theorem Aj6 (z:Zone) (s:Int) (h:inB s 4294967295=false):S As2 2 [z.pv, .i .i64 s]=some [Zone.pv ⟨[],[]⟩, .i .i64 14]:=by
 refine Hm8 (N:=1) rfl ?_
 have k1:=Ch s
 rw [h] at k1
 simp (disch:=omega) only [Hz9,k1,H8,EVC,xe,EVP,EV,simprocAttr]
def Bw3 (z:Zone) (h:List UInt8):List Rec:=if Db4 z h≠[] then findR z.recs h 1++findR z.recs h 28 else []
def glueN (z:Zone) (hs:List (List UInt8)):List Rec:=hs.flatMap (Bw3 z)
theorem Bw2 (z:Zone) (h:List UInt8):(Bw3 z h).length≤2*z.recs.length:=by
 unfold Bw3 findR
 split
 ·rw [Az]
  have h1:=Eb (isK h 1) z.recs
  have h2:=Eb (isK h 28) z.recs
  omega
 ·simp
theorem Z9 (z:Zone):∀hs:List (List UInt8),(glueN z hs).length≤2*z.recs.length*hs.length
 |[]=>by simp [glueN]
 |h::hs=>by
  have h1:=Bw2 z h
  have h2:=Z9 z hs
  simp only [glueN,Gb,Az,As] at h2 ⊢
  rw [Nat.mul_add,Ak8];omega
theorem Dd5 (z:Zone) (hs:List (List UInt8)) (hz:z.wf) (hl:z.recs.length≤1000) (hn:hs.length≤100) (hh:∀h∈hs,h.length≤9223372036854775807):S Ar1 2 [z.pv,Bc hs]=some [Af (glueN z hs)]:=by
 obtain ⟨N,hN⟩:∃N,N=hs.length+1:=⟨_,rfl⟩
 refine Hl9 (N:=N) rfl ?_
 have key:Dn1.ev S N [z.pv,Bc hs]=some (.yld 0 [Af (glueN z hs)]):=by
  refine Eh hs (fun i=>[Af (glueN z (hs.take i)), .i .i64 (i:Int)]) (fun i r=> .yld 0 [Af (glueN z hs)]) rfl (by omega) (fun i c r hd hi hc=> ?_) ?_
  ·left
   refine ⟨?_,rfl⟩
   have e:glueN z (hs.take (i+1))=glueN z (hs.take i)++Bw3 z c:=by rw [Cz,hc];simp [glueN]
   have hlen:=Z9 z (hs.take i)
   have hl2:2*z.recs.length*(hs.take i).length≤2000*100:=Gz (by omega) (by rw [Al];omega)
   have h1:(i:Int)<(hs.length:Int):=by omega
   have ei:(i:Int).toNat=i:=by omega
   have k1:=ct z c hz (by omega) (hh c (A5 hc))
   have k2:=L0 z c 1 (by omega)
   have k3:=L0 z c 28 (by omega)
   have l2:(findR z.recs c 1).length≤z.recs.length:=Eb _ _
   have l3:(findR z.recs c 28).length≤z.recs.length:=Eb _ _
   rw [e]
   unfold Bw3
   generalize glueN z (hs.take i)=a at*
   by_cases hc2:Db4 z c=[]
   ·have eb:decide (Db4 z c≠[])=false:=by simp [hc2]
    rw [eb] at k1
    rw [if_neg (by simp [hc2])]
    simp (disch:=omega) only [Cg9,h1,ei,hc,k1,EVC,xe,EVP,EV,simprocAttr]
    simp
   ·have eb:decide (Db4 z c≠[])=true:=by simp [hc2]
    rw [eb] at k1
    rw [if_pos hc2]
    generalize findR z.recs c 1=f1 at*
    generalize findR z.recs c 28=f2 at*
    have la:(a++f1).length≤1000000:=by rw [Az];omega
    simp (disch:=omega) only [Cg9,h1,ei,hc,k1,k2,k3,EVC,xe,EVP,EV,simprocAttr]
    simp
  ·refine ⟨?_,rfl⟩
   have h1:¬(hs.length:Int)<(hs.length:Int):=by omega
   have e:hs.take hs.length=hs:=Ct
   rw [e]
   generalize glueN z hs=a at*
   simp (disch:=omega) only [Cg9,h1,EVC,xe,EVP,EV,simprocAttr]
 generalize glueN z hs=a at*
 simp (disch:=omega) only [Cg9,key,EVC,xe,EVP,EV,simprocAttr]
end Go.X.G
/- The laws of zones: the chapter's example. -/
namespace Go.X.G
open Go Go.X
def exL:List Rec:=[⟨[101,120,97,109,112,108,101,46],6,60,{zero with host:=[110,115,46,98,46,101,120,97,109,112,108,101,46],mail:=[109,46,101,120,97,109,112,108,101,46],a:=5,b:=60,c:=60,d:=600,e:=30}⟩,⟨[101,120,97,109,112,108,101,46],2,60,{zero with host:=[110,115,46,98,46,101,120,97,109,112,108,101,46]}⟩,⟨[98,46,101,120,97,109,112,108,101,46],2,60,{zero with host:=[110,115,46,98,46,101,120,97,109,112,108,101,46]}⟩,⟨[101,120,97,109,112,108,101,46],1,60,{zero with lo:=1}⟩,⟨[99,46,100,46,101,120,97,109,112,108,101,46],1,60,{zero with lo:=2}⟩,⟨[110,115,46,98,46,101,120,97,109,112,108,101,46],1,60,{zero with lo:=3}⟩]
def Dp1:Rec:=⟨[98,46,101,120,97,109,112,108,101,46],15,60,{zero with a:=1,host:=[97,46]}⟩
def exO:List UInt8:=[101,120,97,109,112,108,101,46]
theorem Ak0:S Ap3 0 []=some [Af exL]:=(L4 ext_mono).2 ⟨3,by kernel_rfl⟩
theorem Dp2:∀r∈exL++[Dp1],r.wf:=by
 intro r hr
 simp only [exL,Dp1,Bt,Cy,Ah,List.mem_nil_iff,or_false] at hr
 rcases hr with rfl|rfl|rfl|rfl|rfl|rfl|rfl<;>(constructor<;>(try constructor))<;>simp [zero,Gk2,gj,Py]
def exZ:Zone:=⟨exO,sortR exL⟩
theorem pf:J6 exZ=0:=by kernel_rfl
theorem Gs2:J6 ⟨exO,sortR (exL++[Dp1])⟩=13:=by kernel_rfl
theorem Fy1:Db4 exZ [120,46,110,115,46,98,46,101,120,97,109,112,108,101,46]=[98,46,101,120,97,109,112,108,101,46]:=by kernel_rfl
theorem Fy0:Db4 exZ exO=[]:=by kernel_rfl
theorem Fx8:Hj8 exZ [120,46,121,46,100,46,101,120,97,109,112,108,101,46]=[100,46,101,120,97,109,112,108,101,46]:=by kernel_rfl
theorem Fx7:Hj8 exZ [110,115,46,98,46,101,120,97,109,112,108,101,46]=[98,46,101,120,97,109,112,108,101,46]:=by kernel_rfl
theorem Gs1:exB exZ [100,46,101,120,97,109,112,108,101,46]=true:=by kernel_rfl
theorem Gs0:exB exZ [110,115,46,98,46,101,120,97,109,112,108,101,46]=false:=by kernel_rfl
theorem Dz3:namesN exZ=[[101,120,97,109,112,108,101,46],[98,46,101,120,97,109,112,108,101,46],[100,46,101,120,97,109,112,108,101,46],[99,46,100,46,101,120,97,109,112,108,101,46]]:=by unfold namesN;rw [←Y4];kernel_rfl
theorem Fx9:(cutsN exZ).length=1:=by unfold cutsN;rw [←Y4];kernel_rfl
theorem Fx5:glueN exZ [[110,115,46,98,46,101,120,97,109,112,108,101,46],exO]=[⟨[110,115,46,98,46,101,120,97,109,112,108,101,46],1,60,{zero with lo:=3}⟩]:=by kernel_rfl
theorem Gr8:Hd9 exZ=5:=by kernel_rfl
theorem Gr9:exZ.recs.length=6:=by kernel_rfl
theorem Fx6:findR exZ.recs [100,46,101,120,97,109,112,108,101,46] 1=[]:=by kernel_rfl
theorem Gs4 (n:List UInt8) (lo:Int):S Ar0 2 [.s n, .i .u64 lo]=some [Rec.pv ⟨n,1,60,{zero with lo:=lo}⟩]:=by
 refine Hl6 (N:=1) rfl ?_
 simp (disch:=omega) only [Hz6,EVC,xe,EVP,EV,simprocAttr]
 rfl
theorem Aj2:S y0 0 []=some [.b true]:=by
 refine Hm9 (N:=1) rfl ?_
 have hw:∀r∈exL,r.wf:=fun r hr=>Dp2 r (Cb _ hr)
 have ho:Py exO:=by unfold Py exO;decide
 have k0:=Ak0
 have hz:exZ.wf:=nc ho (by decide) hw
 have hl:exZ.recs.length=6:=Gr9
 have ec:J6 ⟨exO,sortR exL⟩=0:=pf
 have k1:=j6 exO exL ho (by decide) hw
 have en:newZ exO exL=exZ:=by unfold newZ;rw [if_pos ec];rfl
 rw [en,ec] at k1
 have k2:=R4 exZ hz (by omega)
 rw [pf] at k2
 have k3:=Aj8 exZ (by omega)
 rw [Gr8] at k3
 have c1:=ct exZ [120,46,110,115,46,98,46,101,120,97,109,112,108,101,46] hz (by omega) (by decide)
 rw [Fy1] at c1
 have c2:=ct exZ exO hz (by omega) (by decide)
 rw [Fy0] at c2
 have e1:=Ow exZ [120,46,121,46,100,46,101,120,97,109,112,108,101,46] hz (by omega) (by decide)
 rw [Fx8] at e1
 have e2:=Ow exZ [110,115,46,98,46,101,120,97,109,112,108,101,46] hz (by omega) (by decide)
 rw [Fx7] at e2
 have n1:=Pt exZ hz (by omega)
 rw [Dz3] at n1
 have u1:=kz exZ hz (by omega)
 have ul:=Fx9
 have g1:=Dd5 exZ [[110,115,46,98,46,101,120,97,109,112,108,101,46],exO] hz (by omega) (by decide) (by decide)
 rw [Fx5] at g1
 have w1:=Aj6 exZ (-1) (by decide)
 have b1:=j6 exO (exL++[Dp1]) ho (by decide) Dp2
 rw [Gs2] at b1
 have a1:=Gs4 [110,115,46,98,46,101,120,97,109,112,108,101,46] 3
 have x1:=Sf exZ [100,46,101,120,97,109,112,108,101,46] hz (by omega)
 rw [Gs1] at x1
 have x2:=Sf exZ [110,115,46,98,46,101,120,97,109,112,108,101,46] hz (by omega)
 rw [Gs0] at x2
 have f1:=L0 exZ [100,46,101,120,97,109,112,108,101,46] 1 (by omega)
 rw [Fx6] at f1
 have eo:([101,120,97,109,112,108,101,46]:List UInt8)=exO:=rfl
 have happ:Hd 16 (Af exL) (Af [⟨[98,46,101,120,97,109,112,108,101,46],15,60,⟨false,0,0,[97,46],[],[],1,0,0,0,0,0,0⟩⟩])=some (Af (exL++[Dp1])):=Nx exL Dp1 (by decide)
 have hlit:I8 16 [PV.a [.s [98,46,101,120,97,109,112,108,101,46], .i .i64 15, .i .i64 60, .b false, .i .u64 0, .i .u64 0, .s [97,46], .s [], .s [], .i .i64 1, .i .i64 0, .i .i64 0, .i .i64 0, .i .i64 0, .i .i64 0, .i .u64 0]]=some (Af [⟨[98,46,101,120,97,109,112,108,101,46],15,60,⟨false,0,0,[97,46],[],[],1,0,0,0,0,0,0⟩⟩]):=rfl
 have hs2:Bc [[110,115,46,98,46,101,120,97,109,112,108,101,46],exO]= .l 1 [.s [110,115,46,98,46,101,120,97,109,112,108,101,46], .s [101,120,97,109,112,108,101,46]]:=rfl
 rw [hs2] at g1
 have hex:PV.s exO= .s [101,120,97,109,112,108,101,46]:=rfl
 rw [hex] at k1 c2 b1
 generalize newZ exO (exL++[Dp1])=nz at*
 generalize exL++[Dp1]=l2 at*
 have hn4:(Bc [[101,120,97,109,112,108,101,46],[98,46,101,120,97,109,112,108,101,46],[100,46,101,120,97,109,112,108,101,46],[99,46,100,46,101,120,97,109,112,108,101,46]])= .l 1 (List.map PV.s [[101,120,97,109,112,108,101,46],[98,46,101,120,97,109,112,108,101,46],[100,46,101,120,97,109,112,108,101,46],[99,46,100,46,101,120,97,109,112,108,101,46]]):=rfl
 generalize cutsN exZ=cz at*
 have hrl:((exZ.recs.length:Nat):Int)=6:=by omega
 generalize exZ=zz at*
 generalize exL=l1 at*
 have hlit2:I8 1 [.s [110,115,46,98,46,101,120,97,109,112,108,101,46], .s [101,120,97,109,112,108,101,46]]=some (.l 1 [.s [110,115,46,98,46,101,120,97,109,112,108,101,46], .s [101,120,97,109,112,108,101,46]]):=rfl
 clear hn4 hs2 hex eo
 simp (disch:=first|omega|decide) only [Hb0,k0,k1,k2,k3,hrl,c1,c2,e1,e2,n1,u1,ul,g1,w1,happ,hlit,hlit2,b1,a1,x1,x2,f1,EVC,xe,EVP,EV,simprocAttr]
end Go.X.G
/- What the laws on tasks are called with. -/
namespace Go.X
structure Begin where
 q:Ques
 zone:List UInt8
 hosts:List (List UInt8)
 addrs:List Adr
structure Actn where
 kind:Int
 n:Int
 odd:Bool
 m:Msg
 host:List UInt8
 addrs:List Adr
def u8r (x:Int):Prop:=0≤x∧x≤255
structure Begin.wf (b:Begin):Prop where
 q:b.q.wf
 zone:Py b.zone
 hosts:b.hosts.length≤9223372036854775807∧∀h∈b.hosts,Py h
 addrs:b.addrs.length≤9223372036854775807
structure Actn.wf (a:Actn):Prop where
 kind:u8r a.kind
 n:u8r a.n
 m:a.m.wf
 host:Py a.host
 addrs:a.addrs.length≤9223372036854775807
def Begin.cells (b:Begin):List PV:=[.s b.q.name, .i .i64 b.q.typ, .s b.zone,Bc b.hosts,Ep b.addrs]
def Begin.pv (b:Begin):PV:= .a b.cells
def Actn.cells (a:Actn):List PV:=[.i .u8 a.kind, .i .u8 a.n, .b a.odd, .i .i64 a.m.id, .i .i64 a.m.op, .i .i64 a.m.code, .b a.m.resp, .b a.m.aa, .b a.m.tc, .b a.m.rd, .b a.m.ra, .b a.m.ad, .b a.m.cd, .b a.m.dok, .i .i64 a.m.size, .s a.m.q.name, .i .i64 a.m.q.typ,Af a.m.ans,Af a.m.auth,Af a.m.ext, .s a.host,Ep a.addrs]
def Actn.pv (a:Actn):PV:= .a a.cells
theorem Dv4 {e:Sh} {α:Type} (W:α→Prop) (pv:α→PV) (hag:e.agg=false) (h1:∀p,e.okC [p]→∃x,W x∧p=pv x) {cs:List PV} (h:(Sh.l e).okC cs):∃l:List α,l.length≤9223372036854775807∧(∀x∈l,W x)∧cs=[.l e.size (l.map pv)]:=by
 simp only [Sh.okC,hag,Ab,if_false] at h
 obtain ⟨xs,rfl,hl,hx⟩:=h
 have go:∀xs:List PV,(∀x,x∈xs→x.scal=true∧e.okC [x])→∃l:List α,(∀r∈l,W r)∧xs=l.map pv:=by
  intro xs
  induction xs with
  |nil=>exact fun _=>⟨[],fun r h=>(by cases h),rfl⟩
  |cons x xs ih=>
   intro hx
   obtain ⟨l,g1,rfl⟩:=ih (fun y hy=>hx y (H2 _ hy))
   obtain ⟨r,hr,rfl⟩:=h1 x (hx x (E4 ..)).2
   refine ⟨r::l,fun y hy=> ?_,rfl⟩
   rcases Ah.1 hy with rfl|hy
   ·exact hr
   ·exact g1 y hy
 obtain ⟨l,g1,rfl⟩:=go xs hx
 exact ⟨l,by simpa [maxLen] using hl,g1,rfl⟩
theorem Gf3 {cs:List PV} (h:(Sh.i .u8).okC cs):∃x,cs=[.i .u8 x]∧u8r x:=by
 simp only [Sh.okC] at h
 obtain ⟨n,rfl,h1,h2⟩:=h
 exact ⟨n,rfl,h1,h2⟩
end Go.X
/- The law ZoneShuffles. -/
namespace Go.X
def dv (l:List Int):PV:= .l 1 (l.map (.i .u8))
theorem Q4 (l:List Int):Fs (dv l)=some (.i .i64 (l.length:Int)):=by simp [dv,Fs]
theorem f8 (l:List Int) (k:IntKind) (z:Int) (h:0≤z):G9 1 (dv l) (.i k z)=(l[z.toNat]?).map (PV.i .u8):=by simp [dv,V0 _ _ _ _ h]
theorem Fk5 {p:PV} (h:(Sh.l (.i .u8)).ok p):∃l:List Int,(l.length≤9223372036854775807∧∀x∈l,u8r x)∧p=dv l:=by
 have h':p.scal=true∧(Sh.l (.i .u8)).okC [p]:=h
 obtain ⟨l,h1,h2,h3⟩:=Dv4 (fun x=>u8r x) (PV.i .u8) rfl (fun p hp=>by
  obtain ⟨x,hx,hs⟩:=Gf3 hp
  injection hx with hx
  exact ⟨x,hs,hx⟩) h'.2
 injection h3 with h3
 exact ⟨l,⟨h1,h2⟩,h3⟩
end Go.X
namespace Go.X.G
open Go Go.X
theorem Wc {z:Zone} (h:J6 z=0):z.recs=sortR z.recs:=by
 unfold J6 at h
 repeat' (split at h;· first|exact absurd h (by decide)|(next h5=>exact absurd h (by decide)))
 ·rename_i h5 _ _
  exact If.1 h5
theorem nr:∀{l:List Rec},Cf4 l→∀{a b:Rec},a∈l→b∈l→Fx a=Fx b→a=b
 |[],_,a,b,ha,_,_=>by cases ha
 |x::r,h,a,b,ha,hb,e=>by
  obtain ⟨h1,h2⟩:=Ar.1 h
  rcases Ah.1 ha with e1|ha1<;>rcases Ah.1 hb with e2|hb1
  ·rw [e1,e2]
  ·have:=h1 b hb1;rw [←e1,e] at this;exact absurd this (to_F.irr _)
  ·have:=h1 a ha1;rw [←e2,e] at this;exact absurd this (to_F.irr _)
  ·exact nr h2 ha1 hb1 e
theorem vq {s l:List Rec} (hs:Cf4 s) (h:∀r,r∈l↔r∈s):sortR l=s:=by
 obtain ⟨g1,g2⟩:=K7 l
 refine d3 _ _ g1 hs fun x=> ?_
 rw [g2]
 constructor
 ·intro q;exact (h x).1 q.mem
 ·intro q
  obtain ⟨z,hz,e,_⟩:=Cz2 l x ((h x).2 q)
  have:z=x:=nr hs ((h z).1 hz.mem) q e
  rw [←this];exact hz
theorem Es4 (l:List Rec) (i n:Nat) (hi:i<l.length) (hn:n<l.length) (r:Rec):r∈(l.set i l[n]).set n l[i]↔r∈l:=by
 rw [List.mem_iff_getElem?,List.mem_iff_getElem?]
 constructor
 ·rintro ⟨j,hj⟩
  by_cases h1:n=j
  ·subst h1
   rw [Fq (by rw [Ev];exact hn)] at hj
   exact ⟨i,by rw [←hj];exact Ax hi⟩
  ·rw [Dd h1] at hj
   by_cases h2:i=j
   ·subst h2
    rw [Fq hi] at hj
    exact ⟨n,by rw [←hj];exact Ax hn⟩
   ·rw [Dd h2] at hj
    exact ⟨j,hj⟩
 ·rintro ⟨j,hj⟩
  by_cases h1:j=i
  ·subst h1
   exact ⟨n,by rw [Fq (by rw [Ev];exact hn),←hj];exact (Ax hi).symm⟩
  ·by_cases h2:j=n
   ·subst h2
    refine ⟨i,?_⟩
    rw [Dd (fun e=>h1 e),Fq hi,←hj]
    exact (Ax hn).symm
   ·exact ⟨j,by rw [Dd (fun e=>h2 e.symm),Dd (fun e=>h1 e.symm)];exact hj⟩
def stp (zs l:List Rec) (i:Nat) (k:Int):List Rec:=
 if i<zs.length then
  match l[i]?,l[(k % (zs.length:Int)).toNat]?,zs[(k % (zs.length:Int)).toNat]? with
  |some x,some y,some w=>if k % 5=0 then ((l.set i y).set (k % (zs.length:Int)).toNat x)++[w] else (l.set i y).set (k % (zs.length:Int)).toNat x
  |_,_,_=>l
 else l
structure StpI (zs:List Rec) (i:Nat) (l:List Rec):Prop where
 mem:∀r,r∈l↔r∈zs
 lo:zs.length≤l.length
 hi:l.length≤zs.length+min i zs.length
theorem Ax5 {zs l:List Rec} {i:Nat} {k:Int} (h:StpI zs i l) (hk:0≤k):StpI zs (i+1) (stp zs l i k):=by
 obtain ⟨h1,h2,h3⟩:=h
 unfold stp
 by_cases hi:i<zs.length
 ·rw [if_pos hi]
  have hp:0<(zs.length:Int):=by omega
  have hn:=Int.emod_lt_of_pos k hp
  have hn0:=Int.emod_nonneg k (show (zs.length:Int)≠0 by omega)
  generalize k % (zs.length:Int)=m at*
  have hm:m.toNat<zs.length:=by omega
  rw [Ax (show i<l.length by omega),Ax (show m.toNat<l.length by omega),Ax hm]
  simp only
  have hs:=Es4 l i m.toNat (by omega) (by omega)
  by_cases h5:k % 5=0
  ·rw [if_pos h5]
   refine ⟨fun r=> ?_,by simp;omega,by simp;omega⟩
   rw [Bp,hs,h1]
   constructor
   ·rintro (h|h)
    ·exact h
    ·rw [B5.1 h];exact Dj hm
   ·exact .inl
  ·rw [if_neg h5]
   exact ⟨fun r=>by rw [hs,h1],by simp;omega,by simp;omega⟩
 ·rw [if_neg hi]
  exact ⟨h1,h2,by omega⟩
def shf (zs:List Rec):Nat→List Rec→List Int→List Rec
 |_,l,[]=>l
 |i,l,k::r=>shf zs (i+1) (stp zs l i k) r
theorem Ay3 (zs:List Rec):∀(ks:List Int) (i:Nat) (l:List Rec),(∀k∈ks,0≤k)→StpI zs i l→StpI zs (i+ks.length) (shf zs i l ks)
 |[],i,l,_,h=>h
 |k::r,i,l,hk,h=>by
  have:=Ay3 zs r (i+1) (stp zs l i k) (fun x hx=>hk x (.tail _ hx)) (Ax5 h (hk k (.head _)))
  rw [show i+(k::r).length=i+1+r.length by simp;omega]
  exact this
theorem j5 (z:Zone) (p0 p3:PV) (ks:List Int) (hk:ks.length≤9223372036854775807∧∀x∈ks,u8r x) (hl:z.recs.length≤70):
  Gf9.ev S (ks.length+1) [p0,dv ks,z.pv,p3]=some (.yld 0 [Af (shf z.recs 0 z.recs ks)]):=by
 refine G3 ks (fun i l=>[Af l, .i .i64 (i:Int)]) (fun i l r=> .yld 0 [Af (shf z.recs i l r)]) (fun i l=>StpI z.recs i l) z.recs ?_ ⟨fun r=>Iff.rfl,Ac _,by omega⟩ (by omega) (fun i l c r hd hi hc hI=> ?_) (fun l _=> ?_)
 ·have ap:Hd 16 (Af []) (Af z.recs)=some (Af z.recs):=by
   have:=Ps [] z.recs (by simp;omega)
   simpa using this
  simp (disch:=omega) only [oj,ap,xe,EVP,EV,simprocAttr]
 ·left
  refine ⟨stp z.recs l i c,?_,Ax5 hI (hk.2 c (A5 hc)).1,rfl⟩
  obtain ⟨hc0,hc1⟩:=hk.2 c (A5 hc)
  obtain ⟨h1,h2,h3⟩:=hI
  have hk1:=hk.1
  by_cases hi2:i<z.recs.length
  ·have hp:0<(z.recs.length:Int):=by omega
   have hn:=Int.emod_lt_of_pos c hp
   have hn0:=Int.emod_nonneg c (show (z.recs.length:Int)≠0 by omega)
   unfold stp
   rw [if_pos hi2]
   have a1:l[i]? =some (l[i]'(by omega)):=Ax (by omega)
   have a2:l[(c % (z.recs.length:Int)).toNat]? =some (l[(c % (z.recs.length:Int)).toNat]'(by omega)):=Ax (by omega)
   have a3:z.recs[(c % (z.recs.length:Int)).toNat]? =some (z.recs[(c % (z.recs.length:Int)).toNat]'(by omega)):=Ax (by omega)
   generalize l[i]'(by omega)=x at*
   generalize l[(c % (z.recs.length:Int)).toNat]'(by omega)=y at*
   generalize z.recs[(c % (z.recs.length:Int)).toNat]'(by omega)=w at*
   rw [a1,a2,a3]
   simp only
   have hm:(c % (z.recs.length:Int)).toNat<l.length:=by omega
   have e1:(l.set i y)[(c % (z.recs.length:Int)).toNat]? =some y:=by
    by_cases e:i=(c % (z.recs.length:Int)).toNat
    ·rw [←e,Fq (by omega)]
    ·rw [Dd e];exact a2
   by_cases h5:c % 5=0
   ·rw [if_pos h5]
    simp (disch:=first|omega|(simp only [Ev];omega)) only [Fn6,Q4,f8,hc,a1,a2,a3,e1,h5,hi2,ff,Nx,EVC,xe,EVP,EV,simprocAttr]
   ·rw [if_neg h5]
    simp (disch:=first|omega|(simp only [Ev];omega)) only [Fn6,Q4,f8,hc,a1,a2,a3,e1,h5,hi2,ff,Nx,EVC,xe,EVP,EV,simprocAttr]
  ·unfold stp
   rw [if_neg hi2]
   simp (disch:=omega) only [Fn6,Q4,f8,hc,hi2,EVC,xe,EVP,EV,simprocAttr]
 ·refine ⟨?_,rfl⟩
  simp (disch:=omega) only [Fn6,Q4,EVC,xe,EVP,EV,simprocAttr]
  rfl
theorem law_ZoneShuffles (z:Zone) (ks:List Int) (hz:z.wf) (hk:ks.length≤9223372036854775807∧∀x∈ks,u8r x):S Gf6 2 [z.pv,dv ks]=some [.b true]:=by
 refine Iy3 (N:=ks.length+1) rfl ?_
 have k0:=Dd4 z hz
 have hw:=Ay0 hz
 have hl:=vw z
 generalize smallZ z=s at*
 have k3:=R4 s hw (by omega)
 have ka:=Aj2
 have kl:=fun p0 p3=>j5 s p0 p3 ks hk hl
 have hI:=Ay3 s.recs ks 0 s.recs (fun k h=>(hk.2 k h).1) ⟨fun r=>Iff.rfl,Ac _,by omega⟩
 generalize shf s.recs 0 s.recs ks=l at*
 obtain ⟨h1,h2,h3⟩:=hI
 by_cases hc:J6 s=0
 ·have e:sortR l=s.recs:=vq (by rw [Wc hc];exact (K7 _).1) h1
  have k1:=j6 s.origin l hw.origin (by omega) (fun r hr=>hw.recs.2 r ((h1 r).1 hr))
  have e2:newZ s.origin l=s:=by
   unfold newZ
   rw [e]
   rw [show (⟨s.origin,s.recs⟩:Zone)=s from rfl,if_pos hc]
  rw [e2,e,show (⟨s.origin,s.recs⟩:Zone)=s from rfl,hc] at k1
  have k5:=Az1 s s (by omega)
  have h9:=hk.1
  simp (disch:=omega) only [Fn6,Q4,k0,k1,k3,k5,ka,kl,hc,H8,V7,EVC,xe,EVP,EV,simprocAttr]
 ·simp (disch:=omega) only [Fn6,k0,k3,ka,hc,H8,V7,EVC,xe,EVP,EV,simprocAttr]
end Go.X.G
