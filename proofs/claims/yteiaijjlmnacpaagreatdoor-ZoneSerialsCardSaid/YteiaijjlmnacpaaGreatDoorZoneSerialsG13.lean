/- What exists in a zone, and what encloses a name; names with another end. -/
import Derived.Test.YteiaijjlmnacpaaGreatDoorZoneSerialsG12
import Derived.Test.YteiaijjlmnacpaaGreatDoorZoneSerialsG9
import Derived.Test.YteiaijjlmnacpaaGreatDoorZoneSerialsG11
import Derived.Test.YteiaijjlmnacpaaGreatDoorZoneSerialsG10
open Bool renaming and_eq_true→Aq,eq_false_or_eq_true→Av,or_eq_true→Am,not_eq_true'→A3,eq_iff_iff→Cf,not_eq_false→Dm,and_eq_false_iff→Fg,and_true→J6
open Classical renaming not_not→En
open Int renaming toNat_natCast→Gf
open List renaming getElem?_eq_some_iff→Ak,getElem?_eq_getElem→Ay,length_append→Az,mem_cons→Ah,length_take→Al,pairwise_cons→An,length_cons→As,mem_of_getElem?→A6,all_eq_true→Bj,getElem?_map→By,take_append_drop→Bl,mem_filter→Bp,cons_append→Bt,mem_singleton→B4,any_eq_true→B6,drop_eq_getElem_cons→B9,nil_append→Cy,take_add_one→Cz,mem_append_left→Cb,mem_map→Cs,getElem?_set→C0,take_length→C2,take_of_length_le→C3,getElem?_cons_succ→C7,length_map→C8,filter_cons_of_pos→Dz,filter_eq_nil_iff→Ev,map_cons→Ec,length_filter_le→Ef,mem_of_mem_take→E6,filter_append→E7,flatMap_cons→Gd,filter_cons→Hf,drop_of_length_le→Ul
open Nat renaming le_refl→Ac,mul_le_mul→Gc,min_eq_left→Md,mul_one→Av8
open Option renaming bind_some→Ax,map_some→A0
set_option maxHeartbeats 1000000
set_option linter.unusedVariables false
set_option linter.unusedSimpArgs false
namespace Go.X.G
open Go Go.X
def exB (z:Zone) (x:List UInt8):Bool:=z.recs.any fun r=>under r.name z.origin && !Wj z r.name && under r.name x && under x z.origin
theorem Ds3 (z:Zone) (x:List UInt8):exB z x=true↔Ds0 z x:=by
 unfold exB Ds0
 simp only [B6,Aq,A3,and_assoc]
theorem Bz1 (z:Zone) (x:List UInt8):decide (x∈namesN z)=exB z x:=by
 rw [Cf,Ds3,←y1]
 simp
theorem Td (z:Zone) (hl:z.recs.length≤1000):(namesN z).length≤1000000:=by
 have h1:=Vq (Ft9 z)
 have h2:∀l:List Rec,(l.flatMap fun r=>upN z.origin r.name).length≤256*l.length:=by
  intro l
  induction l with
  |nil=>simp
  |cons x r ih=>
   have:=dt z.origin x.name
   rw [Gd,Az,As];omega
 have h3:=h2 (z.recs.filter fun r=>under r.name z.origin && !Wj z r.name)
 have h4:=Ef (fun r=>under r.name z.origin && !Wj z r.name) z.recs
 show (setN (Ft9 z)).length≤1000000
 unfold Ft9 at h1 ⊢
 omega
theorem S4 (z:Zone) (n:List UInt8) (hz:z.wf) (hl:z.recs.length≤1000):S zy 2 [z.pv, .s n]=some [.b (exB z n)]:=by
 refine Hp7 (N:=1) rfl ?_
 have k1:=P9 z hz hl
 have k2:=Px (namesN z) n (Td z hl)
 rw [Bz1] at k2
 generalize namesN z=nz at*
 simp (disch:=omega) only [Hd4,k1,k2,EVM,EVC,xe,EVP,EV,simprocAttr]
def Hv2 (z:Zone) (n:List UInt8):Option (List UInt8):=(upN z.origin n).find? (exB z)
def Hv3 (z:Zone) (n:List UInt8):List UInt8:=if under n z.origin=true then (Hv2 z n).getD [] else []
theorem Gv5 {n:List UInt8} (h:vld n=true):n≠[]:=fun e=>by subst e;simp [vld,nm] at h
theorem Bz5 {z:Zone} {n e:List UInt8} (hu:under n z.origin=true) (h:Hv2 z n=some e):under n e=true∧exB z e=true:=by
 unfold Hv2 at h
 have h1:=List.mem_of_find?_eq_some h
 have h2:=List.find?_some h
 exact ⟨((Qy hu).1 h1).1,h2⟩
theorem Oh (z:Zone) (n:List UInt8) (hz:z.wf) (hl:z.recs.length≤1000) (hn:n.length≤9223372036854775807):S zc 2 [z.pv, .s n]=some [.s (Hv3 z n), .b (decide (Hv3 z n≠[]))]:=by
 refine Hr0 (N:=1000) rfl ?_
 have g1:=hz.origin
 unfold Pp at g1
 have k0:=Gt n z.origin hn g1
 unfold Hv3
 rcases Av (under n z.origin) with hu|hu
 ·rw [if_pos hu]
  rw [hu] at k0
  have k1:=P9 z hz hl
  have hnl:=Td z hl
  have k2:∀x,S f3 2 [Bd (namesN z), .s x]=some [.b (exB z x)]:=fun x=>by rw [←Bz1];exact Px (namesN z) x hnl
  generalize namesN z=nz at*
  obtain ⟨v1,v2,_⟩:=Ct.1 hu
  have hlb:=Mz n
  have h0:jn ((lbl n).drop 0)=n:=Bw8 v1
  let res:Option (List UInt8)→Out:=fun o=>match o with|some e=> .yld 0 [.s e]|none=> .ret [.s [], .b false]
  have key:Dr4.ev S 1000 [z.pv, .s n, .b true,Bd nz]=some (res (Hv2 z n)):=by
   have:=Gw (fn:=S) (N:=1000) (η:=[z.pv, .s n, .b true,Bd nz]) (id:=1) (init:=[(.v 1)]) (body:=Cd6) ((lbl n).length - (lbl z.origin).length)
    (fun k=>[.s (jn ((lbl n).drop k))]) (fun k=>res (((upN z.origin n).drop k).find? (exB z))) ?_ (by omega) (fun k hk=> ?_) ?_
   ·exact this
   ·rw [h0]
    simp (disch:=omega) only [EVM,EVC,xe,EVP,EV,simprocAttr]
   ·have hup:(upN z.origin n)[k]? =some (jn ((lbl n).drop k)):=U6 (Nat.le_of_lt hk)
    have hd:(upN z.origin n).drop k=jn ((lbl n).drop k)::(upN z.origin n).drop (k+1):=by
     obtain ⟨h1,h2⟩:=Ak.1 hup
     rw [B9 h1,h2]
    obtain ⟨q1,q2⟩:=Dh9 hu hk
    have q3:¬jn ((lbl n).drop k)=z.origin:=fun h=>by have:=(ln hu (Nat.le_of_lt hk)).1 h;omega
    have q4:=Dr9 v1 k
    have k1:=Uf (jn ((lbl n).drop k)) (by omega)
    rw [q1,q2] at k1
    have k3:=k2 (jn ((lbl n).drop k))
    rw [hd]
    generalize jn ((lbl n).drop (k+1))=nx at*
    generalize jn ((lbl n).drop k)=cu at*
    rcases Av (exB z cu) with h5|h5
    ·right
     rw [h5] at k3
     rw [List.find?_cons_of_pos h5]
     refine ⟨?_,rfl⟩
     simp (disch:=omega) only [dn,k3,EVM,EVC,xe,EVP,EV,simprocAttr]
     rfl
    ·left
     rw [h5] at k3
     rw [List.find?_cons_of_neg (by simp [h5])]
     refine ⟨?_,rfl⟩
     simp (disch:=omega) only [dn,k1,k3,q3,EVM,EVC,xe,EVP,EV,simprocAttr]
   ·have hup:(upN z.origin n)[(lbl n).length - (lbl z.origin).length]? =some (jn ((lbl n).drop ((lbl n).length - (lbl z.origin).length))):=U6 (Ac _)
    have hd:(upN z.origin n).drop ((lbl n).length - (lbl z.origin).length)=[jn ((lbl n).drop ((lbl n).length - (lbl z.origin).length))]:=by
     obtain ⟨h1,h2⟩:=Ak.1 hup
     have h9:(upN z.origin n).drop ((lbl n).length - (lbl z.origin).length+1)=[]:=Ul (by simp [upN])
     rw [B9 h1,h2,h9]
    have q3:=(ln hu (Ac _)).2 rfl
    rw [hd,q3]
    have k3:=k2 z.origin
    rcases Av (exB z z.origin) with h5|h5
    ·rw [h5] at k3
     rw [List.find?_cons_of_pos h5]
     refine ⟨?_,rfl⟩
     simp (disch:=omega) only [dn,k3,EVM,EVC,xe,EVP,EV,simprocAttr]
     rfl
    ·rw [h5] at k3
     rw [List.find?_cons_of_neg (by simp [h5]),List.find?_nil]
     refine ⟨?_,rfl⟩
     simp (disch:=omega) only [dn,k3,EVM,EVC,xe,EVP,EV,simprocAttr]
     rfl
  cases he:Hv2 z n with
  |none=>
   rw [he] at key
   simp only [res] at key
   simp (disch:=omega) only [dn,k0,k1,key,EVM,EVC,xe,EVP,EV,simprocAttr]
   simp
  |some e=>
   rw [he] at key
   simp only [res] at key
   have h6:=Gv5 (Ct.1 (Bz5 hu he).1).2.1
   simp (disch:=omega) only [dn,k0,k1,key,EVM,EVC,xe,EVP,EV,simprocAttr]
   simp [h6]
 ·rw [if_neg (by simp [hu])]
  rw [hu] at k0
  simp (disch:=omega) only [dn,k0,EVM,EVC,xe,EVP,EV,simprocAttr]
  try simp
end Go.X.G
/- The law LookupSoas. -/
namespace Go.X.G
open Go Go.X
theorem L5 (z:Zone) (n:List UInt8) (t:Int) (hl:z.recs.length≤1000000):S f8 3 [z.pv, .s n, .i .i64 t]=some [Af (findR z.recs n t)]:=by
 refine Hr2 (N:=1) rfl ?_
 simp (disch:=omega) only [Hd5,Dg6,xe,EVP,EV,simprocAttr]
def soaR (z:Zone):List Rec:=match findR z.recs z.origin 6 with
 |[]=>[]
 |r::_=>[{r with ttl:=if r.data.e<r.ttl then r.data.e else r.ttl}]
def zero:Dat:=⟨false,0,0,[],[],[],0,0,0,0,0,0,0⟩
end Go.X.G
/- The laws of zones: what they call. -/
namespace Go.X.G
open Go Go.X
theorem Gn (o:List UInt8) (l:List Rec):PV.a [.s o,Af l]=Zone.pv ⟨o,l⟩:=rfl
theorem P5 (z:Zone):(⟨z.origin,z.recs⟩:Zone)=z:=rfl
def c3 (s:List UInt8):List UInt8:=s.take 300
def Jx (r:Rec):Rec:=⟨c3 r.name,r.typ,r.ttl,{r.data with host:=c3 r.data.host,mail:=c3 r.data.mail,text:=c3 r.data.text}⟩
def smallZ (z:Zone):Zone:=⟨c3 z.origin,(z.recs.take 70).map Jx⟩
theorem Ez4 (s:List UInt8):(c3 s).length≤300:=by unfold c3;rw [Al];omega
theorem Bb6 {r:Rec} (h:r.wf):(Jx r).wf:=by
 have hs:∀s:List UInt8,Pp (c3 s):=fun s=>by have:=Ez4 s;unfold Pp;omega
 exact ⟨hs _,h.typ,h.ttl,⟨h.data.hi,h.data.lo,hs _,hs _,hs _,h.data.a,h.data.b,h.data.c,h.data.d,h.data.e,h.data.f,h.data.bits⟩⟩
theorem Ab2 {z:Zone} (h:z.wf):(smallZ z).wf:=by
 refine ⟨by have:=Ez4 z.origin;unfold smallZ Pp;simp only;omega,by simp [smallZ];omega,fun r hr=> ?_⟩
 simp only [smallZ,Cs] at hr
 obtain ⟨x,hx,rfl⟩:=hr
 exact Bb6 (h.recs.2 x (E6 hx))
theorem wx (z:Zone):(smallZ z).recs.length≤70:=by simp [smallZ];omega
theorem Yx (s:List UInt8) (hs:s.length≤9223372036854775807):Yy (.s s) (.i .i64 0) (.i .i64 (if (300:Int)<(s.length:Int) then 300 else (s.length:Int)))=some (.s (c3 s)):=by
 unfold c3
 by_cases h:(300:Int)<(s.length:Int)
 ·rw [if_pos h]
  have h1:(0:Int)≤0∧(0:Int)≤300∧(300:Int)≤(s.length:Int):=by omega
  simp only [Yy,h1,and_self,if_true]
  rfl
 ·rw [if_neg h]
  have h1:(0:Int)≤0∧(0:Int)≤(s.length:Int)∧(s.length:Int)≤(s.length:Int):=by omega
  simp only [Yy,h1,and_self,if_true,Gf,C2]
  rw [C3 (by omega)]
  rfl
theorem Gl4 (n:Int):Dy1 (.i .i64 n) (.i .i64 300)=some (.i .i64 (if (300:Int)<n then 300 else n)):=by simp [Dy1]
theorem Dg4 (z:Zone) (hz:z.wf):S Bj6 1 [z.pv]=some [(smallZ z).pv]:=by
 obtain ⟨N,hN⟩:∃N:Nat,N=72:=⟨_,rfl⟩
 refine Hr9 (N:=N) rfl ?_
 have hzl:z.origin.length≤9223372036854775807:=hz.origin
 have hrl:=hz.recs.1
 have key:Dr8.ev S N [z.pv]=some (.yld 0 [Af ((z.recs.take 70).map Jx)]):=by
  have hm:(z.recs.take 70).length≤70:=by simp;omega
  refine Ey (z.recs.take 70) (fun i=>[Af ((z.recs.take i).map Jx), .i .i64 (i:Int)]) (fun i r=> .yld 0 [Af ((z.recs.take 70).map Jx)]) rfl (by omega) (fun i c r hd hi hc=> ?_) ?_
  ·left
   refine ⟨?_,rfl⟩
   have hi70:i<70:=by omega
   have hc':z.recs[i]? =some c:=by rw [←hc,List.getElem?_take_of_lt hi70]
   have hil:=(Ak.1 hc').1
   have hcw:=hz.recs.2 c (A6 hc')
   have e:(z.recs.take (i+1)).map Jx=(z.recs.take i).map Jx++[Jx c]:=by rw [Cz,hc'];simp
   have hlen:((z.recs.take i).map Jx).length=i:=by rw [C8,Al];omega
   have s1:=Yx c.name hcw.name
   have s2:=Yx c.data.host hcw.data.host
   have s3:=Yx c.data.mail hcw.data.mail
   have s4:=Yx c.data.text hcw.data.text
   have h1:(i:Int)<(z.recs.length:Int):=by omega
   have h2:(i:Int)<70:=by omega
   have ei:(i:Int).toNat=i:=by omega
   rw [e]
   generalize (z.recs.take i).map Jx=a at*
   simp (disch:=omega) only [Cm1,h1,h2,ei,hc',Gl4,s1,s2,s3,s4,EVC,xe,EVP,EV,simprocAttr]
   rfl
  ·refine ⟨?_,rfl⟩
   have e:z.recs.take (z.recs.take 70).length=z.recs.take 70:=by
    rw [Al]
    by_cases h:z.recs.length≤70
    ·rw [Nat.min_eq_right h,C2,C3 h]
    ·rw [Md (by omega)]
   have hlen:((z.recs.take 70).length:Int)=if 70<z.recs.length then 70 else (z.recs.length:Int):=by
    rw [Al];split<;>omega
   rw [e,hlen]
   by_cases h:70<z.recs.length
   ·rw [if_pos h]
    have h1:(70:Int)<(z.recs.length:Int):=by omega
    generalize (z.recs.take 70).map Jx=a at*
    simp (disch:=omega) only [Cm1,h1,EVC,xe,EVP,EV,simprocAttr]
   ·rw [if_neg h]
    have h1:¬(z.recs.length:Int)<(z.recs.length:Int):=by omega
    generalize (z.recs.take 70).map Jx=a at*
    simp (disch:=omega) only [Cm1,h1,EVC,xe,EVP,EV,simprocAttr]
 have s0:=Yx z.origin hzl
 unfold smallZ
 generalize (z.recs.take 70).map Jx=a at*
 simp (disch:=omega) only [Cm1,key,Gl4,s0,Gn,EVC,xe,EVP,EV,simprocAttr]
theorem Ac4 (a b:Zone) (ha:a.recs.length≤1000000):S Bj4 2 [a.pv,b.pv]=some [.b (decide (a=b))]:=by
 refine Hr6 (N:=1) rfl ?_
 have k:=Ch0 a.recs b.recs ha
 by_cases h1:a.origin=b.origin
 ·have e:decide (a=b)=decide (a.recs=b.recs):=by
   rw [Cf,decide_eq_true_eq,decide_eq_true_eq]
   exact ⟨fun h=>by rw [h],fun h=>by cases a;cases b;simp only at h h1;rw [h,h1]⟩
  rw [e]
  simp (disch:=omega) only [Gj8,k,h1,EVC,xe,EVP,EV,simprocAttr]
 ·have e:decide (a=b)=false:=decide_eq_false fun h=>h1 (by rw [h])
  rw [e]
  simp (disch:=omega) only [Gj8,h1,EVC,xe,EVP,EV,simprocAttr]
def newZ (o:List UInt8) (l:List Rec):Zone:=if G1 ⟨o,sortR l⟩=0 then ⟨o,sortR l⟩ else ⟨[],[]⟩
theorem Dk5 {l:List Rec} (h:∀r∈l,r.wf):∀r∈sortR l,r.wf:=fun r hr=>h r (((Lj l).2 r).1 hr).mem
theorem ov {o:List UInt8} {l:List Rec} (ho:Pp o) (hl:l.length≤1000000) (hw:∀r∈l,r.wf):(⟨o,sortR l⟩:Zone).wf:=by
 have:=Yb l hw hl
 exact ⟨ho,by simp only;omega,Dk5 hw⟩
theorem Cg4 (o:List UInt8) (l:List Rec) (ho:Pp o) (hl:l.length≤1000000) (hw:∀r∈l,r.wf):S zf 2 [.s o,Af l]=some [(newZ o l).pv, .i .i64 (G1 ⟨o,sortR l⟩)]:=by
 refine Hr8 (N:=1) rfl ?_
 have k1:=vz l hw hl
 have hlen:=Yb l hw hl
 have k2:=Nm ⟨o,sortR l⟩ (ov ho hl hw) (by simp only;omega)
 unfold newZ
 generalize sortR l=s at*
 by_cases h:G1 ⟨o,s⟩=0
 ·rw [if_pos h]
  rw [h] at k2 ⊢
  simp (disch:=omega) only [Gk7,k1,k2,Gn,EVC,xe,EVP,EV,simprocAttr]
 ·rw [if_neg h]
  simp (disch:=omega) only [Gk7,k1,k2,h,Gn,EVC,xe,EVP,EV,simprocAttr]
end Go.X.G
/- The laws of zones: serial numbers, addresses of hosts, the chapter's example. -/
namespace Go.X.G
open Go Go.X
def Yc (z:Zone) (r:Rec):Bool:=decide (r.typ=6) && decide (r.name=z.origin)
theorem Yd (z:Zone) (r:Rec):S T3 1 [r.pv,z.pv]=some [.b (Yc z r)]:=by
 refine Gd9 (N:=1) rfl ?_
 unfold Yc
 by_cases h:r.typ=6
 ·simp (disch:=omega) only [Dh8,h,EVC,xe,EVP,EV,simprocAttr]
  try simp
 ·simp (disch:=omega) only [Dh8,h,EVC,xe,EVP,EV,simprocAttr]
  try simp
theorem Qh (z:Zone) (hl:z.recs.length≤1000000):S zj 1 [z.pv]=some [.i .i64 (ixG (Yc z) 0 z.recs)]:=by
 refine Hn0 (N:=1) rfl ?_
 have h:=S3 z.recs T3 [z.pv] (Yc z) hl (fun r _=>Yd z r)
 simp (disch:=omega) only [Hc6,Gn,P5,h,EVC,xe,EVP,EV,simprocAttr]
theorem N5 (z:Zone):findR z.recs z.origin 6=z.recs.filter (Yc z):=by
 unfold findR
 congr 1
 funext r
 unfold isK Yc
 rw [Bool.and_comm]
def serN (z:Zone):Int:=match findR z.recs z.origin 6 with
 |[]=>0
 |r::_=>r.data.a
theorem ix_find (p:Rec→Bool) (l:List Rec):(ixG p 0 l= -1∧l.filter p=[])∨∃(j:Nat) (x:Rec) (r:List Rec),ixG p 0 l=(j:Int)∧l[j]? =some x∧p x=true∧l.filter p=x::r:=by
 have h:=gn p l 0
 by_cases hn:0≤ixG p 0 l
 ·right
  obtain ⟨j,g1,g2,g3,x,g4,g5⟩:=ax p l 0 hn
  have hd:l=l.take j++x::l.drop (j+1):=by
   have:=B9 g2
   have e:l[j]=x:=by rw [Ay g2] at g4;injection g4
   rw [e] at this
   rw [←this,Bl]
  refine ⟨j,x,(l.drop (j+1)).filter p,by rw [g1];simp,g4,g5,?_⟩
  conv=>lhs;rw [hd]
  rw [E7,Dz g5]
  have:(l.take j).filter p=[]:=Ev.2 fun y hy=>by simp [g3 y hy]
  rw [this,Cy]
 ·left
  refine ⟨by omega,Ev.2 fun y hy=> ?_⟩
  intro hp
  exact hn (h.1.2 (B6.2 ⟨y,hy,hp⟩))
theorem Of (z:Zone) (hl:z.recs.length≤1000000):S gj 1 [z.pv]=some [.i .i64 (serN z)]:=by
 refine Hr4 (N:=1) rfl ?_
 have h:=Qh z hl
 unfold serN
 rw [N5]
 rcases ix_find (Yc z) z.recs with ⟨h1,h2⟩|⟨j,x,r,h1,h2,h3,h4⟩
 ·rw [h1] at h
  rw [h2]
  simp (disch:=omega) only [Gj6,h,EVC,xe,EVP,EV,simprocAttr]
 ·rw [h1] at h
  rw [h4]
  have hj:(0:Int)≤(j:Int):=by omega
  have ej:(j:Int).toNat=j:=by omega
  simp (disch:=omega) only [Gj6,h,hj,ej,h2,EVC,xe,EVP,EV,simprocAttr]
def setA (s:Int) (r:Rec):Rec:={r with data:={r.data with a:=s}}
def withL (z:Zone) (s:Int):Zone:=⟨z.origin,z.recs.map fun r=>if r.typ=6 then setA s r else r⟩
theorem Hh6 (l:List Rec) (j:Nat) (s:Int) (x:Rec) (h:l[j]? =some x):Qm 16 9 [.i .i64 s] (Af l) (.i .i64 (j:Int))=some (Af (l.set j (setA s x))):=by
 have h1:=(Ak.1 h).1
 have h3:(l.map Rec.pv)[j]? =some x.pv:=by rw [By,h];rfl
 have h0:(0:Int)≤(j:Int):=by omega
 simp only [Qm,Af,h0,Gf,h3,and_self,if_true,Ax]
 have h4:N6 x.pv 9 [.i .i64 s]=some (setA s x).pv:=rfl
 rw [h4]
 simp [List.map_set]
theorem Ay4 {z:Zone} (hz:ZOk z) (s:Int) {j:Nat} {x:Rec} (h:z.recs[j]? =some x) (hx:Yc z x=true):z.recs.set j (setA s x)=(withL z s).recs:=by
 have hone:=hz.soa
 rw [N5] at hone
 have hj:=(Ak.1 h).1
 have honly:∀i y,z.recs[i]? =some y→y.typ=6→i=j:=by
  intro i y hi hy
  apply Classical.byContradiction
  intro hne
  have hym:=A6 hi
  have hyp:Yc z y=true:=by
   have:=hz.recs y hym
   unfold Mq at this
   simp only [Aq,A3,Fg,decide_eq_false_iff_not,ne_eq,En] at this
   unfold Yc
   rcases this.1.1.2 with q|q
   ·exact absurd hy q
   ·simp [hy,q]
  have hil:=(Ak.1 hi).1
  have h2:2≤(z.recs.filter (Yc z)).length:=by
   have key:∀(l:List Rec) (a b:Nat) (u v:Rec),a<b→l[a]? =some u→l[b]? =some v→Yc z u=true→Yc z v=true→2≤(l.filter (Yc z)).length:=by
    intro l
    induction l with
    |nil=>intro a b u v _ ha;simp at ha
    |cons w l ih=>
     intro a b u v hab ha hb hu hv
     obtain ⟨b',rfl⟩:∃b',b=b'+1:=⟨b - 1,by omega⟩
     rw [C7] at hb
     cases a with
     |zero=>
      simp at ha
      subst ha
      rw [Dz hu,As]
      have:v∈l.filter (Yc z):=Bp.2 ⟨A6 hb,hv⟩
      have:=List.length_pos_of_mem this
      omega
     |succ a'=>
      rw [C7] at ha
      have:=ih a' b' u v (by omega) ha hb hu hv
      rw [Hf]
      split<;>simp<;>omega
   rcases Nat.lt_or_gt_of_ne hne with q|q
   ·exact key z.recs i j y x q hi h hyp hx
   ·exact key z.recs j i x y q h hi hx hyp
  omega
 have hxt:x.typ=6:=by
  unfold Yc at hx
  simp only [Aq,decide_eq_true_eq] at hx
  exact hx.1
 apply List.ext_getElem?
 intro i
 show _=(z.recs.map fun r=>if r.typ=6 then setA s r else r)[i]?
 rw [By,C0]
 by_cases e:j=i
 ·subst e
  rw [if_pos rfl,if_pos hj,h]
  simp [hxt]
 ·rw [if_neg e]
  cases hi:z.recs[i]? with
  |none=>rfl
  |some y=>
   have:¬y.typ=6:=fun q=>e (honly i y hi q).symm
   simp [this]
theorem vq (z:Zone) (s:Int) (hz:ZOk z) (hw:z.wf) (hl:z.recs.length≤1000000):S Zc 2 [z.pv, .i .i64 s]=some (if inB s 4294967295=true then [(withL z s).pv, .i .i64 0] else [Zone.pv ⟨[],[]⟩, .i .i64 14]):=by
 refine Gz5 (N:=1) rfl ?_
 have k1:=Ch s
 have k2:=c9 z.recs hl
 have k3:=Qh z hl
 rcases Av (inB s 4294967295) with h|h<;>rw [h] at k1
 ·rw [if_pos h]
  rcases ix_find (Yc z) z.recs with ⟨h1,h2⟩|⟨j,x,r,h1,h2,h3,h4⟩
  ·exfalso
   have:=hz.soa
   rw [N5,h2] at this
   simp at this
  ·rw [h1] at k3
   have hj:(0:Int)≤(j:Int):=by omega
   have ej:(j:Int).toNat=j:=by omega
   have hs:=Hh6 z.recs j s x h2
   rw [Ay4 hz s h2 h3] at hs
   have e2:(withL z s).pv=Zone.pv ⟨z.origin,(withL z s).recs⟩:=rfl
   rw [e2]
   generalize (withL z s).recs=w at*
   simp (disch:=omega) only [Et8,k1,k2,k3,hj,ej,h2,hs,Gn,P5,EVC,xe,EVP,EV,simprocAttr]
 ·rw [if_neg (by simp [h])]
  simp (disch:=omega) only [Et8,k1,Gn,EVC,xe,EVP,EV,simprocAttr]
theorem Aq6 (z:Zone) (s:Int) (h:inB s 4294967295=false):S Zc 2 [z.pv, .i .i64 s]=some [Zone.pv ⟨[],[]⟩, .i .i64 14]:=by
 refine Gz5 (N:=1) rfl ?_
 have k1:=Ch s
 rw [h] at k1
 simp (disch:=omega) only [Et8,k1,Gn,EVC,xe,EVP,EV,simprocAttr]
def By5 (z:Zone) (h:List UInt8):List Rec:=if Dd4 z h≠[] then findR z.recs h 1++findR z.recs h 28 else []
def glueN (z:Zone) (hs:List (List UInt8)):List Rec:=hs.flatMap (By5 z)
theorem By4 (z:Zone) (h:List UInt8):(By5 z h).length≤2*z.recs.length:=by
 unfold By5 findR
 split
 ·rw [Az]
  have h1:=Ef (isK h 1) z.recs
  have h2:=Ef (isK h 28) z.recs
  omega
 ·simp
theorem am (z:Zone):∀hs:List (List UInt8),(glueN z hs).length≤2*z.recs.length*hs.length
 |[]=>by simp [glueN]
 |h::hs=>by
  have h1:=By4 z h
  have h2:=am z hs
  simp only [glueN,Gd,Az,As] at h2 ⊢
  rw [Nat.mul_add,Av8];omega
theorem Dg5 (z:Zone) (hs:List (List UInt8)) (hz:z.wf) (hl:z.recs.length≤1000) (hn:hs.length≤100) (hh:∀h∈hs,h.length≤9223372036854775807):S At4 2 [z.pv,Bd hs]=some [Af (glueN z hs)]:=by
 obtain ⟨N,hN⟩:∃N,N=hs.length+1:=⟨_,rfl⟩
 refine Hp6 (N:=N) rfl ?_
 have key:Dr1.ev S N [z.pv,Bd hs]=some (.yld 0 [Af (glueN z hs)]):=by
  refine Ey hs (fun i=>[Af (glueN z (hs.take i)), .i .i64 (i:Int)]) (fun i r=> .yld 0 [Af (glueN z hs)]) rfl (by omega) (fun i c r hd hi hc=> ?_) ?_
  ·left
   refine ⟨?_,rfl⟩
   have e:glueN z (hs.take (i+1))=glueN z (hs.take i)++By5 z c:=by rw [Cz,hc];simp [glueN]
   have hlen:=am z (hs.take i)
   have hl2:2*z.recs.length*(hs.take i).length≤2000*100:=Gc (by omega) (by rw [Al];omega)
   have h1:(i:Int)<(hs.length:Int):=by omega
   have ei:(i:Int).toNat=i:=by omega
   have k1:=df z c hz (by omega) (hh c (A6 hc))
   have k2:=L5 z c 1 (by omega)
   have k3:=L5 z c 28 (by omega)
   have l2:(findR z.recs c 1).length≤z.recs.length:=Ef _ _
   have l3:(findR z.recs c 28).length≤z.recs.length:=Ef _ _
   rw [e]
   unfold By5
   generalize glueN z (hs.take i)=a at*
   by_cases hc2:Dd4 z c=[]
   ·have eb:decide (Dd4 z c≠[])=false:=by simp [hc2]
    rw [eb] at k1
    rw [if_neg (by simp [hc2])]
    simp (disch:=omega) only [Cm0,h1,ei,hc,k1,EVC,xe,EVP,EV,simprocAttr]
    simp
   ·have eb:decide (Dd4 z c≠[])=true:=by simp [hc2]
    rw [eb] at k1
    rw [if_pos hc2]
    generalize findR z.recs c 1=f1 at*
    generalize findR z.recs c 28=f2 at*
    have la:(a++f1).length≤1000000:=by rw [Az];omega
    simp (disch:=omega) only [Cm0,h1,ei,hc,k1,k2,k3,EVC,xe,EVP,EV,simprocAttr]
    simp
  ·refine ⟨?_,rfl⟩
   have h1:¬(hs.length:Int)<(hs.length:Int):=by omega
   have e:hs.take hs.length=hs:=C2
   rw [e]
   generalize glueN z hs=a at*
   simp (disch:=omega) only [Cm0,h1,EVC,xe,EVP,EV,simprocAttr]
 generalize glueN z hs=a at*
 simp (disch:=omega) only [Cm0,key,EVC,xe,EVP,EV,simprocAttr]
end Go.X.G
/- The laws of zones: the chapter's example. -/
namespace Go.X.G
open Go Go.X
def exL:List Rec:=[⟨[101,120,97,109,112,108,101,46],6,60,{zero with host:=[110,115,46,98,46,101,120,97,109,112,108,101,46],mail:=[109,46,101,120,97,109,112,108,101,46],a:=5,b:=60,c:=60,d:=600,e:=30}⟩,⟨[101,120,97,109,112,108,101,46],2,60,{zero with host:=[110,115,46,98,46,101,120,97,109,112,108,101,46]}⟩,⟨[98,46,101,120,97,109,112,108,101,46],2,60,{zero with host:=[110,115,46,98,46,101,120,97,109,112,108,101,46]}⟩,⟨[101,120,97,109,112,108,101,46],1,60,{zero with lo:=1}⟩,⟨[99,46,100,46,101,120,97,109,112,108,101,46],1,60,{zero with lo:=2}⟩,⟨[110,115,46,98,46,101,120,97,109,112,108,101,46],1,60,{zero with lo:=3}⟩]
def Ds1:Rec:=⟨[98,46,101,120,97,109,112,108,101,46],15,60,{zero with a:=1,host:=[97,46]}⟩
def exO:List UInt8:=[101,120,97,109,112,108,101,46]
theorem Av0:S As6 0 []=some [Af exL]:=(Mj ext_mono).2 ⟨3,by kernel_rfl⟩
theorem Ds2:∀r∈exL++[Ds1],r.wf:=by
 intro r hr
 simp only [exL,Ds1,Bt,Cy,Ah,List.mem_nil_iff,or_false] at hr
 rcases hr with rfl|rfl|rfl|rfl|rfl|rfl|rfl<;>(constructor<;>(try constructor))<;>simp [zero,Gv8,af,Pp]
def exZ:Zone:=⟨exO,sortR exL⟩
theorem qd:G1 exZ=0:=by kernel_rfl
theorem Hj8:G1 ⟨exO,sortR (exL++[Ds1])⟩=13:=by kernel_rfl
theorem Fb9:Dd4 exZ [120,46,110,115,46,98,46,101,120,97,109,112,108,101,46]=[98,46,101,120,97,109,112,108,101,46]:=by kernel_rfl
theorem Fb8:Dd4 exZ exO=[]:=by kernel_rfl
theorem Fb6:Hv3 exZ [120,46,121,46,100,46,101,120,97,109,112,108,101,46]=[100,46,101,120,97,109,112,108,101,46]:=by kernel_rfl
theorem Fb5:Hv3 exZ [110,115,46,98,46,101,120,97,109,112,108,101,46]=[98,46,101,120,97,109,112,108,101,46]:=by kernel_rfl
theorem Hj7:exB exZ [100,46,101,120,97,109,112,108,101,46]=true:=by kernel_rfl
theorem Hj6:exB exZ [110,115,46,98,46,101,120,97,109,112,108,101,46]=false:=by kernel_rfl
theorem Dc4:namesN exZ=[[101,120,97,109,112,108,101,46],[98,46,101,120,97,109,112,108,101,46],[100,46,101,120,97,109,112,108,101,46],[99,46,100,46,101,120,97,109,112,108,101,46]]:=by unfold namesN;rw [←Zv];kernel_rfl
theorem Fb7:(cutsN exZ).length=1:=by unfold cutsN;rw [←Zv];kernel_rfl
theorem Fb3:glueN exZ [[110,115,46,98,46,101,120,97,109,112,108,101,46],exO]=[⟨[110,115,46,98,46,101,120,97,109,112,108,101,46],1,60,{zero with lo:=3}⟩]:=by kernel_rfl
theorem Hj4:serN exZ=5:=by kernel_rfl
theorem Hj5:exZ.recs.length=6:=by kernel_rfl
theorem Fb4:findR exZ.recs [100,46,101,120,97,109,112,108,101,46] 1=[]:=by kernel_rfl
theorem Hj9 (n:List UInt8) (lo:Int):S At3 2 [.s n, .i .u64 lo]=some [Rec.pv ⟨n,1,60,{zero with lo:=lo}⟩]:=by
 refine Hp3 (N:=1) rfl ?_
 simp (disch:=omega) only [Hd3,EVC,xe,EVP,EV,simprocAttr]
 rfl
theorem Aq2:S zd 0 []=some [.b true]:=by
 refine Hr5 (N:=1) rfl ?_
 have hw:∀r∈exL,r.wf:=fun r hr=>Ds2 r (Cb _ hr)
 have ho:Pp exO:=by unfold Pp exO;decide
 have k0:=Av0
 have hz:exZ.wf:=ov ho (by decide) hw
 have hl:exZ.recs.length=6:=Hj5
 have ec:G1 ⟨exO,sortR exL⟩=0:=qd
 have k1:=Cg4 exO exL ho (by decide) hw
 have en:newZ exO exL=exZ:=by unfold newZ;rw [if_pos ec];rfl
 rw [en,ec] at k1
 have k2:=Nm exZ hz (by omega)
 rw [qd] at k2
 have k3:=Of exZ (by omega)
 rw [Hj4] at k3
 have c1:=df exZ [120,46,110,115,46,98,46,101,120,97,109,112,108,101,46] hz (by omega) (by decide)
 rw [Fb9] at c1
 have c2:=df exZ exO hz (by omega) (by decide)
 rw [Fb8] at c2
 have e1:=Oh exZ [120,46,121,46,100,46,101,120,97,109,112,108,101,46] hz (by omega) (by decide)
 rw [Fb6] at e1
 have e2:=Oh exZ [110,115,46,98,46,101,120,97,109,112,108,101,46] hz (by omega) (by decide)
 rw [Fb5] at e2
 have n1:=P9 exZ hz (by omega)
 rw [Dc4] at n1
 have u1:=lq exZ hz (by omega)
 have ul:=Fb7
 have g1:=Dg5 exZ [[110,115,46,98,46,101,120,97,109,112,108,101,46],exO] hz (by omega) (by decide) (by decide)
 rw [Fb3] at g1
 have w1:=Aq6 exZ (-1) (by decide)
 have b1:=Cg4 exO (exL++[Ds1]) ho (by decide) Ds2
 rw [Hj8] at b1
 have a1:=Hj9 [110,115,46,98,46,101,120,97,109,112,108,101,46] 3
 have x1:=S4 exZ [100,46,101,120,97,109,112,108,101,46] hz (by omega)
 rw [Hj7] at x1
 have x2:=S4 exZ [110,115,46,98,46,101,120,97,109,112,108,101,46] hz (by omega)
 rw [Hj6] at x2
 have f1:=L5 exZ [100,46,101,120,97,109,112,108,101,46] 1 (by omega)
 rw [Fb4] at f1
 have eo:([101,120,97,109,112,108,101,46]:List UInt8)=exO:=rfl
 have happ:H2 16 (Af exL) (Af [⟨[98,46,101,120,97,109,112,108,101,46],15,60,⟨false,0,0,[97,46],[],[],1,0,0,0,0,0,0⟩⟩])=some (Af (exL++[Ds1])):=cq exL Ds1 (by decide)
 have hlit:Jq 16 [PV.a [.s [98,46,101,120,97,109,112,108,101,46], .i .i64 15, .i .i64 60, .b false, .i .u64 0, .i .u64 0, .s [97,46], .s [], .s [], .i .i64 1, .i .i64 0, .i .i64 0, .i .i64 0, .i .i64 0, .i .i64 0, .i .u64 0]]=some (Af [⟨[98,46,101,120,97,109,112,108,101,46],15,60,⟨false,0,0,[97,46],[],[],1,0,0,0,0,0,0⟩⟩]):=rfl
 have hs2:Bd [[110,115,46,98,46,101,120,97,109,112,108,101,46],exO]= .l 1 [.s [110,115,46,98,46,101,120,97,109,112,108,101,46], .s [101,120,97,109,112,108,101,46]]:=rfl
 rw [hs2] at g1
 have hex:PV.s exO= .s [101,120,97,109,112,108,101,46]:=rfl
 rw [hex] at k1 c2 b1
 generalize newZ exO (exL++[Ds1])=nz at*
 generalize exL++[Ds1]=l2 at*
 have hn4:(Bd [[101,120,97,109,112,108,101,46],[98,46,101,120,97,109,112,108,101,46],[100,46,101,120,97,109,112,108,101,46],[99,46,100,46,101,120,97,109,112,108,101,46]])= .l 1 (List.map PV.s [[101,120,97,109,112,108,101,46],[98,46,101,120,97,109,112,108,101,46],[100,46,101,120,97,109,112,108,101,46],[99,46,100,46,101,120,97,109,112,108,101,46]]):=rfl
 generalize cutsN exZ=cz at*
 have hrl:((exZ.recs.length:Nat):Int)=6:=by omega
 generalize exZ=zz at*
 generalize exL=l1 at*
 have hlit2:Jq 1 [.s [110,115,46,98,46,101,120,97,109,112,108,101,46], .s [101,120,97,109,112,108,101,46]]=some (.l 1 [.s [110,115,46,98,46,101,120,97,109,112,108,101,46], .s [101,120,97,109,112,108,101,46]]):=rfl
 clear hn4 hs2 hex eo
 simp (disch:=first|omega|decide) only [Hd6,k0,k1,k2,k3,hrl,c1,c2,e1,e2,n1,u1,ul,g1,w1,happ,hlit,hlit2,b1,a1,x1,x2,f1,EVC,xe,EVP,EV,simprocAttr]
end Go.X.G
/- What the laws on tasks are called with. -/
namespace Go.X
structure Begin where
 q:Ques
 zone:List UInt8
 hosts:List (List UInt8)
 addrs:List Adr
structure Actn where
 kind:Int
 n:Int
 odd:Bool
 m:Msg
 host:List UInt8
 addrs:List Adr
def u8r (x:Int):Prop:=0≤x∧x≤255
structure Begin.wf (b:Begin):Prop where
 q:b.q.wf
 zone:Pp b.zone
 hosts:b.hosts.length≤9223372036854775807∧∀h∈b.hosts,Pp h
 addrs:b.addrs.length≤9223372036854775807
structure Actn.wf (a:Actn):Prop where
 kind:u8r a.kind
 n:u8r a.n
 m:a.m.wf
 host:Pp a.host
 addrs:a.addrs.length≤9223372036854775807
def Begin.cells (b:Begin):List PV:=[.s b.q.name, .i .i64 b.q.typ, .s b.zone,Bd b.hosts,Et b.addrs]
def Begin.pv (b:Begin):PV:= .a b.cells
def Actn.cells (a:Actn):List PV:=[.i .u8 a.kind, .i .u8 a.n, .b a.odd, .i .i64 a.m.id, .i .i64 a.m.op, .i .i64 a.m.code, .b a.m.resp, .b a.m.aa, .b a.m.tc, .b a.m.rd, .b a.m.ra, .b a.m.ad, .b a.m.cd, .b a.m.dok, .i .i64 a.m.size, .s a.m.q.name, .i .i64 a.m.q.typ,Af a.m.ans,Af a.m.auth,Af a.m.ext, .s a.host,Et a.addrs]
def Actn.pv (a:Actn):PV:= .a a.cells
end Go.X
/- The law ZoneShuffles. -/
namespace Go.X
end Go.X
namespace Go.X.G
open Go Go.X
theorem Wr {z:Zone} (h:G1 z=0):z.recs=sortR z.recs:=by
 unfold G1 at h
 repeat' (split at h;· first|exact absurd h (by decide)|(next h5=>exact absurd h (by decide)))
 ·rename_i h5 _ _
  exact En.1 h5
theorem oc:∀{l:List Rec},wg l→∀{a b:Rec},a∈l→b∈l→Fj a=Fj b→a=b
 |[],_,a,b,ha,_,_=>by cases ha
 |x::r,h,a,b,ha,hb,e=>by
  obtain ⟨h1,h2⟩:=An.1 h
  rcases Ah.1 ha with e1|ha1<;>rcases Ah.1 hb with e2|hb1
  ·rw [e1,e2]
  ·have:=h1 b hb1;rw [←e1,e] at this;exact absurd this (to_F.irr _)
  ·have:=h1 a ha1;rw [←e2,e] at this;exact absurd this (to_F.irr _)
  ·exact oc h2 ha1 hb1 e
theorem ww {s l:List Rec} (hs:wg s) (h:∀r,r∈l↔r∈s):sortR l=s:=by
 obtain ⟨g1,g2⟩:=Lj l
 refine fk _ _ g1 hs fun x=> ?_
 rw [g2]
 constructor
 ·intro q;exact (h x).1 q.mem
 ·intro q
  obtain ⟨z,hz,e,_⟩:=Cc5 l x ((h x).2 q)
  have:z=x:=oc hs ((h z).1 hz.mem) q e
  rw [←this];exact hz
structure StpI (zs:List Rec) (i:Nat) (l:List Rec):Prop where
 mem:∀r,r∈l↔r∈zs
 lo:zs.length≤l.length
 hi:l.length≤zs.length+min i zs.length
end Go.X.G
/- What exists in a checked zone, and the law ZoneExists. -/
namespace Go.X.G
open Go Go.X
theorem vn {n:List UInt8} (h:vld n=true):under n n=true:=Ct.2 ⟨h,h,List.suffix_refl _⟩
theorem v8 {a b:List UInt8} (h1:under a b=true) (h2:under b a=true):a=b:=by
 refine vt h1 ?_
 exact (Ct.1 h2).2.2.length_le
theorem Bx6 {z:Zone} {r:Rec}:Dn z r=true↔r.typ=2∧r.name≠z.origin∧under r.name z.origin=true:=by
 unfold Dn D9
 simp only [Aq,decide_eq_true_eq,ne_eq]
theorem Jw {l:List Rec} {n:List UInt8} {t:Int} {r:Rec}:r∈findR l n t↔r∈l∧r.name=n∧r.typ=t:=by
 unfold findR
 rw [Bp]
 simp only [isK,Aq,decide_eq_true_eq]
theorem ZOk.soaR {z:Zone} (h:ZOk z):∃r∈z.recs,r.name=z.origin∧r.typ=6:=by
 have:=h.soa
 cases e:findR z.recs z.origin 6 with
 |nil=>rw [e] at this;cases this
 |cons r l=>
  have:r∈findR z.recs z.origin 6:=by rw [e];exact .head _
  exact ⟨r,(Jw.1 this).1,(Jw.1 this).2⟩
theorem zt (z:Zone):Wj z z.origin=false:=by
 cases h:Wj z z.origin with
 |false=>rfl
 |true=>
  unfold Wj at h
  simp only [B6,Aq,decide_eq_true_eq] at h
  obtain ⟨r,_,⟨h1,_⟩,h3⟩:=h
  obtain ⟨_,h4,h5⟩:=Bx6.1 h1
  exact absurd (v8 h5 h3) h4
theorem ZOk.exO {z:Zone} (h:ZOk z):exB z z.origin=true:=by
 obtain ⟨r,hr,e,_⟩:=h.soaR
 have u:=vn h.origin
 exact (Ds3 z _).2 ⟨r,hr,by rw [e];exact u,by rw [e];exact zt z,by rw [e];exact u,u⟩
end Go.X.G
/- A zone with another serial number is one: the law ZoneSerials. -/
namespace Go.X
def Hg1 (x:Int):Prop:=0≤x∧x≤4294967295
theorem Fw2 {p:PV} (h:(Sh.i .u32).ok p):∃x,Hg1 x∧p= .i .u32 x:=by
 have h':p.scal=true∧(Sh.i .u32).okC [p]:=h
 have:=h'.2
 simp only [Sh.okC] at this
 obtain ⟨n,hp,h1,h2⟩:=this
 injection hp with hp
 exact ⟨n,⟨h1,h2⟩,hp⟩
end Go.X
namespace Go.X.G
open Go Go.X
def Lk (s:Int) (r:Rec):Rec:=if r.typ=6 then setA s r else r
theorem Gh (s:Int) (r:Rec):(Lk s r).name=r.name:=by unfold Lk;split<;>rfl
theorem Hs (s:Int) (r:Rec):(Lk s r).typ=r.typ:=by unfold Lk;split<;>rfl
theorem ow (s:Int) (r:Rec):(Lk s r).ttl=r.ttl:=by unfold Lk;split<;>rfl
theorem Dt (z:Zone) (s:Int):(withL z s).recs=z.recs.map (Lk s):=rfl
theorem Nb (s:Int) (l:List Rec) (n:List UInt8) (t:Int):findR (l.map (Lk s)) n t=(findR l n t).map (Lk s):=by
 unfold findR
 rw [List.filter_map]
 congr 1
 have:(isK n t∘Lk s)=isK n t:=by
  funext r
  simp only [Function.comp,isK,Gh,Hs]
 rw [this]
theorem qj (s:Int) (l:List Rec) (n:List UInt8) (t:Int):Sx (l.map (Lk s)) n t=Sx l n t:=by
 unfold Sx
 rw [Nb,C8]
theorem wy {s:Int} (hs:inB s 4294967295=true) {r:Rec} (h:Lr r=true):Lr (Lk s r)=true:=by
 unfold Lk
 by_cases ht:r.typ=6
 ·rw [if_pos ht]
  unfold Lr Ej at h ⊢
  simp only [Aq,decide_eq_true_eq] at h ⊢
  obtain ⟨⟨⟨⟨h1,h2⟩,h3⟩,h4⟩,⟨h5,h6⟩,h7⟩:=h
  refine ⟨⟨⟨⟨h1,h2⟩,h3⟩,h4⟩,⟨h5,?_⟩,?_⟩
  ·show usd r.typ (setA s r).data=(setA s r).data
   rw [ht] at h6 ⊢
   simp only [usd] at h6 ⊢
   simp only [setA]
   rw [←h6]
   simp
  ·show Dk r.typ (setA s r).data=true
   rw [ht] at h7 ⊢
   simp only [Dk] at h7 ⊢
   simp only [setA]
   simp at h7 ⊢
   simp [h7,hs]
 ·rw [if_neg ht];exact h
theorem ox {z:Zone} (ho:ZOk z) {a b:Rec} (ha:a∈z.recs) (hb:b∈z.recs) (ta:a.typ=6) (tb:b.typ=6):a=b:=by
 have n1:∀r∈z.recs,r.typ=6→r.name=z.origin:=fun r hr ht=>by
  have:=ho.recs r hr
  unfold Mq at this
  simp only [ht,Aq,decide_true,Bool.true_and,A3,decide_eq_false_iff_not,En,ne_eq] at this
  exact this.1.1.2
 have hl:=ho.soa
 have m1:a∈findR z.recs z.origin 6:=Jw.2 ⟨ha,n1 a ha ta,ta⟩
 have m2:b∈findR z.recs z.origin 6:=Jw.2 ⟨hb,n1 b hb tb,tb⟩
 match findR z.recs z.origin 6,hl,m1,m2 with
 |[x],_,m1,m2=>rw [B4.1 m1,B4.1 m2]
theorem Qn {z:Zone} (ho:ZOk z) (s:Int):∀l:List Rec,(∀r∈l,r∈z.recs)→wg l→wg (l.map (Lk s))
 |[],_,_=> .nil
 |a::l,hm,h=>by
  obtain ⟨h1,h2⟩:=An.1 h
  rw [Ec]
  refine An.2 ⟨fun w hw=> ?_,Qn ho s l (fun r hr=>hm r (.tail _ hr)) h2⟩
  obtain ⟨b,hb,rfl⟩:=Cs.1 hw
  have hab:=h1 b hb
  have ea:=Gh s a
  have eb:=Gh s b
  have ka:=Hs s a
  have kb:=Hs s b
  by_cases ta:a.typ=6
  ·by_cases tb:b.typ=6
   ·have:=ox ho (hm a (.head _)) (hm b (.tail _ hb)) ta tb
    rw [this] at hab
    exact absurd hab (to_F.irr _)
   ·have e2:Lk s b=b:=by unfold Lk;rw [if_neg tb]
    rw [e2]
    rcases hab with q|⟨q1,q2|⟨q2,_⟩⟩
    ·exact .inl (by simp only [Fj] at q ⊢;rw [ea];exact q)
    ·exact .inr ⟨by simp only [Fj] at q1 ⊢;rw [ea];exact q1, .inl (by simp only [Fj] at q2 ⊢;rw [ka];exact q2)⟩
    ·simp only [Fj] at q2
     exact absurd (q2▸ta) tb
  ·have e1:Lk s a=a:=by unfold Lk;rw [if_neg ta]
   rw [e1]
   by_cases tb:b.typ=6
   ·rcases hab with q|⟨q1,q2|⟨q2,_⟩⟩
    ·exact .inl (by simp only [Fj] at q ⊢;rw [eb];exact q)
    ·exact .inr ⟨by simp only [Fj] at q1 ⊢;rw [eb];exact q1, .inl (by simp only [Fj] at q2 ⊢;rw [kb];exact q2)⟩
    ·simp only [Fj] at q2
     exact absurd (q2.trans tb) ta
   ·have e2:Lk s b=b:=by unfold Lk;rw [if_neg tb]
    rw [e2];exact hab
theorem ed {s:Int} {r x:Rec} (h:I4 r x=true):I4 (Lk s r) (Lk s x)=true:=by
 unfold I4 at h ⊢
 rw [Gh,Gh,Hs,Hs,ow,ow]
 by_cases e:x=r
 ·rw [e] at h ⊢
  simp at h ⊢
 ·simp only [e,ne_eq,not_false_eq_true,decide_true,J6] at h
  simp only [Am,Aq,A3] at h ⊢
  rcases h with h|⟨⟨h1,h2⟩,h3⟩
  ·exact .inl h
  ·refine .inr ⟨⟨h1,?_⟩,h3⟩
   rw [h2,Bool.false_and]
theorem Ym (z:Zone) (s:Int) (r:Rec):Mw (withL z s) (Lk s r)=Mw z r:=by
 unfold Mw
 rw [Gh,Hs,Dt,qj,List.all_map]
 have:(Ir (withL z s) (Lk s r)∘Lk s)=Ir z r:=by
  funext x
  simp only [Function.comp,Ir,Gh,Hs]
  rfl
 rw [this]
 rfl
theorem vm {z:Zone} (h:G1 z=0) {s:Int} (hs:inB s 4294967295=true):G1 (withL z s)=0:=by
 have ho:=R6 h
 have hso:=Wr h
 have hris:wg z.recs:=by rw [hso];exact (Lj _).1
 have hcnt:z.recs.all (fun r=>decide ((findR z.recs r.name r.typ).length≤64))=true:=by
  unfold G1 at h
  split at h
  ·cases h
  ·split at h
   ·cases h
   ·split at h
    ·cases h
    ·rename_i h3
     simpa using h3
 have c1:¬vld (withL z s).origin=false:=by show¬vld z.origin=false;rw [ho.origin];simp
 have c2:¬2048<(withL z s).recs.length:=by rw [Dt,C8];have:=ho.small;omega
 have c3:¬(withL z s).recs.all (fun r=>decide ((findR (withL z s).recs r.name r.typ).length≤64))=false:=by
  rw [Dm,Bj]
  intro r hr
  rw [Dt] at hr ⊢
  obtain ⟨x,hx,rfl⟩:=Cs.1 hr
  rw [Gh,Hs,Nb,C8]
  exact Bj.1 hcnt x hx
 have c4:¬(withL z s).recs.all Lr=false:=by
  rw [Dm,Bj]
  intro r hr
  rw [Dt] at hr
  obtain ⟨x,hx,rfl⟩:=Cs.1 hr
  exact wy hs (ho.valid x hx)
 have c5:¬(withL z s).recs≠sortR (withL z s).recs:=fun q=>q (ww (Qn ho s z.recs (fun r hr=>hr) hris) (fun r=>Iff.rfl)).symm
 have c6:¬((findR (withL z s).recs (withL z s).origin 6).length≠1∨Sx (withL z s).recs (withL z s).origin 2=false):=by
  rw [Dt,Nb,qj,C8]
  show¬((findR z.recs z.origin 6).length≠1∨Sx z.recs z.origin 2=false)
  rw [ho.soa,ho.ns]
  simp
 have c7:¬(withL z s).recs.all (Mq (withL z s))=false:=by
  rw [Dm,Bj]
  intro r hr
  rw [Dt] at hr
  obtain ⟨x,hx,rfl⟩:=Cs.1 hr
  have:=ho.recs x hx
  unfold Mq at this ⊢
  rw [Ym,Gh,Hs]
  simp only [Aq] at this ⊢
  refine ⟨⟨this.1.1,?_⟩,this.2⟩
  have hb:=this.1.2
  unfold Sk at hb ⊢
  rw [Bj] at hb ⊢
  intro y hy
  rw [Dt] at hy
  obtain ⟨w,hw,rfl⟩:=Cs.1 hy
  exact ed (hb w hw)
 unfold G1
 rw [if_neg c1,if_neg c2,if_neg c3,if_neg c4,if_neg c5,if_neg c6,if_neg c7]
theorem Ab7 {z:Zone} (ho:ZOk z) (s:Int):serN (withL z s)=s:=by
 unfold serN
 rw [Dt,Nb]
 show (match (findR z.recs z.origin 6).map (Lk s) with|[]=>0|r::_=>r.data.a)=s
 have hl:=ho.soa
 cases e:findR z.recs z.origin 6 with
 |nil=>rw [e] at hl;cases hl
 |cons r l=>
  have hm:r∈findR z.recs z.origin 6:=by rw [e];exact .head _
  simp only [Ec]
  unfold Lk
  rw [if_pos (Jw.1 hm).2.2]
  rfl
theorem Ab8 {z:Zone} (ho:ZOk z):inB (serN z) 4294967295=true∧∀r∈z.recs,r.typ=6→r.data.a=serN z:=by
 unfold serN
 have hl:=ho.soa
 cases e:findR z.recs z.origin 6 with
 |nil=>rw [e] at hl;cases hl
 |cons x l=>
  have hm:x∈findR z.recs z.origin 6:=by rw [e];exact .head _
  obtain ⟨m1,m2,m3⟩:=Jw.1 hm
  simp only
  constructor
  ·have:=ho.valid x m1
   unfold Lr Ej at this
   simp only [Aq] at this
   have h7:=this.2.2
   rw [m3] at h7
   simp only [Dk] at h7
   simp at h7
   exact h7.1.1.1.1.2
  ·intro r hr ht
   rw [ox ho hr m1 ht m3]
theorem Ay3 {z:Zone} (ho:ZOk z) (s:Int):withL (withL z s) (serN z)=z:=by
 obtain ⟨_,h⟩:=Ab8 ho
 have:(withL (withL z s) (serN z)).recs=z.recs:=by
  rw [Dt,Dt,List.map_map]
  conv=>rhs;rw [←List.map_id z.recs]
  refine List.map_congr_left fun r hr=> ?_
  simp only [Function.comp,id]
  unfold Lk
  by_cases ht:r.typ=6
  ·rw [if_pos ht]
   have e:=h r hr ht
   rw [if_pos (show (setA s r).typ=6 from ht)]
   rw [←e]
   rfl
  ·rw [if_neg ht,if_neg ht]
 show (⟨z.origin,(withL (withL z s) (serN z)).recs⟩:Zone)=z
 rw [this]
theorem Fj0 {z:Zone} (hw:z.wf) {s:Int} (hs:inB s 4294967295=true):(withL z s).wf:=by
 refine ⟨hw.origin,by rw [Dt,C8];exact hw.recs.1,fun r hr=> ?_⟩
 rw [Dt] at hr
 obtain ⟨x,hx,rfl⟩:=Cs.1 hr
 have w:=hw.recs.2 x hx
 unfold Lk
 split
 ·have:af s:=by
   unfold inB at hs
   simp at hs
   unfold af
   omega
  exact ⟨w.name,w.typ,w.ttl,⟨w.data.hi,w.data.lo,w.data.host,w.data.mail,w.data.text,this,w.data.b,w.data.c,w.data.d,w.data.e,w.data.f,w.data.bits⟩⟩
 ·exact w
theorem Aq8 (x:Zone) (s:Int) (hs:Hg1 s) (hl:x.recs.length≤70) (p0 p3 p5 p6 p7:PV):
  Gl5.ev S 100 [p0, .i .u32 s,x.pv,p3,(withL x s).pv,p5,p6,p7]=some (.yld 0 []):=by
 have hlen:(withL x s).recs.length=x.recs.length:=by rw [Dt,C8]
 have hget:∀i,(withL x s).recs[i]? =(x.recs[i]?).map (Lk s):=fun i=>by rw [Dt,By]
 obtain ⟨s1,s2⟩:=hs
 refine Ey x.recs (fun i=>[.i .i64 (i:Int)]) (fun _ _=> .yld 0 []) rfl (by omega) (fun i c r hd hi hc=> ?_) ?_
 ·left
  refine ⟨?_,rfl⟩
  have g:=hget i
  rw [hc,A0] at g
  have ei:(i:Int).toNat=i:=by omega
  have hi2:(i:Int)<((withL x s).recs.length:Int):=by omega
  have hw:IntKind.i64.wrap s=s:=w64 (by omega) (by omega)
  generalize withL x s=b at*
  by_cases ht:c.typ=6
  ·have e1:Lk s c=setA s c:=by unfold Lk;rw [if_pos ht]
   rw [e1] at g
   have ht':=eq_true (show (setA s c).typ=6 from ht)
   have ef:PV.a [.s c.name, .i .i64 c.typ, .i .i64 c.ttl, .b c.data.v6, .i .u64 c.data.hi, .i .u64 c.data.lo, .s c.data.host, .s c.data.mail, .s c.data.text, .i .i64 s, .i .i64 c.data.b, .i .i64 c.data.c, .i .i64 c.data.d, .i .i64 c.data.e, .i .i64 c.data.f, .i .u64 c.data.bits]=(setA s c).pv:=rfl
   generalize setA s c=y at*
   simp (disch:=omega) only [Gj2,hi2,ei,hc,g,ht',hw,ef,EVC,xe,EVP,EV,simprocAttr]
  ·have e1:Lk s c=c:=by unfold Lk;rw [if_neg ht]
   rw [e1] at g
   have ht':=eq_false ht
   simp (disch:=omega) only [Gj2,hi2,ei,hc,g,ht',EVC,xe,EVP,EV,simprocAttr]
 ·refine ⟨?_,rfl⟩
  have hi2:¬(x.recs.length:Int)<((withL x s).recs.length:Int):=by omega
  generalize withL x s=b at*
  simp (disch:=omega) only [Gj2,hi2,EVC,xe,EVP,EV,simprocAttr]
theorem law_ZoneSerials (z:Zone) (s:Int) (hz:z.wf) (hs:Hg1 s):S Gl2 2 [z.pv, .i .u32 s]=some [.b true]:=by
 refine Ib8 (N:=100) rfl ?_
 have k0:=Dg4 z hz
 have hw:=Ab2 hz
 have hl:=wx z
 generalize smallZ z=x at*
 have k3:=Nm x hw (by omega)
 have ka:=Aq2
 have kl:=fun p0 p3 p5 p6 p7=>Aq8 x s hs hl p0 p3 p5 p6 p7
 by_cases h:G1 x=0
 ·have ho:=R6 h
  obtain ⟨s1,s2⟩:=hs
  have hb:inB s 4294967295=true:=by unfold inB;simp;omega
  have hwr:IntKind.i64.wrap s=s:=w64 (by omega) (by omega)
  rw [h] at k3
  have k5:=vq x s ho hw (by omega)
  rw [if_pos hb] at k5
  have h2:=vm h hb
  have ho2:=R6 h2
  have hw2:=Fj0 hw hb
  have hlen:(withL x s).recs.length=x.recs.length:=by rw [Dt,C8]
  have k6:=Nm (withL x s) hw2 (by omega)
  rw [h2] at k6
  have k7:=Of (withL x s) (by omega)
  rw [Ab7 ho] at k7
  have k8:=Of x (by omega)
  have k9:=vq (withL x s) (serN x) ho2 hw2 (by omega)
  rw [if_pos (Ab8 ho).1,Ay3 ho] at k9
  have k12:=Ac4 x x (by omega)
  have hlen2:((withL x s).recs.length:Int)=(x.recs.length:Int):=by omega
  generalize withL x s=b at*
  generalize serN x=sn at*
  simp (disch:=omega) only [Gj2,k0,k3,k5,k6,k7,k8,k9,k12,hwr,hlen2,kl,ka,Gn,P5,EVM,EVC,xe,EVP,EV,simprocAttr]
  try simp
 ·simp (disch:=omega) only [Gj2,k0,k3,h,ka,Gn,P5,EVM,EVC,xe,EVP,EV,simprocAttr]
end Go.X.G
