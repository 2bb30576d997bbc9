/- What exists in a zone, and what encloses a name; names with another end. -/
import Derived.Test.YteiaijjlmnacpaaGreatDoorZoneBreaksG12
import Derived.Test.YteiaijjlmnacpaaGreatDoorZoneBreaksG9
import Derived.Test.YteiaijjlmnacpaaGreatDoorZoneBreaksG8
import Derived.Test.YteiaijjlmnacpaaGreatDoorZoneBreaksG11
import Derived.Test.YteiaijjlmnacpaaGreatDoorZoneBreaksG10
open Bool renaming eq_false_or_eq_true→Aq,and_eq_true→Av,false_eq_true→Ad,not_eq_true'→A8,eq_iff_iff→Ct,not_eq_false→Ex
open Int renaming toNat_natCast→G3,eq_ofNat_of_zero_le→Q3
open List renaming getElem?_eq_some_iff→Aw,getElem?_eq_getElem→Az,length_append→Ab,mem_cons→Am,length_take→An,append_assoc→As,length_cons→A0,pairwise_cons→A3,mem_of_getElem?→Bq,getElem?_take→Bv,all_eq_true→Bw,mem_append→Bc,length_nil→Bf,getElem?_map→Bg,mem_filter→Bh,mem_singleton→Bp,take_append_drop→Bs,mem_append_left→B3,getElem?_range→B5,cons_append→B7,any_eq_true→Ck,nil_append→Cq,take_add_one→Cc,drop_eq_getElem_cons→Cd,length_filter_le→C2,take_length→C4,take_of_length_le→C5,filter_cons_of_pos→Dk,filter_append→Dq,append_nil→Dd,mem_map→D6,flatMap_cons→Ew,filter_eq_nil_iff→Ed,mem_of_mem_take→Fv,length_map→F8,length_range→M9,drop_of_length_le→Vt,length_singleton→fq,filter_nil→Hp7
open Nat renaming le_refl→Af,mod_eq_of_lt→Cr,mul_le_mul→G2,min_eq_left→M5,mul_one→Ac6,lt_or_ge→Dw3
set_option maxHeartbeats 1000000
set_option linter.unusedVariables false
set_option linter.unusedSimpArgs false
namespace Go.X.G
open Go Go.X
def exB (z:Zone) (x:List UInt8):Bool:=z.recs.any fun r=>under r.name z.origin && !Xb z r.name && under r.name x && under x z.origin
theorem Ed4 (z:Zone) (x:List UInt8):exB z x=true↔Ed1 z x:=by unfold exB Ed1;simp only [Ck,Av,A8,and_assoc]
theorem Bh1 (z:Zone) (x:List UInt8):decide (x∈namesN z)=exB z x:=by rw [Ct,Ed4,←Av0];simp
theorem Uh (z:Zone) (hl:z.recs.length≤1000):(namesN z).length≤1000000:=by
 have h1:=Wg (Gg4 z);have h2:∀l:List Rec,(l.flatMap fun r=>upN z.origin r.name).length≤256*l.length:=by
  intro l
  induction l with
  |nil=>simp
  |cons x r ih=>
   have:=f5 z.origin x.name;rw [Ew,Ab,A0];omega
 have h3:=h2 (z.recs.filter fun r=>under r.name z.origin && !Xb z r.name);have h4:=C2 (fun r=>under r.name z.origin && !Xb z r.name) z.recs;show (setN (Gg4 z)).length≤1000000;unfold Gg4 at h1 ⊢;omega
theorem T9 (z:Zone) (n:List UInt8) (hz:z.wf) (hl:z.recs.length≤1000):S Aw5 2 [z.pv, .s n]=some [.b (exB z n)]:=by refine Ib0 (N:=1) rfl ?_;have k1:=Q4 z hz hl;have k2:=P9 (namesN z) n (Uh z hl);rw [Bh1] at k2;generalize namesN z=nz at*;simp (disch:=omega) only [Ij4,k1,k2,EVM,EVC,xe,EVP,EV,simprocAttr]
def Hm3 (z:Zone) (n:List UInt8):Option (List UInt8):=(upN z.origin n).find? (exB z)
def Hm4 (z:Zone) (n:List UInt8):List UInt8:=if under n z.origin=true then (Hm3 z n).getD [] else []
theorem Gm9 {n:List UInt8} (h:vld n=true):n≠[]:=fun e=>by subst e;simp [vld,nm] at h
theorem Bh5 {z:Zone} {n e:List UInt8} (hu:under n z.origin=true) (h:Hm3 z n=some e):under n e=true∧exB z e=true:=by unfold Hm3 at h;have h1:=List.mem_of_find?_eq_some h;have h2:=List.find?_some h;exact ⟨((Rj hu).1 h1).1,h2⟩
theorem Pb (z:Zone) (n:List UInt8) (hz:z.wf) (hl:z.recs.length≤1000) (hn:n.length≤9223372036854775807):S Aw6 2 [z.pv, .s n]=some [.s (Hm4 z n), .b (decide (Hm4 z n≠[]))]:=by
 refine Ib3 (N:=1000) rfl ?_;have g1:=hz.origin;unfold Mm at g1;have k0:=Gm n z.origin hn g1;unfold Hm4;rcases Aq (under n z.origin) with hu|hu
 ·rw [if_pos hu];rw [hu] at k0;have k1:=Q4 z hz hl;have hnl:=Uh z hl;have k2:∀x,S ib 2 [Bm (namesN z), .s x]=some [.b (exB z x)]:=fun x=>by rw [←Bh1];exact P9 (namesN z) x hnl
  generalize namesN z=nz at*;obtain ⟨v1,v2,_⟩:=C1.1 hu;have hlb:=M0 n;have h0:jn ((lbl n).drop 0)=n:=Bd8 v1;let res:Option (List UInt8)→Out:=fun o=>match o with|some e=> .yld 0 [.s e]|none=> .ret [.s [], .b false]
  have key:Ec4.ev S 1000 [z.pv, .s n, .b true,Bm nz]=some (res (Hm3 z n)):=by
   have:=Gp (fn:=S) (N:=1000) (η:=[z.pv, .s n, .b true,Bm nz]) (id:=1) (init:=[(.v 1)]) (body:=Dj3) ((lbl n).length - (lbl z.origin).length)
    (fun k=>[.s (jn ((lbl n).drop k))]) (fun k=>res (((upN z.origin n).drop k).find? (exB z))) ?_ (by omega) (fun k hk=> ?_) ?_
   ·exact this
   ·rw [h0];simp (disch:=omega) only [EVM,EVC,xe,EVP,EV,simprocAttr]
   ·have hup:(upN z.origin n)[k]? =some (jn ((lbl n).drop k)):=Wx (Nat.le_of_lt hk);have hd:(upN z.origin n).drop k=jn ((lbl n).drop k)::(upN z.origin n).drop (k+1):=by obtain ⟨h1,h2⟩:=Aw.1 hup;rw [Cd h1,h2]
    obtain ⟨q1,q2⟩:=Ew8 hu hk;have q3:¬jn ((lbl n).drop k)=z.origin:=fun h=>by have:=(nn hu (Nat.le_of_lt hk)).1 h;omega
    have q4:=Ed0 v1 k;have k1:=Vp (jn ((lbl n).drop k)) (by omega);rw [q1,q2] at k1;have k3:=k2 (jn ((lbl n).drop k));rw [hd];generalize jn ((lbl n).drop (k+1))=nx at*;generalize jn ((lbl n).drop k)=cu at*;rcases Aq (exB z cu) with h5|h5
    ·right;rw [h5] at k3;rw [List.find?_cons_of_pos h5];refine ⟨?_,rfl⟩;simp (disch:=omega) only [fm,k3,EVM,EVC,xe,EVP,EV,simprocAttr];rfl
    ·left;rw [h5] at k3;rw [List.find?_cons_of_neg (by simp [h5])];refine ⟨?_,rfl⟩;simp (disch:=omega) only [fm,k1,k3,q3,EVM,EVC,xe,EVP,EV,simprocAttr]
   ·have hup:(upN z.origin n)[(lbl n).length - (lbl z.origin).length]? =some (jn ((lbl n).drop ((lbl n).length - (lbl z.origin).length))):=Wx (Af _);have hd:(upN z.origin n).drop ((lbl n).length - (lbl z.origin).length)=[jn ((lbl n).drop ((lbl n).length - (lbl z.origin).length))]:=by obtain ⟨h1,h2⟩:=Aw.1 hup;have h9:(upN z.origin n).drop ((lbl n).length - (lbl z.origin).length+1)=[]:=Vt (by simp [upN]);rw [Cd h1,h2,h9]
    have q3:=(nn hu (Af _)).2 rfl;rw [hd,q3];have k3:=k2 z.origin;rcases Aq (exB z z.origin) with h5|h5
    ·rw [h5] at k3;rw [List.find?_cons_of_pos h5];refine ⟨?_,rfl⟩;simp (disch:=omega) only [fm,k3,EVM,EVC,xe,EVP,EV,simprocAttr];rfl
    ·rw [h5] at k3;rw [List.find?_cons_of_neg (by simp [h5]),List.find?_nil];refine ⟨?_,rfl⟩;simp (disch:=omega) only [fm,k3,EVM,EVC,xe,EVP,EV,simprocAttr];rfl
  cases he:Hm3 z n with
  |none=>
   rw [he] at key;simp only [res] at key;simp (disch:=omega) only [fm,k0,k1,key,EVM,EVC,xe,EVP,EV,simprocAttr];simp
  |some e=>
   rw [he] at key;simp only [res] at key;have h6:=Gm9 (C1.1 (Bh5 hu he).1).2.1;simp (disch:=omega) only [fm,k0,k1,key,EVM,EVC,xe,EVP,EV,simprocAttr];simp [h6]
 ·rw [if_neg (by simp [hu])];rw [hu] at k0;simp (disch:=omega) only [fm,k0,EVM,EVC,xe,EVP,EV,simprocAttr]
  try simp
end Go.X.G
/- The law LookupSoas. -/
namespace Go.X.G
open Go Go.X
theorem Mg (z:Zone) (n:List UInt8) (t:Int) (hl:z.recs.length≤1000000):S R7 3 [z.pv, .s n, .i .i64 t]=some [Al (findR z.recs n t)]:=by refine Gr8 (N:=1) rfl ?_;simp (disch:=omega) only [Gh0,yb,xe,EVP,EV,simprocAttr]
def soaR (z:Zone):List Rec:=match findR z.recs z.origin 6 with
 |[]=>[]
 |r::_=>[{r with ttl:=if r.data.e<r.ttl then r.data.e else r.ttl}]
def zero:Dat:=⟨false,0,0,[],[],[],0,0,0,0,0,0,0⟩
end Go.X.G
/- Records with names and texts of at most 300 bytes. -/
namespace Go.X.G
open Go Go.X
def c3 (s:List UInt8):List UInt8:=s.take 300
def Jr (r:Rec):Rec:=⟨c3 r.name,r.typ,r.ttl,{r.data with host:=c3 r.data.host,mail:=c3 r.data.mail,text:=c3 r.data.text}⟩
theorem Et8 (s:List UInt8):(c3 s).length≤300:=by unfold c3;rw [An];omega
theorem Bl7 {r:Rec} (h:r.wf):(Jr r).wf:=by
 have hs:∀s:List UInt8,Mm (c3 s):=fun s=>by have:=Et8 s;unfold Mm;omega
 exact ⟨hs _,h.typ,h.ttl,⟨h.data.hi,h.data.lo,hs _,hs _,hs _,h.data.a,h.data.b,h.data.c,h.data.d,h.data.e,h.data.f,h.data.bits⟩⟩
theorem Zb (s:List UInt8) (hs:s.length≤9223372036854775807):Zc (.s s) (.i .i64 0) (.i .i64 (if (300:Int)<(s.length:Int) then 300 else (s.length:Int)))=some (.s (c3 s)):=by
 unfold c3;by_cases h:(300:Int)<(s.length:Int)
 ·rw [if_pos h];have h1:(0:Int)≤0∧(0:Int)≤300∧(300:Int)≤(s.length:Int):=by omega
  simp only [Zc,h1,and_self,if_true];rfl
 ·rw [if_neg h];have h1:(0:Int)≤0∧(0:Int)≤(s.length:Int)∧(s.length:Int)≤(s.length:Int):=by omega
  simp only [Zc,h1,and_self,if_true,G3,C4];rw [C5 (by omega)];rfl
theorem Hx7 (n:Int):Dp4 (.i .i64 n) (.i .i64 300)=some (.i .i64 (if (300:Int)<n then 300 else n)):=by simp [Dp4]
end Go.X.G
/- The laws of zones: what they call. -/
namespace Go.X.G
open Go Go.X
theorem Dc (o:List UInt8) (l:List Rec):PV.a [.s o,Al l]=Zone.pv ⟨o,l⟩:=rfl
theorem En (z:Zone):(⟨z.origin,z.recs⟩:Zone)=z:=rfl
def smallZ (z:Zone):Zone:=⟨c3 z.origin,(z.recs.take 70).map Jr⟩
theorem Al3 {z:Zone} (h:z.wf):(smallZ z).wf:=by refine ⟨by have:=Et8 z.origin;unfold smallZ Mm;simp only;omega,by simp [smallZ];omega,fun r hr=> ?_⟩;simp only [smallZ,D6] at hr;obtain ⟨x,hx,rfl⟩:=hr;exact Bl7 (h.recs.2 x (Fv hx))
theorem zw (z:Zone):(smallZ z).recs.length≤70:=by simp [smallZ];omega
theorem Ev4 (z:Zone) (hz:z.wf):S By6 1 [z.pv]=some [(smallZ z).pv]:=by
 obtain ⟨N,hN⟩:∃N:Nat,N=72:=⟨_,rfl⟩;refine Ic0 (N:=N) rfl ?_;have hzl:z.origin.length≤9223372036854775807:=hz.origin;have hrl:=hz.recs.1;have key:Ec7.ev S N [z.pv]=some (.yld 0 [Al ((z.recs.take 70).map Jr)]):=by
  have hm:(z.recs.take 70).length≤70:=by simp;omega
  refine E2 (z.recs.take 70) (fun i=>[Al ((z.recs.take i).map Jr), .i .i64 (i:Int)]) (fun i r=> .yld 0 [Al ((z.recs.take 70).map Jr)]) rfl (by omega) (fun i c r hd hi hc=> ?_) ?_
  ·left;refine ⟨?_,rfl⟩;have hi70:i<70:=by omega
   have hc':z.recs[i]? =some c:=by rw [←hc,List.getElem?_take_of_lt hi70]
   have hil:=(Aw.1 hc').1;have hcw:=hz.recs.2 c (Bq hc');have e:(z.recs.take (i+1)).map Jr=(z.recs.take i).map Jr++[Jr c]:=by rw [Cc,hc'];simp
   have hlen:((z.recs.take i).map Jr).length=i:=by rw [F8,An];omega
   have s1:=Zb c.name hcw.name;have s2:=Zb c.data.host hcw.data.host;have s3:=Zb c.data.mail hcw.data.mail;have s4:=Zb c.data.text hcw.data.text;have h1:(i:Int)<(z.recs.length:Int):=by omega
   have h2:(i:Int)<70:=by omega
   have ei:(i:Int).toNat=i:=by omega
   rw [e];generalize (z.recs.take i).map Jr=a at*;simp (disch:=omega) only [Dx3,h1,h2,ei,hc',Hx7,s1,s2,s3,s4,EVC,xe,EVP,EV,simprocAttr];rfl
  ·refine ⟨?_,rfl⟩;have e:z.recs.take (z.recs.take 70).length=z.recs.take 70:=by
    rw [An];by_cases h:z.recs.length≤70
    ·rw [Nat.min_eq_right h,C4,C5 h]
    ·rw [M5 (by omega)]
   have hlen:((z.recs.take 70).length:Int)=if 70<z.recs.length then 70 else (z.recs.length:Int):=by rw [An];split<;>omega
   rw [e,hlen];by_cases h:70<z.recs.length
   ·rw [if_pos h];have h1:(70:Int)<(z.recs.length:Int):=by omega
    generalize (z.recs.take 70).map Jr=a at*;simp (disch:=omega) only [Dx3,h1,EVC,xe,EVP,EV,simprocAttr]
   ·rw [if_neg h];have h1:¬(z.recs.length:Int)<(z.recs.length:Int):=by omega
    generalize (z.recs.take 70).map Jr=a at*;simp (disch:=omega) only [Dx3,h1,EVC,xe,EVP,EV,simprocAttr]
 have s0:=Zb z.origin hzl;unfold smallZ;generalize (z.recs.take 70).map Jr=a at*;simp (disch:=omega) only [Dx3,key,Hx7,s0,Dc,EVC,xe,EVP,EV,simprocAttr]
def newZ (o:List UInt8) (l:List Rec):Zone:=if Ez ⟨o,sortR l⟩=0 then ⟨o,sortR l⟩ else ⟨[],[]⟩
theorem Dg8 {l:List Rec} (h:∀r∈l,r.wf):∀r∈sortR l,r.wf:=fun r hr=>h r (((Fx l).2 r).1 hr).mem
theorem qf {o:List UInt8} {l:List Rec} (ho:Mm o) (hl:l.length≤1000000) (hw:∀r∈l,r.wf):(⟨o,sortR l⟩:Zone).wf:=by have:=Nz l hw hl;exact ⟨ho,by simp only;omega,Dg8 hw⟩
theorem ml (o:List UInt8) (l:List Rec) (ho:Mm o) (hl:l.length≤1000000) (hw:∀r∈l,r.wf):S bc 2 [.s o,Al l]=some [(newZ o l).pv, .i .i64 (Ez ⟨o,sortR l⟩)]:=by
 refine Ib9 (N:=1) rfl ?_;have k1:=yz l hw hl;have hlen:=Nz l hw hl;have k2:=Tz ⟨o,sortR l⟩ (qf ho hl hw) (by simp only;omega);unfold newZ;generalize sortR l=s at*;by_cases h:Ez ⟨o,s⟩=0
 ·rw [if_pos h];rw [h] at k2 ⊢;simp (disch:=omega) only [Gl1,k1,k2,Dc,EVC,xe,EVP,EV,simprocAttr]
 ·rw [if_neg h];simp (disch:=omega) only [Gl1,k1,k2,h,Dc,EVC,xe,EVP,EV,simprocAttr]
end Go.X.G
/- The laws of zones: serial numbers, addresses of hosts, the chapter's example. -/
namespace Go.X.G
open Go Go.X
def Fl5 (z:Zone) (r:Rec):Bool:=decide (r.typ=6) && decide (r.name=z.origin)
theorem Zd (z:Zone) (r:Rec):S U4 1 [r.pv,z.pv]=some [.b (Fl5 z r)]:=by
 refine Hq1 (N:=1) rfl ?_;unfold Fl5;by_cases h:r.typ=6
 ·simp (disch:=omega) only [Ew7,h,EVC,xe,EVP,EV,simprocAttr]
  try simp
 ·simp (disch:=omega) only [Ew7,h,EVC,xe,EVP,EV,simprocAttr]
  try simp
theorem gz (z:Zone) (hl:z.recs.length≤1000000):S Av9 1 [z.pv]=some [.i .i64 (ixG (Fl5 z) 0 z.recs)]:=by refine Iy1 (N:=1) rfl ?_;have h:=T8 z.recs U4 [z.pv] (Fl5 z) hl (fun r _=>Zd z r);simp (disch:=omega) only [Ht5,Dc,En,h,EVC,xe,EVP,EV,simprocAttr]
theorem zq (z:Zone):findR z.recs z.origin 6=z.recs.filter (Fl5 z):=by unfold findR;congr 1;funext r;unfold isK Fl5;rw [Bool.and_comm]
def Iv6 (z:Zone):Int:=match findR z.recs z.origin 6 with
 |[]=>0
 |r::_=>r.data.a
theorem ix_find (p:Rec→Bool) (l:List Rec):(ixG p 0 l= -1∧l.filter p=[])∨∃(j:Nat) (x:Rec) (r:List Rec),ixG p 0 l=(j:Int)∧l[j]? =some x∧p x=true∧l.filter p=x::r:=by
 have h:=jv p l 0;by_cases hn:0≤ixG p 0 l
 ·right;obtain ⟨j,g1,g2,g3,x,g4,g5⟩:=cp p l 0 hn;have hd:l=l.take j++x::l.drop (j+1):=by
   have:=Cd g2;have e:l[j]=x:=by rw [Az g2] at g4;injection g4
   rw [e] at this;rw [←this,Bs]
  refine ⟨j,x,(l.drop (j+1)).filter p,by rw [g1];simp,g4,g5,?_⟩
  conv=>lhs;rw [hd]
  rw [Dq,Dk g5];have:(l.take j).filter p=[]:=Ed.2 fun y hy=>by simp [g3 y hy]
  rw [this,Cq]
 ·left;refine ⟨by omega,Ed.2 fun y hy=> ?_⟩;intro hp;exact hn (h.1.2 (Ck.2 ⟨y,hy,hp⟩))
theorem Ab4 (z:Zone) (hl:z.recs.length≤1000000):S By3 1 [z.pv]=some [.i .i64 (Iv6 z)]:=by
 refine Ib5 (N:=1) rfl ?_;have h:=gz z hl;unfold Iv6;rw [zq];rcases ix_find (Fl5 z) z.recs with ⟨h1,h2⟩|⟨j,x,r,h1,h2,h3,h4⟩
 ·rw [h1] at h;rw [h2];simp (disch:=omega) only [Gh1,h,EVC,xe,EVP,EV,simprocAttr]
 ·rw [h1] at h;rw [h4];have hj:(0:Int)≤(j:Int):=by omega
  have ej:(j:Int).toNat=j:=by omega
  simp (disch:=omega) only [Gh1,h,hj,ej,h2,EVC,xe,EVP,EV,simprocAttr]
def Gd9 (s:Int) (r:Rec):Rec:={r with data:={r.data with a:=s}}
theorem Ab2 (z:Zone) (s:Int) (h:inB s 4294967295=false):S By4 2 [z.pv, .i .i64 s]=some [Zone.pv ⟨[],[]⟩, .i .i64 14]:=by refine Ib6 (N:=1) rfl ?_;have k1:=Cl s;rw [h] at k1;simp (disch:=omega) only [Ij5,k1,Dc,EVC,xe,EVP,EV,simprocAttr]
def Bg5 (z:Zone) (h:List UInt8):List Rec:=if Ek1 z h≠[] then findR z.recs h 1++findR z.recs h 28 else []
def glueN (z:Zone) (hs:List (List UInt8)):List Rec:=hs.flatMap (Bg5 z)
theorem Bg4 (z:Zone) (h:List UInt8):(Bg5 z h).length≤2*z.recs.length:=by
 unfold Bg5 findR;split
 ·rw [Ab];have h1:=C2 (isK h 1) z.recs;have h2:=C2 (isK h 28) z.recs;omega
 ·simp
theorem c7 (z:Zone):∀hs:List (List UInt8),(glueN z hs).length≤2*z.recs.length*hs.length
 |[]=>by simp [glueN]
 |h::hs=>by have h1:=Bg4 z h;have h2:=c7 z hs;simp only [glueN,Ew,Ab,A0] at h2 ⊢;rw [Nat.mul_add,Ac6];omega
theorem Ev5 (z:Zone) (hs:List (List UInt8)) (hz:z.wf) (hl:z.recs.length≤1000) (hn:hs.length≤100) (hh:∀h∈hs,h.length≤9223372036854775807):S Bx4 2 [z.pv,Bm hs]=some [Al (glueN z hs)]:=by
 obtain ⟨N,hN⟩:∃N,N=hs.length+1:=⟨_,rfl⟩;refine Iz9 (N:=N) rfl ?_;have key:Ec1.ev S N [z.pv,Bm hs]=some (.yld 0 [Al (glueN z hs)]):=by
  refine E2 hs (fun i=>[Al (glueN z (hs.take i)), .i .i64 (i:Int)]) (fun i r=> .yld 0 [Al (glueN z hs)]) rfl (by omega) (fun i c r hd hi hc=> ?_) ?_
  ·left;refine ⟨?_,rfl⟩;have e:glueN z (hs.take (i+1))=glueN z (hs.take i)++Bg5 z c:=by rw [Cc,hc];simp [glueN]
   have hlen:=c7 z (hs.take i);have hl2:2*z.recs.length*(hs.take i).length≤2000*100:=G2 (by omega) (by rw [An];omega);have h1:(i:Int)<(hs.length:Int):=by omega
   have ei:(i:Int).toNat=i:=by omega
   have k1:=fc z c hz (by omega) (hh c (Bq hc));have k2:=Mg z c 1 (by omega);have k3:=Mg z c 28 (by omega);have l2:(findR z.recs c 1).length≤z.recs.length:=C2 _ _;have l3:(findR z.recs c 28).length≤z.recs.length:=C2 _ _;rw [e];unfold Bg5;generalize glueN z (hs.take i)=a at*;by_cases hc2:Ek1 z c=[]
   ·have eb:decide (Ek1 z c≠[])=false:=by simp [hc2]
    rw [eb] at k1;rw [if_neg (by simp [hc2])];simp (disch:=omega) only [Dx2,h1,ei,hc,k1,EVC,xe,EVP,EV,simprocAttr];simp
   ·have eb:decide (Ek1 z c≠[])=true:=by simp [hc2]
    rw [eb] at k1;rw [if_pos hc2];generalize findR z.recs c 1=f1 at*;generalize findR z.recs c 28=f2 at*;have la:(a++f1).length≤1000000:=by rw [Ab];omega
    simp (disch:=omega) only [Dx2,h1,ei,hc,k1,k2,k3,EVC,xe,EVP,EV,simprocAttr];simp
  ·refine ⟨?_,rfl⟩;have h1:¬(hs.length:Int)<(hs.length:Int):=by omega
   have e:hs.take hs.length=hs:=C4;rw [e];generalize glueN z hs=a at*;simp (disch:=omega) only [Dx2,h1,EVC,xe,EVP,EV,simprocAttr]
 generalize glueN z hs=a at*;simp (disch:=omega) only [Dx2,key,EVC,xe,EVP,EV,simprocAttr]
end Go.X.G
/- The laws of zones: the chapter's example. -/
namespace Go.X.G
open Go Go.X
def exL:List Rec:=[⟨[101,120,97,109,112,108,101,46],6,60,{zero with host:=[110,115,46,98,46,101,120,97,109,112,108,101,46],mail:=[109,46,101,120,97,109,112,108,101,46],a:=5,b:=60,c:=60,d:=600,e:=30}⟩,⟨[101,120,97,109,112,108,101,46],2,60,{zero with host:=[110,115,46,98,46,101,120,97,109,112,108,101,46]}⟩,⟨[98,46,101,120,97,109,112,108,101,46],2,60,{zero with host:=[110,115,46,98,46,101,120,97,109,112,108,101,46]}⟩,⟨[101,120,97,109,112,108,101,46],1,60,{zero with lo:=1}⟩,⟨[99,46,100,46,101,120,97,109,112,108,101,46],1,60,{zero with lo:=2}⟩,⟨[110,115,46,98,46,101,120,97,109,112,108,101,46],1,60,{zero with lo:=3}⟩]
def Ed2:Rec:=⟨[98,46,101,120,97,109,112,108,101,46],15,60,{zero with a:=1,host:=[97,46]}⟩
def exO:List UInt8:=[101,120,97,109,112,108,101,46]
theorem Ab6:S Bw5 0 []=some [Al exL]:=(Mp ext_mono).2 ⟨3,by kernel_rfl⟩
theorem Ed3:∀r∈exL++[Ed2],r.wf:=by intro r hr;simp only [exL,Ed2,B7,Cq,Am,List.mem_nil_iff,or_false] at hr;rcases hr with rfl|rfl|rfl|rfl|rfl|rfl|rfl<;>(constructor<;>(try constructor))<;>simp [zero,Ag5,Tb,Mm]
def exZ:Zone:=⟨exO,sortR exL⟩
theorem td:Ez exZ=0:=by kernel_rfl
theorem Hh0:Ez ⟨exO,sortR (exL++[Ed2])⟩=13:=by kernel_rfl
theorem Gj2:Ek1 exZ [120,46,110,115,46,98,46,101,120,97,109,112,108,101,46]=[98,46,101,120,97,109,112,108,101,46]:=by kernel_rfl
theorem Gj1:Ek1 exZ exO=[]:=by kernel_rfl
theorem Ft9:Hm4 exZ [120,46,121,46,100,46,101,120,97,109,112,108,101,46]=[100,46,101,120,97,109,112,108,101,46]:=by kernel_rfl
theorem Ft8:Hm4 exZ [110,115,46,98,46,101,120,97,109,112,108,101,46]=[98,46,101,120,97,109,112,108,101,46]:=by kernel_rfl
theorem Hg9:exB exZ [100,46,101,120,97,109,112,108,101,46]=true:=by kernel_rfl
theorem Hg8:exB exZ [110,115,46,98,46,101,120,97,109,112,108,101,46]=false:=by kernel_rfl
theorem Dt9:namesN exZ=[[101,120,97,109,112,108,101,46],[98,46,101,120,97,109,112,108,101,46],[100,46,101,120,97,109,112,108,101,46],[99,46,100,46,101,120,97,109,112,108,101,46]]:=by unfold namesN;rw [←av];kernel_rfl
theorem Gj0:(cutsN exZ).length=1:=by unfold cutsN;rw [←av];kernel_rfl
theorem Ft6:glueN exZ [[110,115,46,98,46,101,120,97,109,112,108,101,46],exO]=[⟨[110,115,46,98,46,101,120,97,109,112,108,101,46],1,60,{zero with lo:=3}⟩]:=by kernel_rfl
theorem Hg6:Iv6 exZ=5:=by kernel_rfl
theorem Hg7:exZ.recs.length=6:=by kernel_rfl
theorem Ft7:findR exZ.recs [100,46,101,120,97,109,112,108,101,46] 1=[]:=by kernel_rfl
theorem Ed5 (n:List UInt8) (lo:Int):S Aw3 2 [.s n, .i .u64 lo]=some [Rec.pv ⟨n,1,60,{zero with lo:=lo}⟩]:=by refine Iz6 (N:=1) rfl ?_;simp (disch:=omega) only [Ij3,EVC,xe,EVP,EV,simprocAttr];rfl
theorem Vl:S R9 0 []=some [.b true]:=by
 refine Ib7 (N:=1) rfl ?_;have hw:∀r∈exL,r.wf:=fun r hr=>Ed3 r (B3 _ hr);have ho:Mm exO:=by unfold Mm exO;decide
 have k0:=Ab6;have hz:exZ.wf:=qf ho (by decide) hw;have hl:exZ.recs.length=6:=Hg7;have ec:Ez ⟨exO,sortR exL⟩=0:=td;have k1:=ml exO exL ho (by decide) hw;have en:newZ exO exL=exZ:=by unfold newZ;rw [if_pos ec];rfl
 rw [en,ec] at k1;have k2:=Tz exZ hz (by omega);rw [td] at k2;have k3:=Ab4 exZ (by omega);rw [Hg6] at k3;have c1:=fc exZ [120,46,110,115,46,98,46,101,120,97,109,112,108,101,46] hz (by omega) (by decide);rw [Gj2] at c1;have c2:=fc exZ exO hz (by omega) (by decide);rw [Gj1] at c2;have e1:=Pb exZ [120,46,121,46,100,46,101,120,97,109,112,108,101,46] hz (by omega) (by decide);rw [Ft9] at e1;have e2:=Pb exZ [110,115,46,98,46,101,120,97,109,112,108,101,46] hz (by omega) (by decide);rw [Ft8] at e2;have n1:=Q4 exZ hz (by omega);rw [Dt9] at n1;have u1:=V6 exZ hz (by omega);have ul:=Gj0;have g1:=Ev5 exZ [[110,115,46,98,46,101,120,97,109,112,108,101,46],exO] hz (by omega) (by decide) (by decide);rw [Ft6] at g1;have w1:=Ab2 exZ (-1) (by decide);have b1:=ml exO (exL++[Ed2]) ho (by decide) Ed3;rw [Hh0] at b1;have a1:=Ed5 [110,115,46,98,46,101,120,97,109,112,108,101,46] 3;have x1:=T9 exZ [100,46,101,120,97,109,112,108,101,46] hz (by omega);rw [Hg9] at x1;have x2:=T9 exZ [110,115,46,98,46,101,120,97,109,112,108,101,46] hz (by omega);rw [Hg8] at x2;have f1:=Mg exZ [100,46,101,120,97,109,112,108,101,46] 1 (by omega);rw [Ft7] at f1;have eo:([101,120,97,109,112,108,101,46]:List UInt8)=exO:=rfl;have happ:H8 16 (Al exL) (Al [⟨[98,46,101,120,97,109,112,108,101,46],15,60,⟨false,0,0,[97,46],[],[],1,0,0,0,0,0,0⟩⟩])=some (Al (exL++[Ed2])):=d4 exL Ed2 (by decide);have hlit:Jc 16 [PV.a [.s [98,46,101,120,97,109,112,108,101,46], .i .i64 15, .i .i64 60, .b false, .i .u64 0, .i .u64 0, .s [97,46], .s [], .s [], .i .i64 1, .i .i64 0, .i .i64 0, .i .i64 0, .i .i64 0, .i .i64 0, .i .u64 0]]=some (Al [⟨[98,46,101,120,97,109,112,108,101,46],15,60,⟨false,0,0,[97,46],[],[],1,0,0,0,0,0,0⟩⟩]):=rfl;have hs2:Bm [[110,115,46,98,46,101,120,97,109,112,108,101,46],exO]= .l 1 [.s [110,115,46,98,46,101,120,97,109,112,108,101,46], .s [101,120,97,109,112,108,101,46]]:=rfl;rw [hs2] at g1;have hex:PV.s exO= .s [101,120,97,109,112,108,101,46]:=rfl;rw [hex] at k1 c2 b1;generalize newZ exO (exL++[Ed2])=nz at*;generalize exL++[Ed2]=l2 at*;have hn4:(Bm [[101,120,97,109,112,108,101,46],[98,46,101,120,97,109,112,108,101,46],[100,46,101,120,97,109,112,108,101,46],[99,46,100,46,101,120,97,109,112,108,101,46]])= .l 1 (List.map PV.s [[101,120,97,109,112,108,101,46],[98,46,101,120,97,109,112,108,101,46],[100,46,101,120,97,109,112,108,101,46],[99,46,100,46,101,120,97,109,112,108,101,46]]):=rfl;generalize cutsN exZ=cz at*;have hrl:((exZ.recs.length:Nat):Int)=6:=by omega
 generalize exZ=zz at*;generalize exL=l1 at*;have hlit2:Jc 1 [.s [110,115,46,98,46,101,120,97,109,112,108,101,46], .s [101,120,97,109,112,108,101,46]]=some (.l 1 [.s [110,115,46,98,46,101,120,97,109,112,108,101,46], .s [101,120,97,109,112,108,101,46]]):=rfl;clear hn4 hs2 hex eo;simp (disch:=first|omega|decide) only [Ij6,k0,k1,k2,k3,hrl,c1,c2,e1,e2,n1,u1,ul,g1,w1,happ,hlit,hlit2,b1,a1,x1,x2,f1,EVC,xe,EVP,EV,simprocAttr]
end Go.X.G
/- What the laws on tasks are called with. -/
namespace Go.X
structure Begin where
 q:Ques
 zone:List UInt8
 hosts:List (List UInt8)
 addrs:List Adr
structure Actn where
 kind:Int
 n:Int
 odd:Bool
 m:Msg
 host:List UInt8
 addrs:List Adr
def u8r (x:Int):Prop:=0≤x∧x≤255
structure Begin.wf (b:Begin):Prop where
 q:b.q.wf
 zone:Mm b.zone
 hosts:b.hosts.length≤9223372036854775807∧∀h∈b.hosts,Mm h
 addrs:b.addrs.length≤9223372036854775807
structure Actn.wf (a:Actn):Prop where
 kind:u8r a.kind
 n:u8r a.n
 m:a.m.wf
 host:Mm a.host
 addrs:a.addrs.length≤9223372036854775807
def Begin.cells (b:Begin):List PV:=[.s b.q.name, .i .i64 b.q.typ, .s b.zone,Bm b.hosts,E5 b.addrs]
def Begin.pv (b:Begin):PV:= .a b.cells
def Actn.cells (a:Actn):List PV:=[.i .u8 a.kind, .i .u8 a.n, .b a.odd, .i .i64 a.m.id, .i .i64 a.m.op, .i .i64 a.m.code, .b a.m.resp, .b a.m.aa, .b a.m.tc, .b a.m.rd, .b a.m.ra, .b a.m.ad, .b a.m.cd, .b a.m.dok, .i .i64 a.m.size, .s a.m.q.name, .i .i64 a.m.q.typ,Al a.m.ans,Al a.m.auth,Al a.m.ext, .s a.host,E5 a.addrs]
def Actn.pv (a:Actn):PV:= .a a.cells
theorem Hx2 {cs:List PV} (h:(Sh.i .u8).okC cs):∃x,cs=[.i .u8 x]∧u8r x:=by simp only [Sh.okC] at h;obtain ⟨n,rfl,h1,h2⟩:=h;exact ⟨n,rfl,h1,h2⟩
theorem Hx3 {p:PV} (h:(Sh.i .u8).ok p):∃x,u8r x∧p= .i .u8 x:=by have h':p.scal=true∧(Sh.i .u8).okC [p]:=h;obtain ⟨x,hx,hs⟩:=Hx2 h'.2;injection hx with hx;exact ⟨x,hs,hx⟩
end Go.X
/- The law ZoneShuffles. -/
namespace Go.X
end Go.X
namespace Go.X.G
open Go Go.X
theorem qm:∀{l:List Rec},Dv4 l→∀{a b:Rec},a∈l→b∈l→Fz a=Fz b→a=b
 |[],_,a,b,ha,_,_=>by cases ha
 |x::r,h,a,b,ha,hb,e=>by
  obtain ⟨h1,h2⟩:=A3.1 h;rcases Am.1 ha with e1|ha1<;>rcases Am.1 hb with e2|hb1
  ·rw [e1,e2]
  ·have:=h1 b hb1;rw [←e1,e] at this;exact absurd this (to_F.irr _)
  ·have:=h1 a ha1;rw [←e2,e] at this;exact absurd this (to_F.irr _)
  ·exact qm h2 ha1 hb1 e
theorem zk {s l:List Rec} (hs:Dv4 s) (h:∀r,r∈l↔r∈s):sortR l=s:=by
 obtain ⟨g1,g2⟩:=Fx l;refine Wn _ _ g1 hs fun x=> ?_;rw [g2];constructor
 ·intro q;exact (h x).1 q.mem
 ·intro q;obtain ⟨z,hz,e,_⟩:=l4 l x ((h x).2 q);have:z=x:=qm hs ((h z).1 hz.mem) q e;rw [←this];exact hz
structure StpI (zs:List Rec) (i:Nat) (l:List Rec):Prop where
 mem:∀r,r∈l↔r∈zs
 lo:zs.length≤l.length
 hi:l.length≤zs.length+min i zs.length
end Go.X.G
/- What a checked zone says of its names. -/
namespace Go.X.G
open Go Go.X
theorem yg {n:List UInt8} (h:vld n=true):under n n=true:=C1.2 ⟨h,h,List.suffix_refl _⟩
theorem ym {a b:List UInt8} (h1:under a b=true) (h2:under b a=true):a=b:=by refine yh h1 ?_;exact (C1.1 h2).2.2.length_le
theorem Bf6 {z:Zone} {r:Rec}:Dp z r=true↔r.typ=2∧r.name≠z.origin∧under r.name z.origin=true:=by unfold Dp D4;simp only [Av,decide_eq_true_eq,ne_eq]
theorem F6 {l:List Rec} {n:List UInt8} {t:Int} {r:Rec}:r∈findR l n t↔r∈l∧r.name=n∧r.typ=t:=by unfold findR;rw [Bh];simp only [isK,Av,decide_eq_true_eq]
theorem ZOk.soaR {z:Zone} (h:ZOk z):∃r∈z.recs,r.name=z.origin∧r.typ=6:=by
 have:=h.soa;cases e:findR z.recs z.origin 6 with
 |nil=>rw [e] at this;cases this
 |cons r l=>
  have:r∈findR z.recs z.origin 6:=by rw [e];exact .head _
  exact ⟨r,(F6.1 this).1,(F6.1 this).2⟩
theorem Ax2 (z:Zone):Xb z z.origin=false:=by
 cases h:Xb z z.origin with
 |false=>rfl
 |true=>
  unfold Xb at h;simp only [Ck,Av,decide_eq_true_eq] at h;obtain ⟨r,_,⟨h1,_⟩,h3⟩:=h;obtain ⟨_,h4,h5⟩:=Bf6.1 h1;exact absurd (ym h5 h3) h4
theorem ZOk.exO {z:Zone} (h:ZOk z):exB z z.origin=true:=by obtain ⟨r,hr,e,_⟩:=h.soaR;have u:=yg h.origin;exact (Ed4 z _).2 ⟨r,hr,by rw [e];exact u,by rw [e];exact Ax2 z,by rw [e];exact u,u⟩
end Go.X.G
/- What exists in a checked zone, and the law ZoneExists. -/
namespace Go.X.G
open Go Go.X
end Go.X.G
/- A zone with another serial number is one: the law ZoneSerials. -/
namespace Go.X
end Go.X
namespace Go.X.G
open Go Go.X
def Iv7 (s:Int) (r:Rec):Rec:=if r.typ=6 then Gd9 s r else r
theorem zx {s:Int} (hs:inB s 4294967295=true) {r:Rec} (h:Iz r=true):Iz (Iv7 s r)=true:=by
 unfold Iv7;by_cases ht:r.typ=6
 ·rw [if_pos ht];unfold Iz Ev at h ⊢;simp only [Av,decide_eq_true_eq] at h ⊢;obtain ⟨⟨⟨⟨h1,h2⟩,h3⟩,h4⟩,⟨h5,h6⟩,h7⟩:=h;refine ⟨⟨⟨⟨h1,h2⟩,h3⟩,h4⟩,⟨h5,?_⟩,?_⟩
  ·show usd r.typ (Gd9 s r).data=(Gd9 s r).data;rw [ht] at h6 ⊢;simp only [usd] at h6 ⊢;simp only [Gd9];rw [←h6];simp
  ·show Dw r.typ (Gd9 s r).data=true;rw [ht] at h7 ⊢;simp only [Dw] at h7 ⊢;simp only [Gd9];simp at h7 ⊢;simp [h7,hs]
 ·rw [if_neg ht];exact h
end Go.X.G
/- Valid data are known by their bytes; records that are alike. -/
namespace Go.X.G
open Go Go.X
theorem Fd1:∀(n x y:Nat),be (x:Int) n=be (y:Int) n→x % 256 ^ n=y % 256 ^ n
 |0,x,y,_=>by simp [Nat.mod_one]
 |n+1,x,y,h=>by
  simp only [be,List.cons.injEq] at h;obtain ⟨h1,h2⟩:=h;have ih:=Fd1 n x y h2;have e:∀v:Nat,((v:Int) / 256 ^ n % 256).toNat=v / 256 ^ n % 256:=fun v=>by
   have:((v:Int) / 256 ^ n % 256)=((v / 256 ^ n % 256:Nat):Int):=by simp
   rw [this,G3]
  rw [e,e] at h1;have h3:x / 256 ^ n % 256=y / 256 ^ n % 256:=by have:=congrArg UInt8.toNat h1;simpa using this
  rw [Nat.pow_succ,Nat.mod_mul,Nat.mod_mul,ih,h3]
theorem Vg {n:Nat} {a b:Int} (ha:0≤a) (ha2:a<256 ^ n) (hb:0≤b) (hb2:b<256 ^ n) (h:be a n=be b n):a=b:=by
 obtain ⟨x,rfl⟩:=Q3 ha;obtain ⟨y,rfl⟩:=Q3 hb;have:=Fd1 n x y h;have hx:x<256 ^ n:=by
  have:((x:Nat):Int)<((256 ^ n:Nat):Int):=by simpa using ha2
  omega
 have hy:y<256 ^ n:=by
  have:((y:Nat):Int)<((256 ^ n:Nat):Int):=by simpa using hb2
  omega
 rw [Cr hx,Cr hy] at this;rw [this]
theorem Ox {n:Nat} {a b:Int} {u v:List UInt8} (h:be a n++u=be b n++v):be a n=be b n∧u=v:=
 List.append_inj h (by rw [Eg,Eg])
theorem Ag1:∀(l m:List (List UInt8)) (u v:List UInt8),(∀x∈l,Jn x=true)→(∀x∈m,Jn x=true)→wireL l++(be 0 1++u)=wireL m++(be 0 1++v)→l=m∧u=v:=by
 have pos:∀x:List UInt8,Jn x=true→1≤x.length∧x.length≤63:=fun x h=>by
  refine ⟨?_,Sd h⟩;unfold Jn at h;simp at h;rcases h with h|h
  ·simp [h]
  ·omega
 have z1:∀(n:Nat) (u v:List UInt8),1≤n→n≤63→be (n:Int) 1++u≠be 0 1++v:=fun n u v h1 h2 h=>by have:=(Ox h).1;have:=Vg (n:=1) (by omega) (by omega) (by omega) (by omega) this;omega
 intro l
 induction l with
 |nil=>
  intro m u v _ hm h;cases m with
  |nil=>exact ⟨rfl,(Ox h).2⟩
  |cons y m=>
   have:=pos y (hm y (.head _));simp only [wireL,List.flatMap_nil,Cq,Ew,As] at h;exact absurd h.symm (z1 _ _ _ this.1 this.2)
 |cons x l ih=>
  intro m u v hl hm h;have hx:=pos x (hl x (.head _));cases m with
  |nil=>
   simp only [wireL,List.flatMap_nil,Cq,Ew,As] at h;exact absurd h (z1 _ _ _ hx.1 hx.2)
  |cons y m=>
   have hy:=pos y (hm y (.head _));simp only [wireL,Ew,As] at h;obtain ⟨h1,h2⟩:=Ox h;have h3:=Vg (n:=1) (by omega) (by omega) (by omega) (by omega) h1;obtain ⟨rfl,h4⟩:=List.append_inj h2 (by omega);obtain ⟨rfl,rfl⟩:=ih m u v (fun z hz=>hl z (.tail _ hz)) (fun z hz=>hm z (.tail _ hz)) h4;exact ⟨rfl,rfl⟩
theorem Kn {a b u v:List UInt8} (ha:vld a=true) (hb:vld b=true) (h:Hq a++u=Hq b++v):a=b∧u=v:=by simp only [Hq,As] at h;obtain ⟨h1,h2⟩:=Ag1 _ _ _ _ (N1 a) (N1 b) h;exact ⟨M1 ha hb h1,h2⟩
theorem Jg {a b:List UInt8} (ha:vld a=true) (hb:vld b=true) (h:Hq a=Hq b):a=b:=
 (Kn (u:=[]) (v:=[]) ha hb (by simpa using h)).1
theorem xh (a b:Nat):∀n,(∀t,t<n→bit (a:Int) t=bit (b:Int) t)→a % 2 ^ n=b % 2 ^ n
 |0,_=>by simp [Nat.mod_one]
 |n+1,h=>by
  have ih:=xh a b n fun t ht=>h t (by omega);have h1:=h n (by omega);have e:∀v:Nat,bit (v:Int) n=((v / 2 ^ n % 2:Nat):Int):=fun v=>by unfold bit;simp
  rw [e,e] at h1;have h2:a / 2 ^ n % 2=b / 2 ^ n % 2:=by omega
  rw [Nat.pow_succ,Nat.mod_mul,Nat.mod_mul,ih,h2]
theorem xz (a b:Int) (i:Nat):∀j,bmV a i j=bmV b i j→∀t,t<j→bit a (i*8+t)=bit b (i*8+t)
 |0,_,t,ht=>by omega
 |j+1,h,t,ht=>by
  simp only [bmV] at h;have h1:=xl a (i*8+j);have h2:=xl b (i*8+j);have h3:bit a (i*8+j)=bit b (i*8+j):=by omega
  rcases Dw3 t j with hlt|hge
  ·exact xz a b i j (by omega) t hlt
  ·rw [show t=j by omega];exact h3
theorem X9 (a:Int):∀k i,bmL a k≤i→i<k→bmV a i 8=0
 |0,i,_,h=>by omega
 |k+1,i,h,hi=>by
  simp only [bmL] at h;split at h
  ·omega
  ·rename_i h0;rcases Dw3 i k with hlt|hge
   ·exact X9 a k i h hlt
   ·rw [show i=k by omega];simpa using h0
theorem Eq1 {a b:Int} (ha:0≤a) (ha2:a≤18446744073709551615) (hb:0≤b) (hb2:b≤18446744073709551615) (h:bmap a=bmap b):a=b:=by
 have hlen:bmL a 8=bmL b 8:=by have:=congrArg List.length h;simp only [bmap,An,F8,M9] at this;have h1:=xf a 8;have h2:=xf b 8;omega
 have hby:∀i,i<8→bmV a i 8=bmV b i 8:=fun i hi=>by
  rcases Dw3 i (bmL a 8) with hlt|hge
  ·have h1:(bmap a)[i]? =some (bmB a i):=by simp only [bmap];rw [Bv,if_pos hlt,Bg,B5 hi];rfl
   have h2:(bmap b)[i]? =some (bmB b i):=by simp only [bmap];rw [Bv,if_pos (by omega),Bg,B5 hi];rfl
   rw [h,h2] at h1;injection h1 with h1;have e1:=Vd a i 8;have e2:=Vd b i 8;have h3:=congrArg (fun c:UInt8=>(c.toNat:Int)) h1;simp only [bmB] at h3;rw [W9 _ e2.1 (by omega),W9 _ e1.1 (by omega)] at h3;exact h3.symm
  ·rw [X9 a 8 i hge hi,X9 b 8 i (by omega) hi]
 obtain ⟨x,rfl⟩:=Q3 ha;obtain ⟨y,rfl⟩:=Q3 hb;have:=xh x y 64 fun t ht=>by have:=xz x y (t / 8) 8 (hby (t / 8) (by omega)) (t % 8) (by omega);rwa [show t / 8*8+t % 8=t by omega] at this
 rw [Cr (by omega),Cr (by omega)] at this;rw [this]
theorem Dh {n:List UInt8} (h:G6 n=true):vld n=true:=by unfold G6 at h;simp only [Av] at h;exact h.1
theorem In8 {x m:Int}:inB x m=true↔0≤x∧x≤m:=by simp [inB]
theorem D7 {n:Nat} {m x y:Int} {u v:List UInt8} (hm:m<256 ^ n) (h1:inB x m=true) (h2:inB y m=true) (h:be x n++u=be y n++v):x=y∧u=v:=by rw [In8] at h1 h2;obtain ⟨h3,h4⟩:=Ox h;exact ⟨Vg h1.1 (by omega) h2.1 (by omega) h3,h4⟩
theorem Ec9 {x:Int} (hx:knw x=true):inB x 65535=true:=by rcases knw_cases hx with rfl|rfl|rfl|rfl|rfl|rfl|rfl|rfl|rfl|rfl|rfl|rfl|rfl|rfl<;>decide
theorem Ag2 {t:Int} {a b:Dat} (wa:a.wf) (wb:b.wf) (ha:Ev t a=true) (hb:Ev t b=true) (h:I0 t a=I0 t b):a=b:=by
 simp only [Ev,Av,decide_eq_true_eq] at ha hb;obtain ⟨⟨hk,ua⟩,ka⟩:=ha;obtain ⟨⟨_,ub⟩,kb⟩:=hb;have w1:=wa.hi;have w2:=wa.lo;have w3:=wa.bits
 have v1:=wb.hi;have v2:=wb.lo;have v3:=wb.bits
 unfold Ag5 at w1 w2 w3 v1 v2 v3;suffices hs:usd t a=usd t b by rw [←ua,←ub];exact hs
 clear ua ub wa wb;rcases knw_cases hk with rfl|rfl|rfl|rfl|rfl|rfl|rfl|rfl|rfl|rfl|rfl|rfl|rfl|rfl
 all_goals clear hk
 all_goals simp [Dw] at ka kb
 all_goals simp [I0,Oh] at h
 all_goals simp [usd]
 ·simp [Ek] at ka kb;obtain ⟨ka1,ka2⟩:=ka;obtain ⟨kb1,kb2⟩:=kb;rw [ka2] at ka1 h;rw [kb2] at kb1 h;simp only [Ad,false_or,if_false] at ka1 kb1 h;exact ⟨by rw [ka2,kb2],by rw [ka1.1,kb1.1],Vg (n:=4) w2.1 (by omega) v2.1 (by omega) h⟩
 ·exact Jg (Dh ka) (Dh kb) h
 ·exact Jg (Dh ka) (Dh kb) h
 ·obtain ⟨⟨⟨⟨⟨⟨a1,a2⟩,a3⟩,a4⟩,a5⟩,a6⟩,a7⟩:=ka;obtain ⟨⟨⟨⟨⟨⟨b1,b2⟩,b3⟩,b4⟩,b5⟩,b6⟩,b7⟩:=kb;obtain ⟨e1,h⟩:=Kn (Dh a1) (Dh b1) h;obtain ⟨e2,h⟩:=Kn (Dh a2) (Dh b2) h;obtain ⟨e3,h⟩:=D7 (by decide) a3 b3 h;obtain ⟨e4,h⟩:=D7 (by decide) a4 b4 h;obtain ⟨e5,h⟩:=D7 (by decide) a5 b5 h;obtain ⟨e6,h⟩:=D7 (by decide) a6 b6 h;obtain ⟨e7,_⟩:=D7 (n:=4) (u:=[]) (v:=[]) (by decide) a7 b7 (by simpa using h);exact ⟨e1,e2,e3,e4,e5,e6,e7⟩
 ·exact Jg (Dh ka) (Dh kb) h
 ·obtain ⟨e1,h⟩:=D7 (by decide) ka.2 kb.2 h;exact ⟨Jg (Dh ka.1) (Dh kb.1) h,e1⟩
 ·exact (Ox h).2
 ·rw [ka,kb] at h;simp only [if_true] at h;obtain ⟨h1,h2⟩:=Ox h;exact ⟨by rw [ka,kb],Vg (n:=8) w1.1 (by omega) v1.1 (by omega) h1,Vg (n:=8) w2.1 (by omega) v2.1 (by omega) h2⟩
 ·obtain ⟨⟨⟨a1,a2⟩,a3⟩,a4⟩:=ka;obtain ⟨⟨⟨b1,b2⟩,b3⟩,b4⟩:=kb;obtain ⟨e1,h⟩:=D7 (by decide) a2 b2 h;obtain ⟨e2,h⟩:=D7 (by decide) a3 b3 h;obtain ⟨e3,h⟩:=D7 (by decide) a4 b4 h;exact ⟨Jg (Dh a1) (Dh b1) h,e1,e2,e3⟩
 ·exact Jg (Dh ka) (Dh kb) h
 ·obtain ⟨⟨⟨a1,a2⟩,a3⟩,a4⟩:=ka;obtain ⟨⟨⟨b1,b2⟩,b3⟩,b4⟩:=kb;obtain ⟨e1,h⟩:=D7 (by decide) a1 b1 h;obtain ⟨e2,h⟩:=D7 (by decide) a2 b2 h;obtain ⟨e3,h⟩:=D7 (by decide) a3 b3 h;exact ⟨h,e1,e2,e3⟩
 ·obtain ⟨⟨⟨⟨⟨⟨⟨⟨ka0,_⟩,ka1⟩,ka2⟩,ka3⟩,ka4⟩,ka5⟩,ka6⟩,ka7⟩:=ka;obtain ⟨⟨⟨⟨⟨⟨⟨⟨kb0,_⟩,kb1⟩,kb2⟩,kb3⟩,kb4⟩,kb5⟩,kb6⟩,kb7⟩:=kb;obtain ⟨e0,h⟩:=D7 (by decide) (Ec9 ka0) (Ec9 kb0) h;have h:=(Ox (a:=253) (b:=253) h).2;obtain ⟨e1,h⟩:=D7 (by decide) ka1 kb1 h;obtain ⟨e2,h⟩:=D7 (by decide) ka2 kb2 h;obtain ⟨e3,h⟩:=D7 (by decide) ka3 kb3 h;obtain ⟨e4,h⟩:=D7 (by decide) ka4 kb4 h;obtain ⟨e5,h⟩:=D7 (by decide) ka5 kb5 h;obtain ⟨e6,h⟩:=Kn (Dh ka6) (Dh kb6) h;exact ⟨e6,h,e0,e1,e2,e3,e4,e5⟩
 ·obtain ⟨e1,h⟩:=Kn ka.1.1 kb.1.1 h;have h:=(Ox (a:=0) (b:=0) h).2;have h:=(Ox h).2;exact ⟨e1,Eq1 w3.1 w3.2 v3.1 v3.2 h⟩
 ·obtain ⟨⟨⟨a1,a2⟩,a3⟩,a4⟩:=ka;obtain ⟨⟨⟨b1,b2⟩,b3⟩,b4⟩:=kb;obtain ⟨e1,h⟩:=D7 (m:=65535) (by decide) (by rcases a1 with q|q<;>rw [q]<;>decide) (by rcases b1 with q|q<;>rw [q]<;>decide) h;obtain ⟨e2,h⟩:=D7 (m:=255) (by decide) (by rw [a2];decide) (by rw [b2];decide) h;obtain ⟨e3,h⟩:=D7 (by decide) a3 b3 h;exact ⟨h,e1,e2,e3⟩
end Go.X.G
/- A zone with one record more that may not be there is none. -/
namespace Go.X.G
open Go Go.X
theorem Qs {a b:Rec} (wa:a.wf) (wb:b.wf) (ha:Iz a=true) (h:Fz a=Fz b):a.data=b.data:=by
 have h2:a.typ=b.typ:=congrArg (fun k:Dw1=>k.2.1) h;have h3:(Ay4 a.typ a.data).1=(Ay4 b.typ b.data).1:=congrArg (fun k:Dw1=>k.2.2.1) h;have h4:(Ay4 a.typ a.data).2=(Ay4 b.typ b.data).2:=congrArg (fun k:Dw1=>k.2.2.2) h;have va:=Jh ha;rw [←h2] at h3 h4;have vb:Ev a.typ b.data=true:=by
  simp only [Ay4,va,if_true] at h3;rcases Aq (Ev a.typ b.data) with q|q
  ·exact q
  ·rw [q] at h3;simp at h3
 simp only [Ay4,va,vb,if_true] at h4;exact Ag2 wa.data wb.data va vb h4
theorem Lw {a b:Rec} (h:Fz a=Fz b):a.name=b.name∧a.typ=b.typ:=⟨congrArg (fun k:Dw1=>k.1) h,congrArg (fun k:Dw1=>k.2.1) h⟩
theorem Hy (l:List Rec) {y:Rec} (hy:y∈l):∃w∈sortR l,Fz w=Fz y∧w∈l∧w.ttl≤y.ttl:=by obtain ⟨w,h1,h2,h3⟩:=l4 l y hy;exact ⟨w,((Fx l).2 w).2 h1,h2,h1.mem,h3⟩
theorem Tv (n:List UInt8) (t:Int) {l:List Rec} {w:Rec} (hw:isK n t w=true):Ac5 l w↔Ac5 (findR l n t) w:=by
 have key:∀y,Fz y=Fz w→isK n t y=true:=fun y hy=>by obtain ⟨h1,h2⟩:=Lw hy;unfold isK at hw ⊢;rw [h1,h2];exact hw
 constructor
 ·rintro ⟨l1,l2,rfl,h1,h2⟩;refine ⟨findR l1 n t,findR l2 n t,?_,fun y hy=>h1 y (Bh.1 hy).1,fun y hy=>h2 y (Bh.1 hy).1⟩;unfold findR;rw [Dq,Dk hw]
 ·intro h;refine Qf (P:=fun l=>Ac5 (findR l n t) w→Ac5 l w) ?_ ?_ _ l rfl h
  ·rintro ⟨l1,l2,e,_⟩;exact absurd e (by simp [findR])
  ·intro l x ih hb;rw [G9];by_cases hx:isK n t x=true
   ·have e:findR (l++[x]) n t=findR l n t++[x]:=by unfold findR;rw [Dq,Dk hx,Hp7]
    rw [e,G9] at hb;rcases hb with ⟨h1,h2⟩|⟨h1,h2⟩
    ·subst h1;exact .inl ⟨rfl,fun y hy hk=>h2 y (Bh.2 ⟨hy,key y hk⟩) hk⟩
    ·exact .inr ⟨ih h1,h2⟩
   ·have e:findR (l++[x]) n t=findR l n t:=by unfold findR;rw [Dq,List.filter_cons_of_neg hx,Hp7,Dd]
    rw [e] at hb;exact .inr ⟨ih hb,fun hk=>absurd (key x hk.symm) hx⟩
theorem jg (l:List Rec) (n:List UInt8) (t:Int):findR (sortR l) n t=sortR (findR l n t):=by
 refine Wn _ _ ((Fx l).1.filter _) (Fx _).1 fun w=> ?_;rw [(Fx (findR l n t)).2];constructor
 ·intro h;obtain ⟨h1,h2⟩:=Bh.1 h;exact (Tv n t h2).1 (((Fx l).2 w).1 h1)
 ·intro h;have h2:=(Bh.1 h.mem).2;exact Bh.2 ⟨((Fx l).2 w).2 ((Tv n t h2).2 h),h2⟩
theorem Az3 {z:Zone} (h:Ez z=0):∀r∈z.recs,(findR z.recs r.name r.typ).length≤64:=by
 unfold Ez at h;split at h
 ·cases h
 ·split at h
  ·cases h
  ·split at h
   ·cases h
   ·rename_i h3;simpa using h3
theorem Cs3 {z:Zone} (h:Ez z=0) (hw:z.wf) (hl:z.recs.length≤69) {r:Rec} (hr:r.wf) (hv:Iz r=true)
  (hc:(findR z.recs r.name r.typ).length≤63)
  (hb:(findR (sortR (z.recs++[r])) z.origin 6).length≠1∨∃w∈sortR (z.recs++[r]),H4 ⟨z.origin,sortR (z.recs++[r])⟩ w=false):
  Ez ⟨z.origin,sortR (z.recs++[r])⟩=13:=by
 have ho:=Gl h;have hcnt:=Az3 h;have hwl:∀x∈z.recs++[r],x.wf:=fun x hx=>by
  rcases Bc.1 hx with hx|hx
  ·exact hw.recs.2 x hx
  ·rw [Bp.1 hx];exact hr
 have hlen:=Nz (z.recs++[r]) hwl (by simp;omega);rw [Ab,fq] at hlen;have hm:∀x∈sortR (z.recs++[r]),x∈z.recs++[r]:=fun x hx=>(((Fx _).2 x).1 hx).mem;have c3:∀x∈sortR (z.recs++[r]),(findR (sortR (z.recs++[r])) x.name x.typ).length≤64:=fun x hx=>by
  rw [jg];have h1:=Nz (findR (z.recs++[r]) x.name x.typ) (fun y hy=>hwl y (Bh.1 hy).1) (by have:=C2 (isK x.name x.typ) (z.recs++[r]);unfold findR;rw [Ab,fq] at this;omega);have h2:findR (z.recs++[r]) x.name x.typ=findR z.recs x.name x.typ++findR [r] x.name x.typ:=Dq ..;rw [h2,Ab] at h1;rw [h2];have h3:(findR [r] x.name x.typ).length≤1:=C2 _ _;by_cases e:isK x.name x.typ r=true
  ·unfold isK at e;simp only [Av,decide_eq_true_eq] at e;rw [e.1,e.2] at hc;omega
  ·have h4:findR [r] x.name x.typ=[]:=by unfold findR;rw [List.filter_cons_of_neg e,Hp7]
   rcases Bc.1 (hm x hx) with hx|hx
   ·have:=hcnt x hx;rw [h4,Bf] at h1;rw [h4,Dd] at*;omega
   ·rw [Bp.1 hx] at e;exact absurd (by simp [isK]) e
 have g1:¬vld z.origin=false:=by rw [ho.origin];simp
 have g4:∀x∈sortR (z.recs++[r]),Iz x=true:=fun x hx=>by
  rcases Bc.1 (hm x hx) with hx|hx
  ·exact ho.valid x hx
  ·rw [Bp.1 hx];exact hv
 have g5:sortR (sortR (z.recs++[r]))=sortR (z.recs++[r]):=zk (Fx _).1 fun _=>Iff.rfl;generalize sortR (z.recs++[r])=s at*;unfold Ez;rw [if_neg g1,if_neg (by simp only;omega),if_neg (by rw [Ex,Bw];intro x hx;exact decide_eq_true (c3 x hx)),if_neg (by rw [Ex,Bw];exact g4),if_neg (by rw [g5];simp)];by_cases g6:(findR s z.origin 6).length≠1∨T3 s z.origin 2=false
 ·rw [if_pos g6]
 ·rw [if_neg g6];rcases hb with hb|⟨w,hws,hwk⟩
  ·exact absurd (.inl hb) g6
  ·rw [if_pos];rw [List.all_eq_false];exact ⟨w,hws,by simp [hwk]⟩
theorem Rs {z:Zone} {r:Rec} (h:under r.name z.origin=false):H4 z r=false:=by unfold H4;rw [h];simp
theorem Pm {z:Zone} {r x:Rec} (hx:x∈z.recs) (h:Iy r x=false):H4 z r=false:=by
 have:Px z r=false:=by unfold Px;rw [List.all_eq_false];exact ⟨x,hx,by simp [h]⟩
 unfold H4;rw [this];simp
theorem K3 {z:Zone} {r:Rec} (h:K4 z r=false):H4 z r=false:=by unfold H4;rw [h];simp
theorem Lx {z:Zone} (ho:ZOk z) {n:List UInt8} {t:Int} (h:∀w:Rec,w.name=n→w.typ=t→H4 z w=false):(findR z.recs n t).length≤63:=by
 cases e:findR z.recs n t with
 |nil=>simp
 |cons w l=>
  have:w∈findR z.recs n t:=by rw [e];exact .head _
  obtain ⟨h1,h2,h3⟩:=F6.1 this;exact absurd (ho.recs w h1) (by simp [h w h2 h3])
theorem dp {z:Zone} (h:Ez z=0) (hw:z.wf) (hl:z.recs.length≤69) {r:Rec} (hr:r.wf) (hv:Iz r=true)
  (hc:(findR z.recs r.name r.typ).length≤63)
  (hb:∀w:Rec,w.name=r.name→w.typ=r.typ→H4 ⟨z.origin,sortR (z.recs++[r])⟩ w=false):
  Ez ⟨z.origin,sortR (z.recs++[r])⟩=13:=by
 obtain ⟨w,h1,h2,_⟩:=Hy (z.recs++[r]) (y:=r) (by simp);obtain ⟨h3,h4⟩:=Lw h2;exact Cs3 h hw hl hr hv hc (.inr ⟨w,h1,hb w h3 h4⟩)
theorem Jj2 {z:Zone} (h:Ez z=0) (hw:z.wf) (hl:z.recs.length≤69) {r:Rec} (hr:r.wf) (hv:Iz r=true) (hu:under r.name z.origin=false):
  Ez ⟨z.origin,sortR (z.recs++[r])⟩=13:=
 dp h hw hl hr hv (Lx (Gl h) fun w e _=>Rs (by rw [e];exact hu)) fun w e _=>Rs (by rw [e];exact hu)
theorem Ef1 {z:Zone} {w:Rec} (hn:w.name=z.origin) (ht:w.typ=43):H4 z w=false:=by
 refine K3 ?_;unfold K4;rw [hn,ht];have:D4 z.origin z.origin=false:=by simp [D4]
 rw [this];simp
theorem Jj0 {z:Zone} (h:Ez z=0) (hw:z.wf) (hl:z.recs.length≤69) {r:Rec} (hr:r.wf) (hv:Iz r=true) (hn:r.name=z.origin) (ht:r.typ=43):
  Ez ⟨z.origin,sortR (z.recs++[r])⟩=13:=
 dp h hw hl hr hv (Lx (Gl h) fun w e f=>Ef1 (e.trans hn) (f.trans ht)) fun w e f=>Ef1 (e.trans hn) (f.trans ht)
theorem Ef3 {z:Zone} {w x:Rec} (hn:w.name=z.origin) (ht:w.typ=5) (hx:x∈z.recs) (xn:x.name=z.origin) (xt:x.typ=6):H4 z w=false:=by refine Pm hx ?_;unfold Iy;rw [hn,ht,xn,xt];simp
theorem It9 {z:Zone} (h:Ez z=0) (hw:z.wf) (hl:z.recs.length≤69) {r:Rec} (hr:r.wf) (hv:Iz r=true) (hn:r.name=z.origin) (ht:r.typ=5):
  Ez ⟨z.origin,sortR (z.recs++[r])⟩=13:=by
 obtain ⟨x,hx,xn,xt⟩:=(Gl h).soaR;obtain ⟨y,hy,ek,_⟩:=Hy (z.recs++[r]) (y:=x) (B3 _ hx);obtain ⟨yn,yt⟩:=Lw ek;exact dp h hw hl hr hv (Lx (Gl h) fun w e f=>Ef3 (e.trans hn) (f.trans ht) hx xn xt) fun w e f=>Ef3 (z:=⟨z.origin,_⟩) (e.trans hn) (f.trans ht) hy (yn.trans xn) (yt.trans xt)
theorem Ag6 {z:Zone} {w x:Rec} {c:List UInt8} (hn:w.name=c) (ht:w.typ=16) (hb:D4 c z.origin=true) (hx:x∈z.recs) (xn:x.name=c) (xt:x.typ=2):H4 z w=false:=by
 refine K3 ?_;have:T3 z.recs c 2=true:=by unfold T3;have:x∈findR z.recs c 2:=F6.2 ⟨hx,xn,xt⟩;exact decide_eq_true (List.length_pos_of_mem this)
 unfold K4;rw [hn,ht,hb,this];simp [Rt]
theorem It8 {z:Zone} (h:Ez z=0) (hw:z.wf) (hl:z.recs.length≤69) {r:Rec} (hr:r.wf) (hv:Iz r=true) (hn:r.name∈cutsN z) (ht:r.typ=16):
  Ez ⟨z.origin,sortR (z.recs++[r])⟩=13:=by
 obtain ⟨x,hx,xc,xn⟩:=(Oj z _).1 hn;unfold Dp at xc;simp only [Av,decide_eq_true_eq] at xc;obtain ⟨xt,xb⟩:=xc;rw [xn] at xb;obtain ⟨y,hy,ek,_⟩:=Hy (z.recs++[r]) (y:=x) (B3 _ hx);obtain ⟨yn,yt⟩:=Lw ek;exact dp h hw hl hr hv (Lx (Gl h) fun w e f=>Ag6 e (f.trans ht) xb hx xn xt) fun w e f=>Ag6 (z:=⟨z.origin,_⟩) e (f.trans ht) xb hy (yn.trans xn) (yt.trans xt)
theorem qb {z:Zone} {w:Rec} (hn:(lbl w.name)[0]? =some [42]) (ht:w.typ=2):H4 z w=false:=by refine K3 ?_;unfold K4;rw [if_pos ⟨hn, .inl ht⟩]
theorem Dg4 {n:List UInt8} (h:Ny n=true):vld (starS n)=true∧(lbl (starS n))[0]? =some [42]:=by unfold Ny at h;simp only [Av] at h;refine ⟨h.2,(O2 h.2).1 ?_⟩;unfold starS;split<;>rfl
theorem It6 {z:Zone} (h:Ez z=0) (hw:z.wf) (hl:z.recs.length≤69) {r:Rec} (hr:r.wf) (hv:Iz r=true) (hn:(lbl r.name)[0]? =some [42]) (ht:r.typ=2):
  Ez ⟨z.origin,sortR (z.recs++[r])⟩=13:=
 dp h hw hl hr hv (Lx (Gl h) fun w e f=>qb (by rw [e];exact hn) (f.trans ht)) fun w e f=>qb (by rw [e];exact hn) (f.trans ht)
theorem Jj1 {z:Zone} (h:Ez z=0) (hw:z.wf) (hl:z.recs.length≤69) {s r:Rec} (hf:findR z.recs z.origin 6=[s]) (hr:r.wf) (hv:Iz r=true) (hn:r.name=z.origin) (ht:r.typ=6) (hd:r.data≠s.data):
  Ez ⟨z.origin,sortR (z.recs++[r])⟩=13:=by
 have hs:s∈findR z.recs z.origin 6:=by rw [hf];exact .head _
 obtain ⟨s1,s2,s3⟩:=F6.1 hs;have ho:=Gl h;have hwl:∀x∈z.recs++[r],x.wf:=fun x hx=>by
  rcases Bc.1 hx with hx|hx
  ·exact hw.recs.2 x hx
  ·rw [Bp.1 hx];exact hr
 refine Cs3 h hw hl hr hv (by rw [hn,ht,hf];simp) (.inl fun e=> ?_);obtain ⟨a,a1,a2,a3,_⟩:=Hy (z.recs++[r]) (y:=s) (B3 _ s1);obtain ⟨b,b1,b2,b3,_⟩:=Hy (z.recs++[r]) (y:=r) (by simp);have da:=Qs (hw.recs.2 s s1) (hwl a a3) (ho.valid s s1) a2.symm;have db:=Qs hr (hwl b b3) hv b2.symm;obtain ⟨a4,a5⟩:=Lw a2;obtain ⟨b4,b5⟩:=Lw b2;have ma:=F6.2 ⟨a1,a4.trans s2,a5.trans s3⟩;have mb:=F6.2 ⟨b1,b4.trans hn,b5.trans ht⟩
 match findR (sortR (z.recs++[r])) z.origin 6,e,ma,mb with
 |[x],_,ma,mb=>
  rw [Bp] at ma mb;rw [ma] at da;rw [mb] at db;exact hd (db.trans da.symm)
theorem It7 {z:Zone} (h:Ez z=0) (hw:z.wf) (hl:z.recs.length≤69) {f r:Rec} {n:List UInt8} (hf:f∈findR z.recs n 2) (hc:(findR z.recs n 2).length≤63) (hr:r.wf) (hv:Iz r=true) (hn:r.name=n) (ht:r.typ=2) (hd:r.ttl≠f.ttl)
  (hh:∀x∈findR z.recs n 2,x.data.host≠r.data.host):Ez ⟨z.origin,sortR (z.recs++[r])⟩=13:=by
 obtain ⟨f1,f2,f3⟩:=F6.1 hf;have ho:=Gl h;have hwl:∀x∈z.recs++[r],x.wf:=fun x hx=>by
  rcases Bc.1 hx with hx|hx
  ·exact hw.recs.2 x hx
  ·rw [Bp.1 hx];exact hr
 obtain ⟨a,a1,a2,a3,_⟩:=Hy (z.recs++[r]) (y:=f) (B3 _ f1);obtain ⟨b,b1,b2,b3,_⟩:=Hy (z.recs++[r]) (y:=r) (by simp);have da:=Qs (hw.recs.2 f f1) (hwl a a3) (ho.valid f f1) a2.symm;have db:=Qs hr (hwl b b3) hv b2.symm;obtain ⟨a4,a5⟩:=Lw a2;obtain ⟨b4,b5⟩:=Lw b2;have eb:b=r:=by
  rcases Bc.1 b3 with q|q
  ·exact absurd (by rw [db]) (hh b (F6.2 ⟨q,b4.trans hn,b5.trans ht⟩))
  ·exact Bp.1 q
 have ea:a.ttl=f.ttl:=by
  rcases Bc.1 a3 with q|q
  ·have:=ho.recs f f1;unfold H4 at this;simp only [Av] at this;have:=Bw.1 this.1.2 a q;unfold Iy at this;rw [a4,a5,f3] at this;simp at this;exact this
  ·rw [Bp.1 q] at da;exact absurd (by rw [da]) (hh f hf)
 refine Cs3 h hw hl hr hv (by rw [hn,ht];exact hc) (.inr ⟨b,b1,Pm a1 ?_⟩);unfold Iy;rw [a4,a5,b4,b5,f2,f3,hn,ht,ea,eb];simp [Ne.symm hd]
end Go.X.G
/- Names with another end; redirections; what records of a name say. -/
namespace Go.X
structure Res where
 kind:Int
 owner:List UInt8
 wild:Bool
 target:List UInt8
 recs:List Rec
 deriving DecidableEq
def Res.cells (x:Res):List PV:=[.i .i64 x.kind, .s x.owner, .b x.wild, .s x.target,Al x.recs]
def Res.pv (x:Res):PV:= .a x.cells
end Go.X
namespace Go.X.G
open Go Go.X
end Go.X.G
/- What a zone says about a question: the program and the reference. -/
namespace Go.X.G
open Go Go.X
theorem V5 (z:Zone) (n:List UInt8) (t:Int) (hl:z.recs.length≤1000000):S R7 3 [z.pv, .s n, .i .i64 t]=some [Al (findR z.recs n t)]:=by refine Gr8 (N:=1) rfl ?_;have k1:=yb z.recs n t hl;simp (disch:=omega) only [Gh0,k1,EVM,EVC,xe,EVP,EV,simprocAttr]
end Go.X.G
/- The law ZoneBreaks. -/
namespace Go.X.G
open Go Go.X
theorem Dq9 (l:List Rec) (hl:l.length≤90) (p0 p1 p2 p3 p4:PV):
  Ec8.ev S 100 [p0,p1,p2,p3,p4,Al l]=some (if (l.any fun x=>decide (x.data.host=[97,110,111,116,104,101,114,46,115,101,114,118,101,114,46]))=true then .ret [.b true] else .yld 6 []):=by
 have ka:=Vl;refine E2 l (fun i=>[.i .i64 (i:Int)]) (fun _ l=>if (l.any fun x=>decide (x.data.host=[97,110,111,116,104,101,114,46,115,101,114,118,101,114,46]))=true then .ret [.b true] else .yld 6 []) rfl (by omega) (fun i c r hd hi hc=> ?_) ?_
 ·by_cases h:c.data.host=[97,110,111,116,104,101,114,46,115,101,114,118,101,114,46]
  ·right;simp (disch:=omega) only [Jf,hc,h,ka,EVC,xe,EVP,EV,simprocAttr];simp [h,Out.goes]
  ·left;simp (disch:=omega) only [Jf,hc,h,ka,EVC,xe,EVP,EV,simprocAttr];simp [h]
 ·simp (disch:=omega) only [Jf,EVC,xe,EVP,EV,simprocAttr];simp [Out.goes]
theorem Gj3 (n h:List UInt8):S Bx2 2 [.s n, .s h]=some [.a [.s n, .i .i64 2, .i .i64 60, .b false, .i .u64 0, .i .u64 0, .s h, .s [], .s [], .i .i64 0, .i .i64 0, .i .i64 0, .i .i64 0, .i .i64 0, .i .i64 0, .i .u64 0]]:=by refine Iz4 (N:=1) rfl ?_;simp (disch:=omega) only [Ij2,EVC,xe,EVP,EV,simprocAttr]
theorem law_ZoneBreaks (z:Zone) (k:Int) (hz:z.wf) (hk:u8r k):S By7 2 [z.pv, .i .u8 k]=some [.b true]:=by
 refine Ic1 (N:=100) rfl ?_;have k0:=Ev4 z hz;have hw:=Al3 hz;have hl:=zw z;generalize smallZ z=x at*;have k3:=Tz x hw (by omega);have ka:=Vl;by_cases h:Ez x=0
 ·rw [h] at k3;by_cases h69:x.recs.length≤69
  ·by_cases hdot:x.origin=[46]
   ·have h69':¬((x.recs.length:Int)>69):=by omega
    simp (disch:=omega) only [Jf,k0,k3,ka,hdot,h69',Dc,En,EVC,xe,EVP,EV,simprocAttr]
   ·have ho:=Gl h;have k4:=V5 x x.origin 6 (by omega);have k5:=V5 x x.origin 2 (by omega);have hs1:=ho.soa;have hn1:=ho.ns;obtain ⟨s,es⟩:=List.length_eq_one_iff.1 hs1;obtain ⟨f,fs,ef⟩:∃f fs,findR x.recs x.origin 2=f::fs:=by
     unfold T3 at hn1;cases e:findR x.recs x.origin 2 with
     |nil=>rw [e] at hn1;simp at hn1
     |cons f fs=>exact ⟨f,fs,rfl⟩
    have ms:s∈findR x.recs x.origin 6:=by rw [es];exact .head _
    have mf:f∈findR x.recs x.origin 2:=by rw [ef];exact .head _
    obtain ⟨s1,s2,s3⟩:=F6.1 ms;obtain ⟨f1,f2,f3⟩:=F6.1 mf;have ws:=hw.recs.2 s s1;have wf:=hw.recs.2 f f1;have vs:=ho.valid s s1;have vf:=ho.valid f f1;have hfl:(findR x.recs x.origin 2).length≤x.recs.length:=C2 _ _;have l5:=Dq9 (findR x.recs x.origin 2) (by omega);rw [es] at k4;rw [ef] at k5 l5;have kc:=V6 x hw (by omega);have vo:=ho.origin;have lo:=Kp vo;have kst:=Ev1 x.origin (by omega);have hor:Mm x.origin:=hw.origin;have ap:H8 16 (Al []) (Al x.recs)=some (Al x.recs):=by have:=Q2 [] x.recs (by simp;omega);simpa using this
    have new:∀r:Rec,r.wf→Ez ⟨x.origin,sortR (x.recs++[r])⟩=13→S bc 2 [.s x.origin,Al (x.recs++[r])]=some [Zone.pv ⟨[],[]⟩, .i .i64 13]:=fun r hr hc=>by
     have:=ml x.origin (x.recs++[r]) hor (by simp;omega) (fun y hy=>by
      rcases Bc.1 hy with hy|hy
      ·exact hw.recs.2 y hy
      ·rw [Bp.1 hy];exact hr)
     unfold newZ at this;rw [hc] at this;exact this
    have hm:k % 7=0∨k % 7=1∨k % 7=2∨k % 7=3∨k % 7=4∨k % 7=5∨k % 7=6:=by omega
    have h69':¬((x.recs.length:Int)>69):=by omega
    obtain ⟨k1,k2⟩:=hk;rcases hm with hm|hm|hm|hm|hm|hm|hm
    ·have ku:=Gm [111,117,116,115,105,100,101,46,105,110,118,97,108,105,100,46] x.origin (by decide) (by omega);have ke:=Ed5 [111,117,116,115,105,100,101,46,105,110,118,97,108,105,100,46] 9;rcases Aq (under [111,117,116,115,105,100,101,46,105,110,118,97,108,105,100,46] x.origin) with hu|hu
     ·simp (disch:=omega) only [Jf,k0,k3,k4,k5,ka,hm,hdot,h69',ap,Dc,En,ku,ke,hu,zero,EVC,xe,EVP,EV,simprocAttr]
     ·have wr:(⟨[111,117,116,115,105,100,101,46,105,110,118,97,108,105,100,46],1,60,⟨false,0,9,[],[],[],0,0,0,0,0,0,0⟩⟩:Rec).wf:=by constructor<;>(try constructor)<;>simp [Ag5,Tb,Mm]
      have kn:=new _ wr (Jj2 h hw h69 wr (by kernel_rfl) hu);simp (disch:=omega) only [Jf,k0,k3,k4,k5,ka,hm,hdot,h69',ap,Dc,En,ku,ke,hu,kn,zero,EVC,xe,EVP,EV,simprocAttr]
    ·have ba:0≤s.data.a∧s.data.a≤4294967295:=by have:=Jh vs;unfold Ev at this;simp only [Av] at this;have h7:=this.2;rw [s3] at h7;simp only [Dw] at h7;simp [inB] at h7;exact h7.1.1.1.1.2
     have wr:(⟨s.name,s.typ,s.ttl,⟨s.data.v6,s.data.hi,s.data.lo,s.data.host,s.data.mail,s.data.text,((s.data.a+1) % 4294967296),s.data.b,s.data.c,s.data.d,s.data.e,s.data.f,s.data.bits⟩⟩:Rec).wf:=⟨ws.name,ws.typ,ws.ttl,⟨ws.data.hi,ws.data.lo,ws.data.host,ws.data.mail,ws.data.text,by unfold Tb;simp only;omega,ws.data.b,ws.data.c,ws.data.d,ws.data.e,ws.data.f,ws.data.bits⟩⟩;have vr:=zx (s:=(s.data.a+1) % 4294967296) (by unfold inB;simp;omega) vs;unfold Iv7 at vr;rw [if_pos s3] at vr;have kn:=new _ wr (Jj1 h hw h69 es wr vr s2 s3 (fun e=>by have:=congrArg Dat.a e;simp only at this;omega))
     have w1:IntKind.i64.wrap (s.data.a+1)=s.data.a+1:=w64 (by omega) (by omega);have w2:IntKind.i64.wrap ((s.data.a+1) % 4294967296)=(s.data.a+1) % 4294967296:=w64 (by omega) (by omega);simp (disch:=omega) only [Jf,k0,k3,k4,k5,ka,hm,hdot,h69',ap,Dc,En,kn,w1,w2,EVC,xe,EVP,EV,simprocAttr]
    ·have wr:(⟨x.origin,43,60,⟨false,0,0,[],[],[120],0,0,0,0,0,0,0⟩⟩:Rec).wf:=by constructor<;>(try constructor)<;>simp [Ag5,Tb,Mm]<;>omega
     have kn:=new _ wr (Jj0 h hw h69 wr (by unfold Iz;simp only [vo];kernel_rfl) rfl rfl);simp (disch:=omega) only [Jf,k0,k3,k4,k5,ka,hm,hdot,h69',ap,Dc,En,kn,EVC,xe,EVP,EV,simprocAttr]
    ·have wr:(⟨x.origin,5,60,⟨false,0,0,[97,46],[],[],0,0,0,0,0,0,0⟩⟩:Rec).wf:=by constructor<;>(try constructor)<;>simp [Ag5,Tb,Mm]<;>omega
     have kn:=new _ wr (It9 h hw h69 wr (by unfold Iz;simp only [vo];kernel_rfl) rfl rfl);simp (disch:=omega) only [Jf,k0,k3,k4,k5,ka,hm,hdot,h69',ap,Dc,En,kn,EVC,xe,EVP,EV,simprocAttr]
    ·cases e:cutsN x with
     |nil=>
      rw [e] at kc;simp (disch:=omega) only [Jf,k0,k3,k4,k5,ka,hm,hdot,h69',ap,Dc,En,kc,EVC,xe,EVP,EV,simprocAttr]
     |cons c q=>
      rw [e] at kc;have hc:c∈cutsN x:=by rw [e];exact .head _
      obtain ⟨y,y1,y2,y3⟩:=(Oj x c).1 hc;have vc:vld c=true:=by unfold Dp D4 at y2;simp only [Av] at y2;rw [←y3];exact (C1.1 y2.2.2).1
      have lc:=Kp vc;have wr:(⟨c,16,60,⟨false,0,0,[],[],[116],0,0,0,0,0,0,0⟩⟩:Rec).wf:=by constructor<;>(try constructor)<;>simp [Ag5,Tb,Mm]<;>omega
      have kn:=new _ wr (It8 h hw h69 wr (by unfold Iz;simp only [vc];kernel_rfl) hc rfl);simp (disch:=first|omega|(simp only [A0];omega)) only [Jf,k0,k3,k4,k5,ka,hm,hdot,h69',ap,Dc,En,kc,kn,A0,EVC,xe,EVP,EV,simprocAttr]
    ·have bt:0≤f.ttl∧f.ttl≤2147483647:=by have:=vf;unfold Iz at this;simp only [Av,decide_eq_true_eq] at this;exact ⟨this.1.1.2,this.1.2⟩
     have w1:IntKind.i64.wrap (f.ttl+1)=f.ttl+1:=w64 (by omega) (by omega);have w2:IntKind.i64.wrap ((f.ttl+1) % 1000)=(f.ttl+1) % 1000:=w64 (by omega) (by omega);have hfl2:(f::fs).length≤x.recs.length:=by rw [←ef];exact hfl
     by_cases e1:(f.ttl+1) % 1000=f.ttl
     ·simp (disch:=first|omega|(simp only [A0] at hfl2 ⊢;omega)) only [Jf,k0,k3,k4,k5,ka,hm,hdot,h69',ap,Dc,En,w1,w2,e1,EVC,xe,EVP,EV,simprocAttr]
     ·by_cases e2:64≤(fs.length:Int)+1
      ·simp (disch:=first|omega|(simp only [A0] at hfl2 ⊢;omega)) only [Jf,k0,k3,k4,k5,ka,hm,hdot,h69',ap,Dc,En,w1,w2,e1,e2,EVC,xe,EVP,EV,simprocAttr]
      ·rcases Aq ((f::fs).any fun y=>decide (y.data.host=[97,110,111,116,104,101,114,46,115,101,114,118,101,114,46])) with e3|e3
       ·simp only [e3,if_true] at l5;simp (disch:=first|omega|(simp only [A0] at hfl2 ⊢;omega)) only [Jf,k0,k3,k4,k5,ka,hm,hdot,h69',ap,Dc,En,w1,w2,e1,e2,l5,EVC,xe,EVP,EV,simprocAttr]
       ·have l5':=fun p0 p1 p2 p3 p4=>(l5 p0 p1 p2 p3 p4).trans (congrArg some (if_neg (by rw [e3];simp)));have wr:(⟨f.name,f.typ,((f.ttl+1) % 1000),⟨f.data.v6,f.data.hi,f.data.lo,[97,110,111,116,104,101,114,46,115,101,114,118,101,114,46],f.data.mail,f.data.text,f.data.a,f.data.b,f.data.c,f.data.d,f.data.e,f.data.f,f.data.bits⟩⟩:Rec).wf:=⟨wf.name,wf.typ,by unfold Tb;simp only;omega,⟨wf.data.hi,wf.data.lo,by unfold Mm;simp,wf.data.mail,wf.data.text,wf.data.a,wf.data.b,wf.data.c,wf.data.d,wf.data.e,wf.data.f,wf.data.bits⟩⟩;have vr:Iz (⟨f.name,f.typ,((f.ttl+1) % 1000),⟨f.data.v6,f.data.hi,f.data.lo,[97,110,111,116,104,101,114,46,115,101,114,118,101,114,46],f.data.mail,f.data.text,f.data.a,f.data.b,f.data.c,f.data.d,f.data.e,f.data.f,f.data.bits⟩⟩:Rec)=true:=by unfold Iz Ev at vf ⊢;simp only [f3,Av,decide_eq_true_eq] at vf ⊢;obtain ⟨⟨⟨⟨v1,v2⟩,v3⟩,v4⟩,⟨v5,v6⟩,v7⟩:=vf;refine ⟨⟨⟨⟨v1,v2⟩,by omega⟩,by omega⟩,⟨v5,?_⟩,by kernel_rfl⟩;simp only [usd] at v6 ⊢;rw [←v6];simp
        have kn:=new _ wr (It7 h hw h69 mf (by rw [ef,A0];omega) wr vr f2 f3 e1 (fun y hy q=>by rw [ef] at hy;rw [List.any_eq_false] at e3;exact e3 y hy (decide_eq_true q)));simp (disch:=first|omega|(simp only [A0] at hfl2 ⊢;omega)) only [Jf,k0,k3,k4,k5,ka,hm,hdot,h69',ap,Dc,En,w1,w2,e1,e2,l5',kn,EVC,xe,EVP,EV,simprocAttr]
    ·have kns:=Gj3 (starS x.origin) [97,46];unfold y9 at kst;rcases Aq (Ny x.origin) with e1|e1
     ·rw [e1,if_pos rfl] at kst;obtain ⟨v1,v2⟩:=Dg4 e1;have k8:=V5 x (starS x.origin) 2 (by omega);have h8:(findR x.recs (starS x.origin) 2).length≤x.recs.length:=C2 _ _;generalize hg:findR x.recs (starS x.origin) 2=g at*;have lc:=Kp v1;have wr:(⟨(starS x.origin),2,60,⟨false,0,0,[97,46],[],[],0,0,0,0,0,0,0⟩⟩:Rec).wf:=by constructor<;>(try constructor)<;>simp [Ag5,Tb,Mm]<;>omega
      have kn:=new _ wr (It6 h hw h69 wr (by unfold Iz;simp only [v1];kernel_rfl) v2 rfl);generalize starS x.origin=sn at*;by_cases e2:(g.length:Int)≥64
      ·simp (disch:=omega) only [Jf,k0,k3,k4,k5,ka,hm,hdot,h69',ap,Dc,En,kst,k8,e2,EVC,xe,EVP,EV,simprocAttr]
      ·simp (disch:=omega) only [Jf,k0,k3,k4,k5,ka,hm,hdot,h69',ap,Dc,En,kst,k8,e2,kns,kn,EVC,xe,EVP,EV,simprocAttr]
     ·rw [e1,if_neg (by simp)] at kst;simp (disch:=omega) only [Jf,k0,k3,k4,k5,ka,hm,hdot,h69',ap,Dc,En,kst,EVC,xe,EVP,EV,simprocAttr]
  ·have h69':(x.recs.length:Int)>69:=by omega
   simp (disch:=omega) only [Jf,k0,k3,ka,h69',Dc,En,EVC,xe,EVP,EV,simprocAttr]
 ·simp (disch:=omega) only [Jf,k0,k3,h,ka,Dc,En,EVC,xe,EVP,EV,simprocAttr]
end Go.X.G
