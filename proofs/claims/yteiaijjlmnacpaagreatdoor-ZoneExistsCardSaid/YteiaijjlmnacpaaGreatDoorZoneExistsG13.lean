/- What exists in a zone, and what encloses a name; names with another end. -/
import Derived.Test.YteiaijjlmnacpaaGreatDoorZoneExistsG12
import Derived.Test.YteiaijjlmnacpaaGreatDoorZoneExistsG9
import Derived.Test.YteiaijjlmnacpaaGreatDoorZoneExistsG11
import Derived.Test.YteiaijjlmnacpaaGreatDoorZoneExistsG10
open Bool renaming eq_false_or_eq_true→Ak,and_eq_true→Av,or_eq_true→Am,not_eq_true'→A8,eq_iff_iff→Cr,true_and→Ft1
open Int renaming toNat_natCast→Ix
open List renaming getElem?_eq_some_iff→Aq,getElem?_eq_getElem→Ay,length_append→Az,mem_cons→Af,length_take→Al,length_cons→As,getElem?_append_right→A0,mem_of_getElem?→A5,take_append_drop→Bl,mem_append→Bp,length_drop→Br,mem_filter→Bs,any_eq_true→Bt,cons_append→B3,nil_append→Cy,take_add_one→Cz,drop_eq_getElem_cons→Cb,mem_append_left→Cc,take_length→C1,take_of_length_le→C2,getElem?_of_mem→C3,length_filter_le→Dm,mem_map→Dn,filter_cons_of_pos→D1,filter_eq_nil_iff→D9,mem_of_mem_take→Et,filter_append→E1,suffix_iff_eq_drop→F6,flatMap_cons→Gc,length_map→Gn,drop_of_length_le→Ug
open Nat renaming le_refl→Ac,zero_le→Ct,mul_le_mul→Gb,min_eq_left→My,mul_one→Av3
set_option maxHeartbeats 1000000
set_option linter.unusedVariables false
set_option linter.unusedSimpArgs false
namespace Go.X.G
open Go Go.X
def exB (z:Zone) (x:List UInt8):Bool:=z.recs.any fun r=>under r.name z.origin && !P0 z r.name && under r.name x && under x z.origin
theorem Nz (z:Zone) (x:List UInt8):exB z x=true↔Dr0 z x:=by
 unfold exB Dr0
 simp only [Bt,Av,A8,and_assoc]
theorem Wz (z:Zone) (x:List UInt8):decide (x∈namesN z)=exB z x:=by
 rw [Cr,Nz,←y0]
 simp
theorem Tc (z:Zone) (hl:z.recs.length≤1000):(namesN z).length≤1000000:=by
 have h1:=Vq (Ft0 z)
 have h2:∀l:List Rec,(l.flatMap fun r=>upN z.origin r.name).length≤256*l.length:=by
  intro l
  induction l with
  |nil=>simp
  |cons x r ih=>
   have:=dr z.origin x.name
   rw [Gc,Az,As];omega
 have h3:=h2 (z.recs.filter fun r=>under r.name z.origin && !P0 z r.name)
 have h4:=Dm (fun r=>under r.name z.origin && !P0 z r.name) z.recs
 show (setN (Ft0 z)).length≤1000000
 unfold Ft0 at h1 ⊢
 omega
theorem I2 (z:Zone) (n:List UInt8) (hz:z.wf) (hl:z.recs.length≤1000):S Q3 2 [z.pv, .s n]=some [.b (exB z n)]:=by
 refine Hn5 (N:=1) rfl ?_
 have k1:=P7 z hz hl
 have k2:=Px (namesN z) n (Tc z hl)
 rw [Wz] at k2
 generalize namesN z=nz at*
 simp (disch:=omega) only [Hc2,k1,k2,EVM,EVC,xe,EVP,EV,simprocAttr]
def By5 (z:Zone) (n:List UInt8):Option (List UInt8):=(upN z.origin n).find? (exB z)
def encN (z:Zone) (n:List UInt8):List UInt8:=if under n z.origin=true then (By5 z n).getD [] else []
theorem l8 {n:List UInt8} (h:vld n=true):n≠[]:=fun e=>by subst e;simp [vld,nm] at h
theorem Nb {z:Zone} {n e:List UInt8} (hu:under n z.origin=true) (h:By5 z n=some e):under n e=true∧exB z e=true:=by
 unfold By5 at h
 have h1:=List.mem_of_find?_eq_some h
 have h2:=List.find?_some h
 exact ⟨((Kj hu).1 h1).1,h2⟩
theorem J8 (z:Zone) (n:List UInt8) (hz:z.wf) (hl:z.recs.length≤1000) (hn:n.length≤9223372036854775807):S gk 2 [z.pv, .s n]=some [.s (encN z n), .b (decide (encN z n≠[]))]:=by
 refine Hn8 (N:=1000) rfl ?_
 have g1:=hz.origin
 unfold Mp at g1
 have k0:=E9 n z.origin hn g1
 unfold encN
 rcases Ak (under n z.origin) with hu|hu
 ·rw [if_pos hu]
  rw [hu] at k0
  have k1:=P7 z hz hl
  have hnl:=Tc z hl
  have k2:∀x,S f5 2 [Bc (namesN z), .s x]=some [.b (exB z x)]:=fun x=>by rw [←Wz];exact Px (namesN z) x hnl
  generalize namesN z=nz at*
  obtain ⟨v1,v2,_⟩:=B0.1 hu
  have hlb:=Mk n
  have h0:jn ((lbl n).drop 0)=n:=V8 v1
  let res:Option (List UInt8)→Out:=fun o=>match o with|some e=> .yld 0 [.s e]|none=> .ret [.s [], .b false]
  have key:Dp5.ev S 1000 [z.pv, .s n, .b true,Bc nz]=some (res (By5 z n)):=by
   have:=Gv (fn:=S) (N:=1000) (η:=[z.pv, .s n, .b true,Bc nz]) (id:=1) (init:=[(.v 1)]) (body:=Cc5) ((lbl n).length - (lbl z.origin).length)
    (fun k=>[.s (jn ((lbl n).drop k))]) (fun k=>res (((upN z.origin n).drop k).find? (exB z))) ?_ (by omega) (fun k hk=> ?_) ?_
   ·exact this
   ·rw [h0]
    simp (disch:=omega) only [EVM,EVC,xe,EVP,EV,simprocAttr]
   ·have hup:(upN z.origin n)[k]? =some (jn ((lbl n).drop k)):=N2 (Nat.le_of_lt hk)
    have hd:(upN z.origin n).drop k=jn ((lbl n).drop k)::(upN z.origin n).drop (k+1):=by
     obtain ⟨h1,h2⟩:=Aq.1 hup
     rw [Cb h1,h2]
    obtain ⟨q1,q2⟩:=Ax9 hu hk
    have q3:¬jn ((lbl n).drop k)=z.origin:=fun h=>by have:=(X4 hu (Nat.le_of_lt hk)).1 h;omega
    have q4:=Dp9 v1 k
    have k1:=Of (jn ((lbl n).drop k)) (by omega)
    rw [q1,q2] at k1
    have k3:=k2 (jn ((lbl n).drop k))
    rw [hd]
    generalize jn ((lbl n).drop (k+1))=nx at*
    generalize jn ((lbl n).drop k)=cu at*
    rcases Ak (exB z cu) with h5|h5
    ·right
     rw [h5] at k3
     rw [List.find?_cons_of_pos h5]
     refine ⟨?_,rfl⟩
     simp (disch:=omega) only [dm,k3,EVM,EVC,xe,EVP,EV,simprocAttr]
     rfl
    ·left
     rw [h5] at k3
     rw [List.find?_cons_of_neg (by simp [h5])]
     refine ⟨?_,rfl⟩
     simp (disch:=omega) only [dm,k1,k3,q3,EVM,EVC,xe,EVP,EV,simprocAttr]
   ·have hup:(upN z.origin n)[(lbl n).length - (lbl z.origin).length]? =some (jn ((lbl n).drop ((lbl n).length - (lbl z.origin).length))):=N2 (Ac _)
    have hd:(upN z.origin n).drop ((lbl n).length - (lbl z.origin).length)=[jn ((lbl n).drop ((lbl n).length - (lbl z.origin).length))]:=by
     obtain ⟨h1,h2⟩:=Aq.1 hup
     have h9:(upN z.origin n).drop ((lbl n).length - (lbl z.origin).length+1)=[]:=Ug (by simp [upN])
     rw [Cb h1,h2,h9]
    have q3:=(X4 hu (Ac _)).2 rfl
    rw [hd,q3]
    have k3:=k2 z.origin
    rcases Ak (exB z z.origin) with h5|h5
    ·rw [h5] at k3
     rw [List.find?_cons_of_pos h5]
     refine ⟨?_,rfl⟩
     simp (disch:=omega) only [dm,k3,EVM,EVC,xe,EVP,EV,simprocAttr]
     rfl
    ·rw [h5] at k3
     rw [List.find?_cons_of_neg (by simp [h5]),List.find?_nil]
     refine ⟨?_,rfl⟩
     simp (disch:=omega) only [dm,k3,EVM,EVC,xe,EVP,EV,simprocAttr]
     rfl
  cases he:By5 z n with
  |none=>
   rw [he] at key
   simp only [res] at key
   simp (disch:=omega) only [dm,k0,k1,key,EVM,EVC,xe,EVP,EV,simprocAttr]
   simp
  |some e=>
   rw [he] at key
   simp only [res] at key
   have h6:=l8 (B0.1 (Nb hu he).1).2.1
   simp (disch:=omega) only [dm,k0,k1,key,EVM,EVC,xe,EVP,EV,simprocAttr]
   simp [h6]
 ·rw [if_neg (by simp [hu])]
  rw [hu] at k0
  simp (disch:=omega) only [dm,k0,EVM,EVC,xe,EVP,EV,simprocAttr]
  try simp
def bestF (n:List UInt8):List UInt8→List (List UInt8)→List UInt8
 |b,[]=>b
 |b,x::r=>bestF n (if under n x && (decide (b=[])||decide ((lbl b).length<(lbl x).length)) then x else b) r
theorem P6 (n:List UInt8):∀(l:List (List UInt8)) (b:List UInt8),(b=[]∨under n b=true)→
  (bestF n b l=[]→b=[]∧∀x∈l,under n x=false)∧
  (bestF n b l≠[]→under n (bestF n b l)=true∧(bestF n b l=b∨bestF n b l∈l)∧(b≠[]→(lbl b).length≤(lbl (bestF n b l)).length)∧∀x∈l,under n x=true→(lbl x).length≤(lbl (bestF n b l)).length)
 |[],b,hb=>by
  simp only [bestF]
  refine ⟨fun h=>⟨h,fun r hr=>by simp at hr⟩,fun h=>⟨hb.resolve_left h, .inl trivial,fun _=>Ac _,fun r hr=>by simp at hr⟩⟩
 |x::rs,b,hb=>by
  simp only [bestF]
  have hne:under n x=true→x≠[]:=fun h=>l8 (B0.1 h).2.1
  by_cases hc:(under n x && (decide (b=[])||decide ((lbl b).length<(lbl x).length)))=true
  ·rw [if_pos hc]
   simp only [Av,Am,decide_eq_true_eq] at hc
   obtain ⟨c2,c3⟩:=hc
   obtain ⟨h1,h2⟩:=P6 n rs x (.inr c2)
   refine ⟨fun h=>absurd (h1 h).1 (hne c2),fun h=> ?_⟩
   obtain ⟨g1,g2,g3,g4⟩:=h2 h
   refine ⟨g1, .inr ?_,fun hb0=> ?_,fun y hy hy2=> ?_⟩
   ·rcases g2 with g2|g2
    ·rw [g2];exact .head _
    ·exact .tail _ g2
   ·have:=g3 (hne c2)
    rcases c3 with c3|c3
    ·exact absurd c3 hb0
    ·omega
   ·rcases Af.1 hy with rfl|hy
    ·exact g3 (hne c2)
    ·exact g4 y hy hy2
  ·rw [if_neg hc]
   obtain ⟨h1,h2⟩:=P6 n rs b hb
   have hr:under n x=true→b≠[]∧(lbl x).length≤(lbl b).length:=by
    intro c2
    simp only [c2,Ft1,Am,decide_eq_true_eq,not_or,Nat.not_lt] at hc
    exact hc
   refine ⟨fun h=> ?_,fun h=> ?_⟩
   ·obtain ⟨g1,g2⟩:=h1 h
    refine ⟨g1,fun y hy=> ?_⟩
    rcases Af.1 hy with rfl|hy
    ·rcases Ak (under n y) with h3|h3
     ·exact absurd g1 (hr h3).1
     ·exact h3
    ·exact g2 y hy
   ·obtain ⟨g1,g2,g3,g4⟩:=h2 h
    refine ⟨g1,?_,g3,fun y hy hy2=> ?_⟩
    ·rcases g2 with g2|g2
     ·exact .inl g2
     ·exact .inr (.tail _ g2)
    ·rcases Af.1 hy with rfl|hy
     ·obtain ⟨q1,q2⟩:=hr hy2
      have:=g3 q1
      omega
     ·exact g4 y hy hy2
theorem Ml {a b c:List UInt8} (h1:under a b=true) (h2:under b c=true):under a c=true:=by
 obtain ⟨v1,_,s1⟩:=B0.1 h1
 obtain ⟨_,v3,s2⟩:=B0.1 h2
 exact B0.2 ⟨v1,v3,s2.trans s1⟩
theorem Cb4 (z:Zone) (n:List UInt8):bestF n [] (namesN z)=encN z n:=by
 obtain ⟨h1,h2⟩:=P6 n (namesN z) [] (.inl rfl)
 have hin:∀x,x∈namesN z↔exB z x=true:=fun x=>by rw [←Wz];simp
 have hor:∀x,exB z x=true→under x z.origin=true:=fun x hx=>by
  obtain ⟨_,_,_,_,_,h⟩:=(Nz z x).1 hx
  exact h
 unfold encN
 by_cases hb:bestF n [] (namesN z)=[]
 ·have:=(h1 hb).2
  rw [hb]
  rcases Ak (under n z.origin) with hu|hu
  ·rw [if_pos hu]
   cases he:By5 z n with
   |none=>rfl
   |some e=>
    obtain ⟨g1,g2⟩:=Nb hu he
    have:=this e ((hin e).2 g2)
    rw [g1] at this;cases this
  ·rw [if_neg (by simp [hu])]
 ·obtain ⟨g1,g2,_,g4⟩:=h2 hb
  have g3:exB z (bestF n [] (namesN z))=true:=(hin _).1 (g2.resolve_left hb)
  have hu:under n z.origin=true:=Ml g1 (hor _ g3)
  rw [if_pos hu]
  generalize bestF n [] (namesN z)=b at*
  have hm:b∈upN z.origin n:=(Kj hu).2 ⟨g1,hor _ g3⟩
  cases he:By5 z n with
  |none=>
   unfold By5 at he
   rw [List.find?_eq_none] at he
   exact absurd g3 (he b hm)
  |some e=>
   obtain ⟨q1,q2⟩:=Nb hu he
   have q3:=g4 e ((hin e).2 q2) q1
   have q4:(lbl b).length≤(lbl e).length:=by
    unfold By5 at he
    obtain ⟨_,pa,pb,he2,he3⟩:=List.find?_eq_some_iff_append.1 he
    obtain ⟨v1,v2,vs⟩:=B0.1 hu
    have hbm:=hm
    rw [he2] at hbm
    rcases Bp.1 hbm with hbm|hbm
    ·have:=he3 b hbm
     rw [g3] at this;cases this
    ·rcases Af.1 hbm with rfl|hbm
     ·exact Ac _
     ·obtain ⟨j,hj⟩:=C3 hbm
      have e1:(upN z.origin n)[pa.length]? =some e:=by rw [he2,A0 (Ac _)];simp
      have e2:(upN z.origin n)[pa.length+1+j]? =some b:=by
       rw [he2,A0 (by omega),show pa.length+1+j - pa.length=j+1 by omega]
       simpa using hj
      have l2:=(Aq.1 e2).1
      rw [show (upN z.origin n).length=(lbl n).length - (lbl z.origin).length+1 by simp [upN]] at l2
      rw [N2 (by omega)] at e1 e2
      injection e1 with e1
      injection e2 with e2
      rw [←e1,←e2,(K5 v1 _).2,(K5 v1 _).2,Br,Br]
      omega
   obtain ⟨_,vb,sb⟩:=B0.1 g1
   obtain ⟨_,ve,se⟩:=B0.1 q1
   rw [F6] at sb se
   show b=e
   refine Mq vb ve ?_
   rw [sb,se,Nat.le_antisymm q4 q3]
end Go.X.G
/- The law LookupSoas. -/
namespace Go.X.G
open Go Go.X
theorem Jk (z:Zone) (n:List UInt8) (t:Int) (hl:z.recs.length≤1000000):S Zx 3 [z.pv, .s n, .i .i64 t]=some [Ag (findR z.recs n t)]:=by
 refine Hp0 (N:=1) rfl ?_
 simp (disch:=omega) only [Hc3,Df7,xe,EVP,EV,simprocAttr]
def soaR (z:Zone):List Rec:=match findR z.recs z.origin 6 with
 |[]=>[]
 |r::_=>[{r with ttl:=if r.data.e<r.ttl then r.data.e else r.ttl}]
def zero:Dat:=⟨false,0,0,[],[],[],0,0,0,0,0,0,0⟩
end Go.X.G
/- The laws of zones: what they call. -/
namespace Go.X.G
open Go Go.X
theorem Kr (o:List UInt8) (l:List Rec):PV.a [.s o,Ag l]=Zone.pv ⟨o,l⟩:=rfl
theorem Db5 (z:Zone):(⟨z.origin,z.recs⟩:Zone)=z:=rfl
def c3 (s:List UInt8):List UInt8:=s.take 300
def I7 (r:Rec):Rec:=⟨c3 r.name,r.typ,r.ttl,{r.data with host:=c3 r.data.host,mail:=c3 r.data.mail,text:=c3 r.data.text}⟩
def smallZ (z:Zone):Zone:=⟨c3 z.origin,(z.recs.take 70).map I7⟩
theorem rz (s:List UInt8):(c3 s).length≤300:=by unfold c3;rw [Al];omega
theorem Bz4 {r:Rec} (h:r.wf):(I7 r).wf:=by
 have hs:∀s:List UInt8,Mp (c3 s):=fun s=>by have:=rz s;unfold Mp;omega
 exact ⟨hs _,h.typ,h.ttl,⟨h.data.hi,h.data.lo,hs _,hs _,hs _,h.data.a,h.data.b,h.data.c,h.data.d,h.data.e,h.data.f,h.data.bits⟩⟩
theorem Az6 {z:Zone} (h:z.wf):(smallZ z).wf:=by
 refine ⟨by have:=rz z.origin;unfold smallZ Mp;simp only;omega,by simp [smallZ];omega,fun r hr=> ?_⟩
 simp only [smallZ,Dn] at hr
 obtain ⟨x,hx,rfl⟩:=hr
 exact Bz4 (h.recs.2 x (Et hx))
theorem wx (z:Zone):(smallZ z).recs.length≤70:=by simp [smallZ];omega
theorem Qb (s:List UInt8) (hs:s.length≤9223372036854775807):Yb (.s s) (.i .i64 0) (.i .i64 (if (300:Int)<(s.length:Int) then 300 else (s.length:Int)))=some (.s (c3 s)):=by
 unfold c3
 by_cases h:(300:Int)<(s.length:Int)
 ·rw [if_pos h]
  have h1:(0:Int)≤0∧(0:Int)≤300∧(300:Int)≤(s.length:Int):=by omega
  simp only [Yb,h1,and_self,if_true]
  rfl
 ·rw [if_neg h]
  have h1:(0:Int)≤0∧(0:Int)≤(s.length:Int)∧(s.length:Int)≤(s.length:Int):=by omega
  simp only [Yb,h1,and_self,if_true,Ix,C1]
  rw [C2 (by omega)]
  rfl
theorem Sm (n:Int):Dx0 (.i .i64 n) (.i .i64 300)=some (.i .i64 (if (300:Int)<n then 300 else n)):=by simp [Dx0]
theorem Df5 (z:Zone) (hz:z.wf):S At7 1 [z.pv]=some [(smallZ z).pv]:=by
 obtain ⟨N,hN⟩:∃N:Nat,N=72:=⟨_,rfl⟩
 refine Hp6 (N:=N) rfl ?_
 have hzl:z.origin.length≤9223372036854775807:=hz.origin
 have hrl:=hz.recs.1
 have key:Dp8.ev S N [z.pv]=some (.yld 0 [Ag ((z.recs.take 70).map I7)]):=by
  have hm:(z.recs.take 70).length≤70:=by simp;omega
  refine E4 (z.recs.take 70) (fun i=>[Ag ((z.recs.take i).map I7), .i .i64 (i:Int)]) (fun i r=> .yld 0 [Ag ((z.recs.take 70).map I7)]) rfl (by omega) (fun i c r hd hi hc=> ?_) ?_
  ·left
   refine ⟨?_,rfl⟩
   have hi70:i<70:=by omega
   have hc':z.recs[i]? =some c:=by rw [←hc,List.getElem?_take_of_lt hi70]
   have hil:=(Aq.1 hc').1
   have hcw:=hz.recs.2 c (A5 hc')
   have e:(z.recs.take (i+1)).map I7=(z.recs.take i).map I7++[I7 c]:=by rw [Cz,hc'];simp
   have hlen:((z.recs.take i).map I7).length=i:=by rw [Gn,Al];omega
   have s1:=Qb c.name hcw.name
   have s2:=Qb c.data.host hcw.data.host
   have s3:=Qb c.data.mail hcw.data.mail
   have s4:=Qb c.data.text hcw.data.text
   have h1:(i:Int)<(z.recs.length:Int):=by omega
   have h2:(i:Int)<70:=by omega
   have ei:(i:Int).toNat=i:=by omega
   rw [e]
   generalize (z.recs.take i).map I7=a at*
   simp (disch:=omega) only [Cl2,h1,h2,ei,hc',Sm,s1,s2,s3,s4,EVC,xe,EVP,EV,simprocAttr]
   rfl
  ·refine ⟨?_,rfl⟩
   have e:z.recs.take (z.recs.take 70).length=z.recs.take 70:=by
    rw [Al]
    by_cases h:z.recs.length≤70
    ·rw [Nat.min_eq_right h,C1,C2 h]
    ·rw [My (by omega)]
   have hlen:((z.recs.take 70).length:Int)=if 70<z.recs.length then 70 else (z.recs.length:Int):=by
    rw [Al];split<;>omega
   rw [e,hlen]
   by_cases h:70<z.recs.length
   ·rw [if_pos h]
    have h1:(70:Int)<(z.recs.length:Int):=by omega
    generalize (z.recs.take 70).map I7=a at*
    simp (disch:=omega) only [Cl2,h1,EVC,xe,EVP,EV,simprocAttr]
   ·rw [if_neg h]
    have h1:¬(z.recs.length:Int)<(z.recs.length:Int):=by omega
    generalize (z.recs.take 70).map I7=a at*
    simp (disch:=omega) only [Cl2,h1,EVC,xe,EVP,EV,simprocAttr]
 have s0:=Qb z.origin hzl
 unfold smallZ
 generalize (z.recs.take 70).map I7=a at*
 simp (disch:=omega) only [Cl2,key,Sm,s0,Kr,EVC,xe,EVP,EV,simprocAttr]
def newZ (o:List UInt8) (l:List Rec):Zone:=if J2 ⟨o,sortR l⟩=0 then ⟨o,sortR l⟩ else ⟨[],[]⟩
theorem Dj4 {l:List Rec} (h:∀r∈l,r.wf):∀r∈sortR l,r.wf:=fun r hr=>h r (((S8 l).2 r).1 hr).mem
theorem og {o:List UInt8} {l:List Rec} (ho:Mp o) (hl:l.length≤1000000) (hw:∀r∈l,r.wf):(⟨o,sortR l⟩:Zone).wf:=by
 have:=Yd l hw hl
 exact ⟨ho,by simp only;omega,Dj4 hw⟩
theorem Cf3 (o:List UInt8) (l:List Rec) (ho:Mp o) (hl:l.length≤1000000) (hw:∀r∈l,r.wf):S zx 2 [.s o,Ag l]=some [(newZ o l).pv, .i .i64 (J2 ⟨o,sortR l⟩)]:=by
 refine Hp5 (N:=1) rfl ?_
 have k1:=vh l hw hl
 have hlen:=Yd l hw hl
 have k2:=Sk ⟨o,sortR l⟩ (og ho hl hw) (by simp only;omega)
 unfold newZ
 generalize sortR l=s at*
 by_cases h:J2 ⟨o,s⟩=0
 ·rw [if_pos h]
  rw [h] at k2 ⊢
  simp (disch:=omega) only [Gj7,k1,k2,Kr,EVC,xe,EVP,EV,simprocAttr]
 ·rw [if_neg h]
  simp (disch:=omega) only [Gj7,k1,k2,h,Kr,EVC,xe,EVP,EV,simprocAttr]
end Go.X.G
/- The laws of zones: serial numbers, addresses of hosts, the chapter's example. -/
namespace Go.X.G
open Go Go.X
def Fk0 (z:Zone) (r:Rec):Bool:=decide (r.typ=6) && decide (r.name=z.origin)
theorem Yf (z:Zone) (r:Rec):S T2 1 [r.pv,z.pv]=some [.b (Fk0 z r)]:=by
 refine Gc7 (N:=1) rfl ?_
 unfold Fk0
 by_cases h:r.typ=6
 ·simp (disch:=omega) only [Dg9,h,EVC,xe,EVP,EV,simprocAttr]
  try simp
 ·simp (disch:=omega) only [Dg9,h,EVC,xe,EVP,EV,simprocAttr]
  try simp
theorem ez (z:Zone) (hl:z.recs.length≤1000000):S y9 1 [z.pv]=some [.i .i64 (ixG (Fk0 z) 0 z.recs)]:=by
 refine Hl8 (N:=1) rfl ?_
 have h:=S2 z.recs T2 [z.pv] (Fk0 z) hl (fun r _=>Yf z r)
 simp (disch:=omega) only [Hb4,Kr,Db5,h,EVC,xe,EVP,EV,simprocAttr]
theorem ww (z:Zone):findR z.recs z.origin 6=z.recs.filter (Fk0 z):=by
 unfold findR
 congr 1
 funext r
 unfold isK Fk0
 rw [Bool.and_comm]
def Hg4 (z:Zone):Int:=match findR z.recs z.origin 6 with
 |[]=>0
 |r::_=>r.data.a
theorem ix_find (p:Rec→Bool) (l:List Rec):(ixG p 0 l= -1∧l.filter p=[])∨∃(j:Nat) (x:Rec) (r:List Rec),ixG p 0 l=(j:Int)∧l[j]? =some x∧p x=true∧l.filter p=x::r:=by
 have h:=gt p l 0
 by_cases hn:0≤ixG p 0 l
 ·right
  obtain ⟨j,g1,g2,g3,x,g4,g5⟩:=ax p l 0 hn
  have hd:l=l.take j++x::l.drop (j+1):=by
   have:=Cb g2
   have e:l[j]=x:=by rw [Ay g2] at g4;injection g4
   rw [e] at this
   rw [←this,Bl]
  refine ⟨j,x,(l.drop (j+1)).filter p,by rw [g1];simp,g4,g5,?_⟩
  conv=>lhs;rw [hd]
  rw [E1,D1 g5]
  have:(l.take j).filter p=[]:=D9.2 fun y hy=>by simp [g3 y hy]
  rw [this,Cy]
 ·left
  refine ⟨by omega,D9.2 fun y hy=> ?_⟩
  intro hp
  exact hn (h.1.2 (Bt.2 ⟨y,hy,hp⟩))
theorem Aq2 (z:Zone) (hl:z.recs.length≤1000000):S At4 1 [z.pv]=some [.i .i64 (Hg4 z)]:=by
 refine Hp1 (N:=1) rfl ?_
 have h:=ez z hl
 unfold Hg4
 rw [ww]
 rcases ix_find (Fk0 z) z.recs with ⟨h1,h2⟩|⟨j,x,r,h1,h2,h3,h4⟩
 ·rw [h1] at h
  rw [h2]
  simp (disch:=omega) only [Ft7,h,EVC,xe,EVP,EV,simprocAttr]
 ·rw [h1] at h
  rw [h4]
  have hj:(0:Int)≤(j:Int):=by omega
  have ej:(j:Int).toNat=j:=by omega
  simp (disch:=omega) only [Ft7,h,hj,ej,h2,EVC,xe,EVP,EV,simprocAttr]
theorem Aq0 (z:Zone) (s:Int) (h:inB s 4294967295=false):S At5 2 [z.pv, .i .i64 s]=some [Zone.pv ⟨[],[]⟩, .i .i64 14]:=by
 refine Hp2 (N:=1) rfl ?_
 have k1:=Ch s
 rw [h] at k1
 simp (disch:=omega) only [Hc4,k1,Kr,EVC,xe,EVP,EV,simprocAttr]
def Bx4 (z:Zone) (h:List UInt8):List Rec:=if cutN z h≠[] then findR z.recs h 1++findR z.recs h 28 else []
def glueN (z:Zone) (hs:List (List UInt8)):List Rec:=hs.flatMap (Bx4 z)
theorem Bx3 (z:Zone) (h:List UInt8):(Bx4 z h).length≤2*z.recs.length:=by
 unfold Bx4 findR
 split
 ·rw [Az]
  have h1:=Dm (isK h 1) z.recs
  have h2:=Dm (isK h 28) z.recs
  omega
 ·simp
theorem bj (z:Zone):∀hs:List (List UInt8),(glueN z hs).length≤2*z.recs.length*hs.length
 |[]=>by simp [glueN]
 |h::hs=>by
  have h1:=Bx3 z h
  have h2:=bj z hs
  simp only [glueN,Gc,Az,As] at h2 ⊢
  rw [Nat.mul_add,Av3];omega
theorem Df6 (z:Zone) (hs:List (List UInt8)) (hz:z.wf) (hl:z.recs.length≤1000) (hn:hs.length≤100) (hh:∀h∈hs,h.length≤9223372036854775807):S As5 2 [z.pv,Bc hs]=some [Ag (glueN z hs)]:=by
 obtain ⟨N,hN⟩:∃N,N=hs.length+1:=⟨_,rfl⟩
 refine Hn4 (N:=N) rfl ?_
 have key:Dp2.ev S N [z.pv,Bc hs]=some (.yld 0 [Ag (glueN z hs)]):=by
  refine E4 hs (fun i=>[Ag (glueN z (hs.take i)), .i .i64 (i:Int)]) (fun i r=> .yld 0 [Ag (glueN z hs)]) rfl (by omega) (fun i c r hd hi hc=> ?_) ?_
  ·left
   refine ⟨?_,rfl⟩
   have e:glueN z (hs.take (i+1))=glueN z (hs.take i)++Bx4 z c:=by rw [Cz,hc];simp [glueN]
   have hlen:=bj z (hs.take i)
   have hl2:2*z.recs.length*(hs.take i).length≤2000*100:=Gb (by omega) (by rw [Al];omega)
   have h1:(i:Int)<(hs.length:Int):=by omega
   have ei:(i:Int).toNat=i:=by omega
   have k1:=Ur z c hz (by omega) (hh c (A5 hc))
   have k2:=Jk z c 1 (by omega)
   have k3:=Jk z c 28 (by omega)
   have l2:(findR z.recs c 1).length≤z.recs.length:=Dm _ _
   have l3:(findR z.recs c 28).length≤z.recs.length:=Dm _ _
   rw [e]
   unfold Bx4
   generalize glueN z (hs.take i)=a at*
   by_cases hc2:cutN z c=[]
   ·have eb:decide (cutN z c≠[])=false:=by simp [hc2]
    rw [eb] at k1
    rw [if_neg (by simp [hc2])]
    simp (disch:=omega) only [Cl1,h1,ei,hc,k1,EVC,xe,EVP,EV,simprocAttr]
    simp
   ·have eb:decide (cutN z c≠[])=true:=by simp [hc2]
    rw [eb] at k1
    rw [if_pos hc2]
    generalize findR z.recs c 1=f1 at*
    generalize findR z.recs c 28=f2 at*
    have la:(a++f1).length≤1000000:=by rw [Az];omega
    simp (disch:=omega) only [Cl1,h1,ei,hc,k1,k2,k3,EVC,xe,EVP,EV,simprocAttr]
    simp
  ·refine ⟨?_,rfl⟩
   have h1:¬(hs.length:Int)<(hs.length:Int):=by omega
   have e:hs.take hs.length=hs:=C1
   rw [e]
   generalize glueN z hs=a at*
   simp (disch:=omega) only [Cl1,h1,EVC,xe,EVP,EV,simprocAttr]
 generalize glueN z hs=a at*
 simp (disch:=omega) only [Cl1,key,EVC,xe,EVP,EV,simprocAttr]
end Go.X.G
/- The laws of zones: the chapter's example. -/
namespace Go.X.G
open Go Go.X
def exL:List Rec:=[⟨[101,120,97,109,112,108,101,46],6,60,{zero with host:=[110,115,46,98,46,101,120,97,109,112,108,101,46],mail:=[109,46,101,120,97,109,112,108,101,46],a:=5,b:=60,c:=60,d:=600,e:=30}⟩,⟨[101,120,97,109,112,108,101,46],2,60,{zero with host:=[110,115,46,98,46,101,120,97,109,112,108,101,46]}⟩,⟨[98,46,101,120,97,109,112,108,101,46],2,60,{zero with host:=[110,115,46,98,46,101,120,97,109,112,108,101,46]}⟩,⟨[101,120,97,109,112,108,101,46],1,60,{zero with lo:=1}⟩,⟨[99,46,100,46,101,120,97,109,112,108,101,46],1,60,{zero with lo:=2}⟩,⟨[110,115,46,98,46,101,120,97,109,112,108,101,46],1,60,{zero with lo:=3}⟩]
def Dr1:Rec:=⟨[98,46,101,120,97,109,112,108,101,46],15,60,{zero with a:=1,host:=[97,46]}⟩
def exO:List UInt8:=[101,120,97,109,112,108,101,46]
theorem Aq4:S Ar7 0 []=some [Ag exL]:=(L6 ext_mono).2 ⟨3,by kernel_rfl⟩
theorem Dr2:∀r∈exL++[Dr1],r.wf:=by
 intro r hr
 simp only [exL,Dr1,B3,Cy,Af,List.mem_nil_iff,or_false] at hr
 rcases hr with rfl|rfl|rfl|rfl|rfl|rfl|rfl<;>(constructor<;>(try constructor))<;>simp [zero,Gq7,g8,Mp]
def exZ:Zone:=⟨exO,sortR exL⟩
theorem ql:J2 exZ=0:=by kernel_rfl
theorem Gt4:J2 ⟨exO,sortR (exL++[Dr1])⟩=13:=by kernel_rfl
theorem Fz8:cutN exZ [120,46,110,115,46,98,46,101,120,97,109,112,108,101,46]=[98,46,101,120,97,109,112,108,101,46]:=by kernel_rfl
theorem Fz7:cutN exZ exO=[]:=by kernel_rfl
theorem Fz5:encN exZ [120,46,121,46,100,46,101,120,97,109,112,108,101,46]=[100,46,101,120,97,109,112,108,101,46]:=by kernel_rfl
theorem Fz4:encN exZ [110,115,46,98,46,101,120,97,109,112,108,101,46]=[98,46,101,120,97,109,112,108,101,46]:=by kernel_rfl
theorem Gt3:exB exZ [100,46,101,120,97,109,112,108,101,46]=true:=by kernel_rfl
theorem Gt2:exB exZ [110,115,46,98,46,101,120,97,109,112,108,101,46]=false:=by kernel_rfl
theorem Db3:namesN exZ=[[101,120,97,109,112,108,101,46],[98,46,101,120,97,109,112,108,101,46],[100,46,101,120,97,109,112,108,101,46],[99,46,100,46,101,120,97,109,112,108,101,46]]:=by unfold namesN;rw [←Zv];kernel_rfl
theorem Fz6:(cutsN exZ).length=1:=by unfold cutsN;rw [←Zv];kernel_rfl
theorem Fz2:glueN exZ [[110,115,46,98,46,101,120,97,109,112,108,101,46],exO]=[⟨[110,115,46,98,46,101,120,97,109,112,108,101,46],1,60,{zero with lo:=3}⟩]:=by kernel_rfl
theorem Gt0:Hg4 exZ=5:=by kernel_rfl
theorem Gt1:exZ.recs.length=6:=by kernel_rfl
theorem Fz3:findR exZ.recs [100,46,101,120,97,109,112,108,101,46] 1=[]:=by kernel_rfl
theorem Gt6 (n:List UInt8) (lo:Int):S As4 2 [.s n, .i .u64 lo]=some [Rec.pv ⟨n,1,60,{zero with lo:=lo}⟩]:=by
 refine Hn1 (N:=1) rfl ?_
 simp (disch:=omega) only [Hc1,EVC,xe,EVP,EV,simprocAttr]
 rfl
theorem Ak6:S gq 0 []=some [.b true]:=by
 refine Hp3 (N:=1) rfl ?_
 have hw:∀r∈exL,r.wf:=fun r hr=>Dr2 r (Cc _ hr)
 have ho:Mp exO:=by unfold Mp exO;decide
 have k0:=Aq4
 have hz:exZ.wf:=og ho (by decide) hw
 have hl:exZ.recs.length=6:=Gt1
 have ec:J2 ⟨exO,sortR exL⟩=0:=ql
 have k1:=Cf3 exO exL ho (by decide) hw
 have en:newZ exO exL=exZ:=by unfold newZ;rw [if_pos ec];rfl
 rw [en,ec] at k1
 have k2:=Sk exZ hz (by omega)
 rw [ql] at k2
 have k3:=Aq2 exZ (by omega)
 rw [Gt0] at k3
 have c1:=Ur exZ [120,46,110,115,46,98,46,101,120,97,109,112,108,101,46] hz (by omega) (by decide)
 rw [Fz8] at c1
 have c2:=Ur exZ exO hz (by omega) (by decide)
 rw [Fz7] at c2
 have e1:=J8 exZ [120,46,121,46,100,46,101,120,97,109,112,108,101,46] hz (by omega) (by decide)
 rw [Fz5] at e1
 have e2:=J8 exZ [110,115,46,98,46,101,120,97,109,112,108,101,46] hz (by omega) (by decide)
 rw [Fz4] at e2
 have n1:=P7 exZ hz (by omega)
 rw [Db3] at n1
 have u1:=lm exZ hz (by omega)
 have ul:=Fz6
 have g1:=Df6 exZ [[110,115,46,98,46,101,120,97,109,112,108,101,46],exO] hz (by omega) (by decide) (by decide)
 rw [Fz2] at g1
 have w1:=Aq0 exZ (-1) (by decide)
 have b1:=Cf3 exO (exL++[Dr1]) ho (by decide) Dr2
 rw [Gt4] at b1
 have a1:=Gt6 [110,115,46,98,46,101,120,97,109,112,108,101,46] 3
 have x1:=I2 exZ [100,46,101,120,97,109,112,108,101,46] hz (by omega)
 rw [Gt3] at x1
 have x2:=I2 exZ [110,115,46,98,46,101,120,97,109,112,108,101,46] hz (by omega)
 rw [Gt2] at x2
 have f1:=Jk exZ [100,46,101,120,97,109,112,108,101,46] 1 (by omega)
 rw [Fz3] at f1
 have eo:([101,120,97,109,112,108,101,46]:List UInt8)=exO:=rfl
 have happ:Hm 16 (Ag exL) (Ag [⟨[98,46,101,120,97,109,112,108,101,46],15,60,⟨false,0,0,[97,46],[],[],1,0,0,0,0,0,0⟩⟩])=some (Ag (exL++[Dr1])):=cm exL Dr1 (by decide)
 have hlit:I5 16 [PV.a [.s [98,46,101,120,97,109,112,108,101,46], .i .i64 15, .i .i64 60, .b false, .i .u64 0, .i .u64 0, .s [97,46], .s [], .s [], .i .i64 1, .i .i64 0, .i .i64 0, .i .i64 0, .i .i64 0, .i .i64 0, .i .u64 0]]=some (Ag [⟨[98,46,101,120,97,109,112,108,101,46],15,60,⟨false,0,0,[97,46],[],[],1,0,0,0,0,0,0⟩⟩]):=rfl
 have hs2:Bc [[110,115,46,98,46,101,120,97,109,112,108,101,46],exO]= .l 1 [.s [110,115,46,98,46,101,120,97,109,112,108,101,46], .s [101,120,97,109,112,108,101,46]]:=rfl
 rw [hs2] at g1
 have hex:PV.s exO= .s [101,120,97,109,112,108,101,46]:=rfl
 rw [hex] at k1 c2 b1
 generalize newZ exO (exL++[Dr1])=nz at*
 generalize exL++[Dr1]=l2 at*
 have hn4:(Bc [[101,120,97,109,112,108,101,46],[98,46,101,120,97,109,112,108,101,46],[100,46,101,120,97,109,112,108,101,46],[99,46,100,46,101,120,97,109,112,108,101,46]])= .l 1 (List.map PV.s [[101,120,97,109,112,108,101,46],[98,46,101,120,97,109,112,108,101,46],[100,46,101,120,97,109,112,108,101,46],[99,46,100,46,101,120,97,109,112,108,101,46]]):=rfl
 generalize cutsN exZ=cz at*
 have hrl:((exZ.recs.length:Nat):Int)=6:=by omega
 generalize exZ=zz at*
 generalize exL=l1 at*
 have hlit2:I5 1 [.s [110,115,46,98,46,101,120,97,109,112,108,101,46], .s [101,120,97,109,112,108,101,46]]=some (.l 1 [.s [110,115,46,98,46,101,120,97,109,112,108,101,46], .s [101,120,97,109,112,108,101,46]]):=rfl
 clear hn4 hs2 hex eo
 simp (disch:=first|omega|decide) only [Hc5,k0,k1,k2,k3,hrl,c1,c2,e1,e2,n1,u1,ul,g1,w1,happ,hlit,hlit2,b1,a1,x1,x2,f1,EVC,xe,EVP,EV,simprocAttr]
end Go.X.G
/- What the laws on tasks are called with. -/
namespace Go.X
structure Begin where
 q:Ques
 zone:List UInt8
 hosts:List (List UInt8)
 addrs:List Adr
structure Actn where
 kind:Int
 n:Int
 odd:Bool
 m:Msg
 host:List UInt8
 addrs:List Adr
def u8r (x:Int):Prop:=0≤x∧x≤255
structure Begin.wf (b:Begin):Prop where
 q:b.q.wf
 zone:Mp b.zone
 hosts:b.hosts.length≤9223372036854775807∧∀h∈b.hosts,Mp h
 addrs:b.addrs.length≤9223372036854775807
structure Actn.wf (a:Actn):Prop where
 kind:u8r a.kind
 n:u8r a.n
 m:a.m.wf
 host:Mp a.host
 addrs:a.addrs.length≤9223372036854775807
def Begin.cells (b:Begin):List PV:=[.s b.q.name, .i .i64 b.q.typ, .s b.zone,Bc b.hosts,Eh b.addrs]
def Begin.pv (b:Begin):PV:= .a b.cells
def Actn.cells (a:Actn):List PV:=[.i .u8 a.kind, .i .u8 a.n, .b a.odd, .i .i64 a.m.id, .i .i64 a.m.op, .i .i64 a.m.code, .b a.m.resp, .b a.m.aa, .b a.m.tc, .b a.m.rd, .b a.m.ra, .b a.m.ad, .b a.m.cd, .b a.m.dok, .i .i64 a.m.size, .s a.m.q.name, .i .i64 a.m.q.typ,Ag a.m.ans,Ag a.m.auth,Ag a.m.ext, .s a.host,Eh a.addrs]
def Actn.pv (a:Actn):PV:= .a a.cells
end Go.X
/- The law ZoneShuffles. -/
namespace Go.X
end Go.X
namespace Go.X.G
open Go Go.X
structure StpI (zs:List Rec) (i:Nat) (l:List Rec):Prop where
 mem:∀r,r∈l↔r∈zs
 lo:zs.length≤l.length
 hi:l.length≤zs.length+min i zs.length
end Go.X.G
/- What exists in a checked zone, and the law ZoneExists. -/
namespace Go.X.G
open Go Go.X
theorem K6 {n:List UInt8} (h:vld n=true):under n n=true:=B0.2 ⟨h,h,List.suffix_refl _⟩
theorem v8 {a b:List UInt8} (h1:under a b=true) (h2:under b a=true):a=b:=by
 refine K7 h1 ?_
 exact (B0.1 h2).2.2.length_le
theorem az {z:Zone} {r:Rec}:C9 z r=true↔r.typ=2∧r.name≠z.origin∧under r.name z.origin=true:=by
 unfold C9 D7
 simp only [Av,decide_eq_true_eq,ne_eq]
theorem Rm {l:List Rec} {n:List UInt8} {t:Int} {r:Rec}:r∈findR l n t↔r∈l∧r.name=n∧r.typ=t:=by
 unfold findR
 rw [Bs]
 simp only [isK,Av,decide_eq_true_eq]
theorem ZOk.soaR {z:Zone} (h:ZOk z):∃r∈z.recs,r.name=z.origin∧r.typ=6:=by
 have:=h.soa
 cases e:findR z.recs z.origin 6 with
 |nil=>rw [e] at this;cases this
 |cons r l=>
  have:r∈findR z.recs z.origin 6:=by rw [e];exact .head _
  exact ⟨r,(Rm.1 this).1,(Rm.1 this).2⟩
theorem zg (z:Zone):P0 z z.origin=false:=by
 cases h:P0 z z.origin with
 |false=>rfl
 |true=>
  unfold P0 at h
  simp only [Bt,Av,decide_eq_true_eq] at h
  obtain ⟨r,_,⟨h1,_⟩,h3⟩:=h
  obtain ⟨_,h4,h5⟩:=az.1 h1
  exact absurd (v8 h5 h3) h4
theorem ZOk.exO {z:Zone} (h:ZOk z):exB z z.origin=true:=by
 obtain ⟨r,hr,e,_⟩:=h.soaR
 have u:=K6 h.origin
 exact (Nz z _).2 ⟨r,hr,by rw [e];exact u,by rw [e];exact zg z,by rw [e];exact u,u⟩
theorem Wy {z:Zone} {n:List UInt8} (h:exB z n=true):under n z.origin=true:=by
 obtain ⟨_,_,_,_,_,h⟩:=(Nz z n).1 h
 exact h
theorem Hz3 {z:Zone} (h:ZOk z) {n:List UInt8} (hu:under n z.origin=true):encN z n≠[]∧under n (encN z n)=true∧exB z (encN z n)=true:=by
 unfold encN
 rw [if_pos hu]
 cases e:By5 z n with
 |none=>
  unfold By5 at e
  rw [List.find?_eq_none] at e
  exact absurd h.exO (e _ ((Kj hu).2 ⟨hu,K6 h.origin⟩))
 |some x=>
  obtain ⟨h1,h2⟩:=Nb hu e
  exact ⟨l8 (B0.1 h1).2.1,h1,h2⟩
theorem Fc2 {z:Zone} {n:List UInt8} (hu:under n z.origin=false):encN z n=[]:=by
 unfold encN
 rw [if_neg (by simp [hu])]
theorem By4 {z:Zone} {n x:List UInt8} (hu:under n x=true) (hx:exB z x=true):(lbl x).length≤(lbl (encN z n)).length:=by
 have hne:=l8 (B0.1 hu).2.1
 have h0:=Cb4 z n
 obtain ⟨h1,h2⟩:=P6 n (namesN z) [] (.inl rfl)
 rw [h0] at h1 h2
 have hm:x∈namesN z:=by have:=Wz z x;rw [hx] at this;simpa using this
 by_cases hb:encN z n=[]
 ·have:=(h1 hb).2 x hm
  rw [hu] at this;cases this
 ·exact (h2 hb).2.2.2 x hm hu
theorem Hk9 {z:Zone} {n:List UInt8} (h:exB z n=true) (ho:ZOk z):encN z n=n:=by
 have hu:=Wy h
 obtain ⟨_,h1,h2⟩:=(Hz3 ho hu)
 exact (K7 h1 (By4 (K6 (B0.1 hu).1) h)).symm
theorem Fj1 {a b c:List (List UInt8)} (h1:a<:+c) (h2:b<:+c) (h:a.length≤b.length):a<:+b:=by
 exact List.suffix_of_suffix_length_le h1 h2 h
theorem b8 {z:Zone} {n:List UInt8} (ho:ZOk z) (h:cutN z n≠[]):
  under n (cutN z n)=true∧cutN z n≠z.origin∧(findR z.recs (cutN z n) 2).length≠0∧encN z n=cutN z n∧under n z.origin=true∧exB z (cutN z n)=true:=by
 obtain ⟨_,h2⟩:=i4 z n z.recs [] (.inl rfl)
 obtain ⟨g1,g2,_,g4⟩:=h2 h
 change under n (cutN z n)=true at g1
 change cutN z n=[]∨∃r∈z.recs,C9 z r=true∧r.name=cutN z n at g2
 change∀r∈z.recs,C9 z r=true→under n r.name=true→(lbl (cutN z n)).length≤(lbl r.name).length at g4
 obtain ⟨r,hr,hc,hn⟩:=g2.resolve_left h
 generalize cutN z n=c at*
 obtain ⟨c1,c2,c3⟩:=az.1 hc
 rw [hn] at c2 c3
 have hu:=Ml g1 c3
 have hh:P0 z c=false:=by
  cases e:P0 z c with
  |false=>rfl
  |true=>
   unfold P0 at e
   simp only [Bt,Av,decide_eq_true_eq] at e
   obtain ⟨x,hx,⟨x1,x2⟩,x3⟩:=e
   have:=g4 x hx x1 (Ml g1 x3)
   exact absurd (K7 x3 this).symm x2
 have hv:=(B0.1 c3).1
 have hex:exB z c=true:=(Nz z c).2 ⟨r,hr,by rw [hn];exact c3,by rw [hn];exact hh,by rw [hn];exact K6 hv,c3⟩
 refine ⟨g1,c2,?_,?_,hu,hex⟩
 ·have:r∈findR z.recs c 2:=Rm.2 ⟨hr,hn,c1⟩
  intro e
  rw [List.length_eq_zero_iff.1 e] at this
  cases this
 ·obtain ⟨_,e1,e2⟩:=(Hz3 ho hu)
  have hm:=By4 g1 hex
  generalize encN z n=e at*
  obtain ⟨_,_,s1⟩:=B0.1 g1
  obtain ⟨_,ve,s2⟩:=B0.1 e1
  have s3:=Fj1 s1 s2 hm
  have ec:under e c=true:=B0.2 ⟨ve,hv,s3⟩
  by_cases hl:(lbl e).length≤(lbl c).length
  ·exact K7 ec hl
  ·exfalso
   obtain ⟨x,hx,x1,x2,x3,_⟩:=(Nz z e).1 e2
   have hxc:=Ml x3 ec
   have:P0 z x.name=true:=by
    unfold P0
    simp only [Bt,Av,decide_eq_true_eq]
    refine ⟨r,hr,⟨hc,fun q=> ?_⟩,by rw [hn];exact hxc⟩
    have:=(B0.1 x3).2.2.length_le
    rw [←q,hn] at this
    exact hl this
   rw [x2] at this;cases this
theorem By0 {z:Zone} {n:List UInt8} (h:exB z n=true) (hn:n≠z.origin):T7 n=true∧exB z (Kx n)=true:=by
 have hu:=Wy h
 obtain ⟨r,hr,h1,h2,h3,_⟩:=(Nz z n).1 h
 have hv:=(B0.1 hu).1
 have hk:0<(lbl n).length - (lbl z.origin).length:=by
  rcases Nat.eq_zero_or_pos ((lbl n).length - (lbl z.origin).length) with e|e
  ·have:=(X4 hu (Ct _)).2 e.symm
   rw [V8 hv] at this
   exact absurd this hn
  ·exact e
 obtain ⟨q1,q2⟩:=Ax9 hu hk
 rw [V8 hv] at q1 q2
 have hm:=A5 (N2 (o:=z.origin) (n:=n) (k:=1) (by omega))
 have q3:jn ((lbl n).drop 1)=Kx n:=q1.symm
 rw [q3] at hm
 obtain ⟨m1,m2⟩:=(Kj hu).1 hm
 exact ⟨q2,(Nz z _).2 ⟨r,hr,h1,h2,Ml h3 m1,m2⟩⟩
theorem Gt5 {z:Zone} {n:List UInt8} (h:exB z n=true):(z.recs.any fun r=>under r.name n)=true:=by
 obtain ⟨r,hr,_,_,h3,_⟩:=(Nz z n).1 h
 exact Bt.2 ⟨r,hr,h3⟩
theorem Cf8 (z:Zone) (hw:z.wf) (hl:z.recs.length≤70) (nn:List UInt8) (hn:Mp nn)
  (p0 p3 p4 p5 p6 p7 p8 p9 p10 p11 p12 p13 p14 p15 p16 p17 p18:PV):
  Gh1.ev S 100 [p0, .s nn,z.pv,p3,p4,p5,p6,p7,p8,p9,p10,p11,p12,p13,p14,p15,p16,p17,p18]=some (.yld 0 [.b (z.recs.any fun r=>under r.name (c3 nn))]):=by
 have hs:=Qb nn hn
 have hcl:=rz nn
 unfold Mp at hn
 generalize c3 nn=m at*
 refine G2 z.recs (fun i b=>[.b b, .i .i64 (i:Int)]) (fun i b r=> .yld 0 [.b (b||r.any fun r=>under r.name m)]) (fun _ _=>True) false rfl trivial (by omega) (fun i b c r hd hi hc _=> ?_) (fun b _=> ?_)
 ·left
  have k:=E9 c.name m (hw.recs.2 c (A5 hc)).name (by omega)
  refine ⟨b||under c.name m,?_,trivial,by simp [Bool.or_assoc]⟩
  generalize under c.name m=u at*
  rcases Ak b with hb|hb<;>subst hb
  ·simp (disch:=omega) only [Cg5,hc,EVM,EVC,xe,EVP,EV,simprocAttr]
   rfl
  ·simp (disch:=omega) only [Cg5,hc,k,Sm,hs,EVM,EVC,xe,EVP,EV,simprocAttr]
   simp
 ·refine ⟨?_,rfl⟩
  simp (disch:=omega) only [Cg5,EVM,EVC,xe,EVP,EV,simprocAttr]
  simp
set_option maxHeartbeats 4000000 in
theorem law_ZoneExists (z:Zone) (n:List UInt8) (hz:z.wf) (hn:Mp n):S Gg9 2 [z.pv, .s n]=some [.b true]:=by
 refine Iz2 (N:=100) rfl ?_
 have k0:=Df5 z hz
 have hw:=Az6 hz
 have hl:=wx z
 have hs:=Qb n hn
 have hcl:=rz n
 generalize smallZ z=x at*
 have hxo:=hw.origin
 have kl:=Cf8 x hw hl n hn
 have hn':=hn
 unfold Mp at hn' hxo
 generalize c3 n=m at*
 have k3:=Sk x hw (by omega)
 have ka:=Ak6
 by_cases h:J2 x=0
 ·rw [h] at k3
  have ho:=Bb1 h
  have a1:=Ur x m hw (by omega) (by omega)
  have a3:=J8 x m hw (by omega) (by omega)
  have a4:=E9 m x.origin (by omega) hxo
  have a5:=I2 x m hw (by omega)
  have a6:=Of m (by omega)
  have fx:exB x m=true→encN x m=m:=fun q=>Hk9 q ho
  have fu:exB x m=true→under m x.origin=true:=fun q=>Wy q
  have fp:exB x m=true→m≠x.origin→T7 m=true∧exB x (Kx m)=true:=fun q w=>By0 q w
  have fa:exB x m=true→(x.recs.any fun r=>under r.name m)=true:=fun q=>Gt5 q
  have b6:=I2 x (Kx m) hw (by omega)
  generalize (x.recs.any fun r=>under r.name m)=an at*
  rcases Ak (under m x.origin) with hu|hu
  ·rw [hu] at a4
   obtain ⟨e1,e2,e3⟩:=(Hz3 ho hu)
   have b1:=E9 m (encN x m) (by omega) (by have:=B0.1 e2;have:=N0 this.2.1;omega)
   have b2:=I2 x (encN x m) hw (by omega)
   rw [e2] at b1
   rw [e3] at b2
   rw [show decide (encN x m≠[])=true by simp [e1]] at a3
   by_cases hc:cutN x m=[]
   ·rw [show decide (cutN x m≠[])=false by simp [hc]] at a1
    generalize cutN x m=cu at*
    have key:exB x m=decide (encN x m=m):=by
     rcases Ak (exB x m) with q|q
     ·rw [q];simp [fx q]
     ·rw [q]
      by_cases w:encN x m=m
      ·rw [w,q] at e3;cases e3
      ·simp [w]
    generalize encN x m=en at*
    by_cases hm:en=m
    ·have q:exB x m=true:=by rw [key];simp [hm]
     rw [q] at a5
     have f1:=fa q
     subst f1
     subst hm
     by_cases hmo:en=x.origin
     ·have e9:=eq_true hmo
      simp (maxSteps:=2000000) (disch:=omega) only [Cg5,k0,Sm,hs,k3,a1,a3,a4,a5,a6,b1,b2,kl,ka,e9,iz,Q2,beq_self_eq_true,EVM,EVC,xe,EVP,EV,simprocAttr]
      try simp
     ·obtain ⟨f2,f3⟩:=fp q hmo
      rw [f2] at a6
      rw [f3] at b6
      have e9:=eq_false hmo
      simp (maxSteps:=2000000) (disch:=omega) only [Cg5,k0,Sm,hs,k3,a1,a3,a4,a5,a6,b1,b2,b6,kl,ka,e9,iz,Q2,beq_self_eq_true,EVM,EVC,xe,EVP,EV,simprocAttr]
      try simp
    ·have q:exB x m=false:=by rw [key];simp [hm]
     rw [q] at a5
     have hm':=eq_false hm
     simp (maxSteps:=2000000) (disch:=omega) only [Cg5,k0,Sm,hs,k3,a1,a3,a4,a5,b1,b2,hm',ka,iz,Q2,beq_self_eq_true,EVM,EVC,xe,EVP,EV,simprocAttr]
     try simp
   ·obtain ⟨g1,g2,g3,g4,_,g6⟩:=b8 ho hc
    rw [show decide (cutN x m≠[])=true by simp [hc]] at a1
    have c1:=Jk x (cutN x m) 2 (by omega)
    have lf:(findR x.recs (cutN x m) 2).length≤x.recs.length:=Dm _ _
    generalize findR x.recs (cutN x m) 2=ff at*
    rw [g4] at a3 b1 b2
    have fx':exB x m=true→cutN x m=m:=fun q=>by rw [←g4];exact fx q
    generalize cutN x m=cu at*
    have g2':=eq_false g2
    have g3':¬(ff.length:Int)=0:=by omega
    by_cases hm:m=cu
    ·subst hm
     have q:exB x m=true:=g6
     rw [q] at a5
     have f1:=fa q
     subst f1
     obtain ⟨f2,f3⟩:=fp q g2
     rw [f2] at a6
     rw [f3] at b6
     simp (maxSteps:=2000000) (disch:=omega) only [Cg5,k0,Sm,hs,k3,a1,a3,a4,a5,a6,b1,b2,b6,c1,g2',g3',kl,ka,iz,Q2,beq_self_eq_true,EVM,EVC,xe,EVP,EV,simprocAttr]
     try simp
    ·have q:exB x m=false:=by
      rcases Ak (exB x m) with q|q
      ·exact absurd (fx' q).symm hm
      ·exact q
     rw [q] at a5
     have hm1:=eq_false hm
     have hm2:(cu=m)=False:=eq_false fun e=>hm e.symm
     simp (maxSteps:=2000000) (disch:=omega) only [Cg5,k0,Sm,hs,k3,a1,a3,a4,a5,b1,b2,c1,g2',g3',hm1,hm2,ka,iz,Q2,beq_self_eq_true,EVM,EVC,xe,EVP,EV,simprocAttr]
     try simp
  ·rw [hu] at a4
   have e1:=Fc2 hu
   have e2:cutN x m=[]:=by
    by_cases hc:cutN x m=[]
    ·exact hc
    ·have:=(b8 ho hc).2.2.2.2.1
     rw [hu] at this;cases this
   have q:exB x m=false:=by
    rcases Ak (exB x m) with q|q
    ·have:=fu q;rw [hu] at this;cases this
    ·exact q
   rw [q] at a5
   rw [e1] at a3
   rw [e2] at a1
   rw [show decide (([]:List UInt8)≠[])=false by simp] at a1 a3
   simp (maxSteps:=2000000) (disch:=omega) only [Cg5,k0,Sm,hs,k3,a1,a3,a4,a5,ka,iz,Q2,beq_self_eq_true,EVM,EVC,xe,EVP,EV,simprocAttr]
   try simp
 ·simp (disch:=omega) only [Cg5,k0,Sm,hs,k3,h,ka,EVM,EVC,xe,EVP,EV,simprocAttr]
end Go.X.G
