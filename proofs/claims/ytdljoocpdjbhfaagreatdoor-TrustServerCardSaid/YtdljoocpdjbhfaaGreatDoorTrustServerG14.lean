/- What a checked zone says of its names. -/
import Derived.Test.YtdljoocpdjbhfaaGreatDoorTrustServerG13
import Derived.Test.YtdljoocpdjbhfaaGreatDoorTrustServerG11
open Bool renaming eq_false_or_eq_true→Aq,and_eq_true→Aw,or_eq_true→Am
open List renaming length_append→Az,length_cons→A0,mem_of_getElem?→A6,length_pos_iff→Bw,length_nil→By,mem_filter→Bf,mem_append→Bg,mem_singleton→Bl,any_eq_true→B6,getElem?_cons_zero→Cv,nil_append→Cy,mem_map→Dd,length_singleton→Df,filter_cons_of_pos→Dh,length_map→Eb,flatMap_cons→G2,find?_cons_of_pos→J9,filter_eq_self→Gt0
open Nat renaming zero_le→Cc
open Option renaming map_eq_some_iff→Ax,map_some→A4,getD_some→B8,isNone_iff_eq_none→Ck
open Option.some renaming injEq→Ak
set_option maxHeartbeats 1000000
set_option linter.unusedVariables false
set_option linter.unusedSimpArgs false
namespace Go.X.G
open Go Go.X
theorem Jn {n:List UInt8} (h:vld n=true):under n n=true:=B0.2 ⟨h,h,List.suffix_refl _⟩
theorem Ac5 {a b:List UInt8} (h1:under a b=true) (h2:under b a=true):a=b:=by refine Jp h1 ?_;exact (B0.1 h2).2.2.length_le
theorem T2 {z:Zone} {r:Rec}:Dq z r=true↔r.typ=2∧r.name≠z.origin∧under r.name z.origin=true:=by unfold Dq Ew;simp only [Aw,decide_eq_true_eq,ne_eq]
theorem J2 {l:List Rec} {n:List UInt8} {t:Int} {r:Rec}:r∈findR l n t↔r∈l∧r.name=n∧r.typ=t:=by unfold findR;rw [Bf];simp only [isK,Aw,decide_eq_true_eq]
theorem ZOk.soaR {z:Zone} (h:ZOk z):∃r∈z.recs,r.name=z.origin∧r.typ=6:=by
 have:=h.soa;cases e:findR z.recs z.origin 6 with
 |nil=>rw [e] at this;cases this
 |cons r l=>
  have:r∈findR z.recs z.origin 6:=by rw [e];exact .head _
  exact ⟨r,(J2.1 this).1,(J2.1 this).2⟩
theorem Ar2 (z:Zone):Pz z z.origin=false:=by
 cases h:Pz z z.origin with
 |false=>rfl
 |true=>
  unfold Pz at h;simp only [B6,Aw,decide_eq_true_eq] at h;obtain ⟨r,_,⟨h1,_⟩,h3⟩:=h;obtain ⟨_,h4,h5⟩:=T2.1 h1;exact absurd (Ac5 h5 h3) h4
theorem ZOk.exO {z:Zone} (h:ZOk z):exB z z.origin=true:=by obtain ⟨r,hr,e,_⟩:=h.soaR;have u:=Jn h.origin;exact (Q2 z _).2 ⟨r,hr,by rw [e];exact u,by rw [e];exact Ar2 z,by rw [e];exact u,u⟩
theorem Kg2 {z:Zone} (h:ZOk z) {n:List UInt8} (hu:under n z.origin=true):encN z n≠[]∧under n (encN z n)=true∧exB z (encN z n)=true:=by
 unfold encN;rw [if_pos hu];cases e:Bk5 z n with
 |none=>
  unfold Bk5 at e;rw [List.find?_eq_none] at e;exact absurd h.exO (e _ ((Nq hu).2 ⟨hu,Jn h.origin⟩))
 |some x=>
  obtain ⟨h1,h2⟩:=Lt hu e;exact ⟨bn (B0.1 h1).2.1,h1,h2⟩
theorem Hd7 {z:Zone} {n x:List UInt8} (hu:under n x=true) (hx:exB z x=true):(lbl x).length≤(lbl (encN z n)).length:=by
 have hne:=bn (B0.1 hu).2.1;have h0:=Ds6 z n;obtain ⟨h1,h2⟩:=Sq n (namesN z) [] (.inl rfl);rw [h0] at h1 h2;have hm:x∈namesN z:=by have:=Y9 z x;rw [hx] at this;simpa using this
 by_cases hb:encN z n=[]
 ·have:=(h1 hb).2 x hm;rw [hu] at this;cases this
 ·exact (h2 hb).2.2.2 x hm hu
theorem mb {a b c:List (List UInt8)} (h1:a<:+c) (h2:b<:+c) (h:a.length≤b.length):a<:+b:=by exact List.suffix_of_suffix_length_le h1 h2 h
theorem jl {z:Zone} {n:List UInt8} (ho:ZOk z) (h:cutN z n≠[]):
  under n (cutN z n)=true∧cutN z n≠z.origin∧(findR z.recs (cutN z n) 2).length≠0∧encN z n=cutN z n∧under n z.origin=true∧exB z (cutN z n)=true:=by
 obtain ⟨_,h2⟩:=Nc z n z.recs [] (.inl rfl);obtain ⟨g1,g2,_,g4⟩:=h2 h;change under n (cutN z n)=true at g1;change cutN z n=[]∨∃r∈z.recs,Dq z r=true∧r.name=cutN z n at g2;change∀r∈z.recs,Dq z r=true→under n r.name=true→(lbl (cutN z n)).length≤(lbl r.name).length at g4;obtain ⟨r,hr,hc,hn⟩:=g2.resolve_left h;generalize cutN z n=c at*;obtain ⟨c1,c2,c3⟩:=T2.1 hc;rw [hn] at c2 c3;have hu:=N2 g1 c3;have hh:Pz z c=false:=by
  cases e:Pz z c with
  |false=>rfl
  |true=>
   unfold Pz at e;simp only [B6,Aw,decide_eq_true_eq] at e;obtain ⟨x,hx,⟨x1,x2⟩,x3⟩:=e;have:=g4 x hx x1 (N2 g1 x3);exact absurd (Jp x3 this).symm x2
 have hv:=(B0.1 c3).1;have hex:exB z c=true:=(Q2 z c).2 ⟨r,hr,by rw [hn];exact c3,by rw [hn];exact hh,by rw [hn];exact Jn hv,c3⟩;refine ⟨g1,c2,?_,?_,hu,hex⟩
 ·have:r∈findR z.recs c 2:=J2.2 ⟨hr,hn,c1⟩;intro e;rw [List.length_eq_zero_iff.1 e] at this;cases this
 ·obtain ⟨_,e1,e2⟩:=(Kg2 ho hu);have hm:=Hd7 g1 hex;generalize encN z n=e at*;obtain ⟨_,_,s1⟩:=B0.1 g1;obtain ⟨_,ve,s2⟩:=B0.1 e1;have s3:=mb s1 s2 hm;have ec:under e c=true:=B0.2 ⟨ve,hv,s3⟩;by_cases hl:(lbl e).length≤(lbl c).length
  ·exact Jp ec hl
  ·exfalso;obtain ⟨x,hx,x1,x2,x3,_⟩:=(Q2 z e).1 e2;have hxc:=N2 x3 ec;have:Pz z x.name=true:=by unfold Pz;simp only [B6,Aw,decide_eq_true_eq];refine ⟨r,hr,⟨hc,fun q=> ?_⟩,by rw [hn];exact hxc⟩;have:=(B0.1 x3).2.2.length_le;rw [←q,hn] at this;exact hl this
   rw [x2] at this;cases this
end Go.X.G
/- What a checked zone says about a question, in plain words. -/
namespace Go.X.G
open Go Go.X
theorem Al9 {z:Zone} {n:List UInt8} (ho:ZOk z) (hu:under n z.origin=true) (hx:exB z n=false) (hc:cutN z n=[]∨cutN z n=n):∀r∈z.recs,under r.name n=false:=by
 intro r hr;rcases Aq (under r.name n) with h|h
 ·exfalso;have h1:=ho.under hr;have hh:Pz z r.name=true:=by
   rcases Aq (Pz z r.name) with e|e
   ·exact e
   ·have:=(Q2 z n).2 ⟨r,hr,h1,e,h,hu⟩;rw [hx] at this;cases this
  rw [Hb2] at hh;simp only [Aw,decide_eq_true_eq] at hh;obtain ⟨c1,_,_,_,_,c2⟩:=jl ho hh.1;obtain ⟨_,g2⟩:=Nc z r.name z.recs [] (.inl rfl);obtain ⟨_,g3,_,_⟩:=g2 hh.1;obtain ⟨x,hxm,x1,x2⟩:=g3.resolve_left hh.1;change x.name=cutN z r.name at x2;generalize cutN z r.name=c at*;obtain ⟨_,_,s1⟩:=B0.1 c1;obtain ⟨_,vn,s2⟩:=B0.1 h;obtain ⟨_,vc,_⟩:=B0.1 c1;by_cases hl:(lbl n).length≤(lbl c).length
  ·have hcn:under c n=true:=B0.2 ⟨vc,vn,mb s2 s1 hl⟩;obtain ⟨y,y1,y2,y3,y4,_⟩:=(Q2 z c).1 c2;have:=(Q2 z n).2 ⟨y,y1,y2,y3,N2 y4 hcn,hu⟩;rw [hx] at this;cases this
  ·have hnc:under n c=true:=B0.2 ⟨vn,vc,mb s1 s2 (by omega)⟩;obtain ⟨k1,k2⟩:=Nc z n z.recs [] (.inl rfl);rcases hc with hc|hc
   ·have:=(k1 hc).2 x hxm x1;rw [x2,hnc] at this;cases this
   ·by_cases hc0:cutN z n=[]
    ·have:=(k1 hc0).2 x hxm x1;rw [x2,hnc] at this;cases this
    ·obtain ⟨_,_,_,k3⟩:=k2 hc0;have:=k3 x hxm x1 (by rw [x2];exact hnc);change (lbl (cutN z n)).length≤_ at this;rw [hc,x2] at this;omega
 ·exact h
def L1 (z:Zone) (n:List UInt8) (t:Int):Nat:=(z.recs.filter fun r=>decide (r.name=n) && (decide (t=255)||decide (r.typ=t))).length
theorem Kp (z:Zone) (n:List UInt8) (t:Int):L1 z n t=(typedR (allR z n) t).length:=by
 unfold L1 typedR allR;split
 ·rename_i h;subst h;simp
 ·rename_i h;rw [List.filter_filter];congr 1;refine List.filter_congr fun r _=> ?_;simp [h,Bool.and_comm]
theorem At2 (z:Zone) (n:List UInt8):L1 z n 2=(findR z.recs n 2).length:=by unfold L1 findR;congr 1
theorem cj {l:List Rec} {t:Int} {x:Rec} (h:x∈typedR l t):x∈l∧(x.typ=t∨t=255):=by
 unfold typedR at h;split at h
 ·rename_i e;exact ⟨h, .inr e⟩
 ·obtain ⟨h1,h2⟩:=Bf.1 h;exact ⟨h1, .inl (by simpa using h2)⟩
theorem b9 (l:List Rec) (n:List UInt8) (t:Int):(typedR (l.map (R4 n)) t).length=(typedR l t).length:=by
 unfold typedR;split
 ·simp
 ·rw [List.filter_map,Eb];rfl
structure FindOk (z:Zone) (q:Ques) (r:Res):Prop where
 ans:r.kind=1→r.recs≠[]∧r.recs.length=L1 z r.owner q.typ∧(r.wild=false→r.owner=q.name)∧∀x∈r.recs,x.name=q.name∧(x.typ=q.typ∨q.typ=255)∧{x with name:=r.owner}∈z.recs
 nothing:r.kind=6∨r.wild=true→∀x∈z.recs,under x.name q.name=false
 out:r.kind=0→under q.name z.origin=false
 nodata:r.kind=5→L1 z r.owner q.typ=0
 nx:r.kind=6→r.recs=[]∧r.wild=false
 ref:r.kind=4→under q.name r.owner=true∧r.owner≠z.origin∧r.recs.length=L1 z r.owner 2∧r.recs≠[]∧∀x∈r.recs,x.typ=2
 kinds:r.kind=0∨r.kind=1∨(r.kind=2∧r.recs≠[])∨(r.kind=3∧r.recs≠[])∨r.kind=4∨r.kind=5∨r.kind=6
theorem says_kind (l:List Rec) (t:Int):((saysM l t).kind=2∧(saysM l t).recs≠[])∨((saysM l t).kind=5∧typedR l t=[])∨((saysM l t).kind=1∧typedR l t≠[]∧(saysM l t).recs=typedR l t):=by
 unfold saysM;split
 ·exact .inl ⟨rfl,by simp⟩
 ·split
  ·rename_i h;exact .inr (.inl ⟨rfl,h⟩)
  ·rename_i h;exact .inr (.inr ⟨rfl,h,rfl⟩)
theorem S4 (l:List Rec) (t:Int):(saysM l t).wild=false:=by
 unfold saysM;split
 ·rfl
 ·split<;>rfl
theorem jv (z:Zone) (q:Ques) (ho:ZOk z):FindOk z q (findM z q):=by
 unfold findM;split
 ·rename_i hu;split
  ·rename_i hc;obtain ⟨f1,f2,f3,_⟩:=jl ho hc.1;refine ⟨fun h=>by simp at h,fun h=>by simp at h,fun h=>by simp at h,fun h=>by simp at h,fun h=>by simp at h,fun _=>⟨f1,f2,(At2 z _).symm,fun e=>f3 (by have e':findR z.recs (cutN z q.name) 2=[]:=e;rw [e'];rfl),fun x hx=>(J2.1 hx).2.2⟩,by simp⟩
  ·rename_i hc;have hc':cutN z q.name=[]∨cutN z q.name=q.name:=by
    by_cases h0:cutN z q.name=[]
    ·exact .inl h0
    ·refine .inr (Classical.byContradiction fun h1=>hc ⟨h0, .inl h1⟩)
   unfold Y2;cases hr:y8 z q.name with
   |some x=>
    simp only;unfold y8 at hr;cases hr2:Hv8 z q.name with
    |none=>rw [hr2] at hr;cases hr
    |some u=>
     rw [hr2] at hr;simp only [A4,Ak] at hr;obtain ⟨r0,rest,hf⟩:=Hv7 hr2;unfold Ql at hr;rw [hf] at hr;subst hr;exact ⟨fun h=>by simp at h,fun h=>by simp at h,fun h=>by simp at h,fun h=>by simp at h,fun h=>by simp at h,fun h=>by simp at h,by simp⟩
   |none=>
    simp only;split
    ·rename_i hex;rcases says_kind (allR z q.name) q.typ with ⟨k,k'⟩|⟨k,kt⟩|⟨k,kt,kr⟩
     ·refine ⟨fun h=> ?_,fun h=> ?_,fun h=> ?_,fun h=> ?_,fun h=> ?_,fun h=> ?_, .inr (.inr (.inl ⟨k,k'⟩))⟩<;>simp [k,S4] at h
     ·refine ⟨fun h=> ?_,fun h=> ?_,fun h=> ?_,fun _=> ?_,fun h=> ?_,fun h=> ?_,by simp [k]⟩
      ·simp [k] at h
      ·simp [k,S4] at h
      ·simp [k] at h
      ·show L1 z q.name q.typ=0;rw [Kp,kt];rfl
      ·simp [k] at h
      ·simp [k] at h
     ·refine ⟨fun _=>⟨?_,?_,fun _=>rfl,?_⟩,fun h=> ?_,fun h=> ?_,fun h=> ?_,fun h=> ?_,fun h=> ?_,by simp [k]⟩
      ·show (saysM (allR z q.name) q.typ).recs≠[];rw [kr];exact kt
      ·show (saysM (allR z q.name) q.typ).recs.length=L1 z q.name q.typ;rw [kr,Kp]
      ·intro x hx;change x∈(saysM (allR z q.name) q.typ).recs at hx;rw [kr] at hx;obtain ⟨h1,h2⟩:=cj hx;obtain ⟨h3,h4⟩:=Bf.1 h1;have h5:x.name=q.name:=by simpa using h4
       refine ⟨h5,h2,?_⟩;show {x with name:=q.name}∈z.recs;rw [←h5];exact h3
      ·simp [k,S4] at h
      ·simp [k] at h
      ·simp [k] at h
      ·simp [k] at h
      ·simp [k] at h
    ·rename_i hex;have hex':exB z q.name=false:=by simpa using hex
     have hno:=Al9 ho hu hex' hc';unfold Xn;split
     ·simp only [B8];generalize starN (encN z q.name)=s;rcases says_kind ((allR z s).map (R4 q.name)) q.typ with ⟨k,k'⟩|⟨k,kt⟩|⟨k,kt,kr⟩
      ·refine ⟨fun h=> ?_,fun _=>hno,fun h=> ?_,fun h=> ?_,fun h=> ?_,fun h=> ?_, .inr (.inr (.inl ⟨k,k'⟩))⟩<;>simp [k] at h
      ·refine ⟨fun h=> ?_,fun _=>hno,fun h=> ?_,fun _=> ?_,fun h=> ?_,fun h=> ?_,by simp [k]⟩
       ·simp [k] at h
       ·simp [k] at h
       ·show L1 z s q.typ=0;rw [Kp,←b9 (allR z s) q.name q.typ,kt];rfl
       ·simp [k] at h
       ·simp [k] at h
      ·refine ⟨fun _=>⟨?_,?_,fun h=> ?_,?_⟩,fun _=>hno,fun h=> ?_,fun h=> ?_,fun h=> ?_,fun h=> ?_,by simp [k]⟩
       ·show (saysM ((allR z s).map (R4 q.name)) q.typ).recs≠[];rw [kr];exact kt
       ·show (saysM ((allR z s).map (R4 q.name)) q.typ).recs.length=L1 z s q.typ;rw [kr,Kp,b9]
       ·simp at h
       ·intro x hx;change x∈(saysM ((allR z s).map (R4 q.name)) q.typ).recs at hx;rw [kr] at hx;obtain ⟨h1,h2⟩:=cj hx;obtain ⟨y,h3,rfl⟩:=Dd.1 h1;obtain ⟨h4,h5⟩:=Bf.1 h3;have h6:y.name=s:=by simpa using h5
        refine ⟨rfl,h2,?_⟩;show {R4 q.name y with name:=s}∈z.recs;rw [←h6];exact h4
       ·simp [k] at h
       ·simp [k] at h
       ·simp [k] at h
       ·simp [k] at h
     ·simp only [Option.getD_none];refine ⟨fun h=>by simp at h,fun _=>hno,fun h=>by simp at h,fun h=>by simp at h,fun _=>⟨rfl,rfl⟩,fun h=>by simp at h,by simp⟩
 ·rename_i hu;have hu':under q.name z.origin=false:=by simpa using hu
  refine ⟨fun h=>by simp at h,fun h=>by simp at h,fun _=>hu',fun h=>by simp at h,fun h=>by simp at h,fun h=>by simp at h,by simp⟩
end Go.X.G
/- The law LookupSoas. -/
namespace Go.X.G
open Go Go.X
theorem Sw (z:Zone) (n:List UInt8) (t:Int) (hl:z.recs.length≤1000000):S Rv 3 [z.pv, .s n, .i .i64 t]=some [Ag (findR z.recs n t)]:=by refine Iy8 (N:=1) rfl ?_;simp (disch:=omega) only [Ik0,M1,xe,EVP,EV,simprocAttr]
def soaR (z:Zone):List Rec:=match findR z.recs z.origin 6 with
 |[]=>[]
 |r::_=>[{r with ttl:=if r.data.e<r.ttl then r.data.e else r.ttl}]
theorem Hs7 (z:Zone) (hl:z.recs.length≤1000000):S An5 1 [z.pv]=some [Ag (soaR z)]:=by
 refine Jp4 (N:=1) rfl ?_;unfold soaR;cases h:findR z.recs z.origin 6 with
 |nil=>simp (disch:=first|omega|(simp;omega)) only [Ij8,Sw,h,xe,EVP,EV,simprocAttr]
 |cons r l=>
  have h1:¬(((l.length+1:Nat):Int)=0):=by omega
  by_cases h2:r.data.e<r.ttl<;>simp (disch:=first|omega|(simp;omega)) only [Ij8,Sw,h,h2,xe,EVP,EV,simprocAttr]
def zero:Dat:=⟨false,0,0,[],[],[],0,0,0,0,0,0,0⟩
end Go.X.G
/- The law LookupFinds. -/
namespace Go.X.G
open Go Go.X
end Go.X.G
/- Chains of aliases; the law LookupChases. -/
namespace Go.X
def Gg (l:List Res):PV:= .l 5 (l.map Res.pv)
theorem El0:PV.l 5 []=Gg []:=rfl
theorem Hy9 (x:Res):Jt 5 [x.pv]=some (Gg [x]):=rfl
theorem Er5 (l:List Res):F4 (Gg l)=some (.i .i64 (l.length:Int)):=by simp [Gg,F4]
theorem Yt (l:List Res) (k:IntKind) (z:Int) (h:0≤z):Gt 5 (Gg l) (.i k z)=(l[z.toNat]?).map Res.pv:=by simp [Gg,Y0 _ _ _ _ h]
theorem Ej9 (l:List Res) (x:Res) (h:l.length+1≤1073741824):H7 5 (Gg l) (Gg [x])=some (Gg (l++[x])):=by have:=Ul 5 (l.map Res.pv) [x.pv] (by simpa using h);simpa [Gg] using this
theorem Bb0 (l:List Res):H9 (Gg l)=some (Gg l):=rfl
theorem Bh0 (l:List Res):Bt 0 (Gg l)=some (Gg l):=rfl
set_option linter.defProp false in
def Pb:=(And.intro @El0 (And.intro @Hy9 (And.intro @Er5 (And.intro @Yt (And.intro @Ej9 (And.intro @Bb0 @Bh0))))))
end Go.X
namespace Go.X.G
open Go Go.X
def ix (r:Res):Bool:=(decide (r.kind=2)||decide (r.kind=3)) && decide (r.target≠[])
def J5 (z:Zone) (t:Int):Nat→List Res→List (List UInt8)→List UInt8→List Res×Bool
 |0,out,_,_=>(out,false)
 |k+1,out,seen,n=>
  if ix (findM z ⟨n,t⟩)=false then (out++[findM z ⟨n,t⟩],true)
  else if out.length=8 then (out++[findM z ⟨n,t⟩],false)
  else if under (findM z ⟨n,t⟩).target z.origin=false then (out++[findM z ⟨n,t⟩],true)
  else if (findM z ⟨n,t⟩).target∈seen then (out++[findM z ⟨n,t⟩],false)
  else J5 z t k (out++[findM z ⟨n,t⟩]) (seen++[(findM z ⟨n,t⟩).target]) (findM z ⟨n,t⟩).target
theorem O7 (z:Zone) (t:Int) (k:Nat) (out:List Res) (seen:List (List UInt8)) (n:List UInt8):J5 z t (k+1) out seen n=
  if ix (findM z ⟨n,t⟩)=false then (out++[findM z ⟨n,t⟩],true)
  else if out.length=8 then (out++[findM z ⟨n,t⟩],false)
  else if under (findM z ⟨n,t⟩).target z.origin=false then (out++[findM z ⟨n,t⟩],true)
  else if (findM z ⟨n,t⟩).target∈seen then (out++[findM z ⟨n,t⟩],false)
  else J5 z t k (out++[findM z ⟨n,t⟩]) (seen++[(findM z ⟨n,t⟩).target]) (findM z ⟨n,t⟩).target:=rfl
def chaseM (z:Zone) (q:Ques):List Res×Bool:=J5 z q.typ 9 [] [q.name] q.name
theorem Bc3 (n top to:List UInt8):(replN n top to).1.length≤254:=by
 unfold replN;split
 ·split
  ·split
   ·assumption
   ·simp
  ·simp
 ·simp
theorem S5 (l:List Rec) (t:Int) (h:∀r∈l,r.data.host.length≤9223372036854775807):(saysM l t).target.length≤9223372036854775807:=by
 unfold saysM;cases ha:Ij1 l t with
 |some c=>
  unfold Ij1 at ha;split at ha
  ·cases ha
  ·exact h c (List.mem_of_find?_eq_some ha)
 |none=>simp only;split<;>simp
theorem Nz (z:Zone) (q:Ques) (hz:z.wf):(findM z q).target.length≤9223372036854775807:=by
 have hh:∀n,∀r∈allR z n,r.data.host.length≤9223372036854775807:=fun n r hr=>(hz.recs.2 r (Bf.1 hr).1).data.host;unfold findM;split
 ·split
  ·simp
  ·unfold Y2;cases h:y8 z q.name with
   |some x=>
    show x.target.length≤9223372036854775807;unfold y8 at h;cases h2:Hv8 z q.name with
    |none=>rw [h2] at h;cases h
    |some u=>
     rw [h2] at h;simp only [A4,Ak] at h;rw [←h];unfold Ql;split
     ·rename_i r rest _;have:=Bc3 q.name u r.data.host;simp only [Xt];split
      ·simp
      ·omega
     ·simp
   |none=>
    simp only;split
    ·exact S5 _ _ (hh _)
    ·unfold Xn;split
     ·simp only [B8];refine S5 _ _ fun r hr=> ?_;obtain ⟨x,hx,rfl⟩:=Dd.1 hr;exact hh _ x hx
     ·simp
 ·simp
theorem Fq7 (z:Zone) (q:Ques) (hz:z.wf) (hl:z.recs.length≤1000) (hq:q.name.length≤9223372036854775807):S Bs6 2 [z.pv,q.pv]=some [Gg (chaseM z q).1, .b (chaseM z q).2]:=by
 refine Jp7 (N:=1000) rfl ?_;have g1:=hz.origin;unfold Jl at g1;have key:Fc8.ev S 1000 [z.pv,q.pv]=some (.ret [Gg (chaseM z q).1, .b (chaseM z q).2]):=by
  refine Ir (α:=List Res×List (List UInt8)×List UInt8) (fun a=>[Gg a.1,Bh a.2.1, .s a.2.2]) (fun a=> .ret [Gg (J5 z q.typ (9 - a.1.length) a.1 a.2.1 a.2.2).1, .b (J5 z q.typ (9 - a.1.length) a.1 a.2.1 a.2.2).2])
   (fun a=>a.1.length≤8∧a.2.1.length≤100∧a.2.1.length=a.1.length+1∧a.2.2.length≤9223372036854775807) (fun a=>9 - a.1.length) ([],[q.name],q.name) ?_ ⟨by simp,by simp,by simp,hq⟩ (by simp) ?_
  ·simp (disch:=omega) only [EVM,EVC,EVR,Pb,xe,EVP,EV,simprocAttr]
  ·rintro ⟨out,seen,n⟩ ⟨i1,i2,i3,i4⟩;simp only at i1 i2 i3 i4 ⊢;have hk:9 - out.length=(8 - out.length)+1:=by omega
   have k1:=Cz1 z ⟨n,q.typ⟩ hz hl i4;have tt:=Nz z ⟨n,q.typ⟩ hz;rw [hk,O7];generalize hr:findM z ⟨n,q.typ⟩=r at*;have k2:=D5 r.target z.origin tt g1;have k3:=G1 seen r.target (by omega);rcases Aq (ix r) with h1|h1
   ·rw [if_neg (by simp [h1])];have h1':=h1;unfold ix at h1';simp only [Aw,Am,decide_eq_true_eq,ne_eq] at h1';obtain ⟨h2,h3⟩:=h1';have h4:¬(r.kind≠2∧r.kind≠3):=by omega
    by_cases h5:out.length=8
    ·right;rw [if_pos h5];have h6:((out++[r]).length:Int)=9:=by simp;omega
     refine ⟨?_,rfl⟩;rcases h2 with h2|h2<;>simp (disch:=omega) only [bw,k1,h2,h3,h6,EVM,EVC,EVR,Pb,xe,EVP,EV,simprocAttr]
    ·rw [if_neg h5];have h6:¬((out++[r]).length:Int)=9:=by simp;omega
     rcases Aq (under r.target z.origin) with h7|h7
     ·rw [if_neg (by simp [h7])];rw [h7] at k2;by_cases h8:r.target∈seen
      ·right;rw [if_pos h8];refine ⟨?_,rfl⟩;rcases h2 with h2|h2<;>simp (disch:=omega) only [bw,k1,k2,k3,h2,h3,h6,h8,EVM,EVC,EVR,Pb,xe,EVP,EV,simprocAttr]
      ·left;rw [if_neg h8];refine ⟨(out++[r],seen++[r.target],r.target),?_,⟨by simp only [Az,Df];omega,by simp only [Az,Df];omega,by simp only [Az,Df];omega,tt⟩,by simp only [Az,Df];omega,?_⟩
       ·rcases h2 with h2|h2<;>simp (disch:=omega) only [bw,k1,k2,k3,h2,h3,h6,h8,EVM,EVC,EVR,Pb,xe,EVP,EV,simprocAttr]
       ·have:9 - (out++[r]).length=8 - out.length:=by rw [Az,Df];omega
        simp only [this]
     ·right;rw [if_pos h7];rw [h7] at k2;refine ⟨?_,rfl⟩;rcases h2 with h2|h2<;>simp (disch:=omega) only [bw,k1,k2,h2,h3,h6,EVM,EVC,EVR,Pb,xe,EVP,EV,simprocAttr]
   ·right;rw [if_pos h1];unfold ix at h1;refine ⟨?_,rfl⟩;by_cases h2:r.kind=2
    ·have h3:r.target=[]:=by simpa [h2] using h1
     simp (disch:=omega) only [bw,k1,h2,h3,EVM,EVC,EVR,Pb,xe,EVP,EV,simprocAttr]
    ·by_cases h3:r.kind=3
     ·have h4:r.target=[]:=by simpa [h3] using h1
      simp (disch:=omega) only [bw,k1,h3,h4,EVM,EVC,EVR,Pb,xe,EVP,EV,simprocAttr]
     ·simp (disch:=omega) only [bw,k1,h2,h3,EVM,EVC,EVR,Pb,xe,EVP,EV,simprocAttr]
 simp (disch:=omega) only [bw,key,EVM,EVC,EVR,Pb,xe,EVP,EV,simprocAttr]
theorem Ms (P:Res→Prop) (z:Zone) (t:Int) (h:∀n,P (findM z ⟨n,t⟩)):∀(k:Nat) (out:List Res) (seen:List (List UInt8)) (n:List UInt8),(∀r∈out,P r)→∀r∈(J5 z t k out seen n).1,P r
 |0,out,seen,n,ho=>ho
 |k+1,out,seen,n,ho=>by
  have ho':∀r∈out++[findM z ⟨n,t⟩],P r:=fun r hr=>by
   rcases Bg.1 hr with hr|hr
   ·exact ho r hr
   ·rw [Bl.1 hr];exact h n
  unfold J5;split
  ·exact ho'
  ·split
   ·exact ho'
   ·split
    ·exact ho'
    ·split
     ·exact ho'
     ·exact Ms P z t h k _ _ _ ho'
theorem W6 (z:Zone) (t:Int):∀(k:Nat) (out:List Res) (seen:List (List UInt8)) (n:List UInt8),(J5 z t k out seen n).1.length≤out.length+k
 |0,out,seen,n=>by simp [J5]
 |k+1,out,seen,n=>by
  unfold J5;have hl:(out++[findM z ⟨n,t⟩]).length=out.length+1:=by simp
  split
  ·simp only;omega
  ·split
   ·simp only;omega
   ·split
    ·simp only;omega
    ·split
     ·simp only;omega
     ·have:=W6 z t k (out++[findM z ⟨n,t⟩]) (seen++[(findM z ⟨n,t⟩).target]) (findM z ⟨n,t⟩).target;omega
end Go.X.G
/- Responses: what the parts of one are. -/
namespace Go.X.G
open Go Go.X
def replyM (m:Msg) (code:Int):Msg:=⟨m.id,m.op,code,true,false,false,m.rd,false,false,m.cd,m.dok,if m.size≠0 then 1232 else 0,m.q,[],[],[]⟩
theorem Bc2 (m:Msg) (code:Int):S fk 2 [m.pv, .i .i64 code]=some [(replyM m code).pv]:=by
 refine Jp8 (N:=1) rfl ?_;unfold replyM;by_cases h:m.size=0
 ·simp (disch:=omega) only [Ij9,h,EVM,EVC,EVR,xe,EVP,EV,simprocAttr]
  try simp
 ·simp (disch:=omega) only [Ij9,h,EVM,EVC,EVR,xe,EVP,EV,simprocAttr]
  try simp
def Jh9 (t:Int):Bool:=decide (t=2)||decide (t=15)||decide (t=33)
def hostsF (out:List (List UInt8)):List Rec→List (List UInt8)
 |[]=>out
 |r::rs=>if Jh9 r.typ=true∧r.data.host∉out then hostsF (out++[r.data.host]) rs else hostsF out rs
theorem Mm:∀(l:List Rec) (out:List (List UInt8)),(hostsF out l).length≤out.length+l.length
 |[],out=>by simp [hostsF]
 |r::rs,out=>by
  simp only [hostsF];split
  ·have:=Mm rs (out++[r.data.host]);rw [Az,Df] at this;rw [A0];omega
  ·have:=Mm rs out;rw [A0];omega
theorem Ny:∀(l:List Rec) (out:List (List UInt8)),(∀r∈l,r.wf)→(∀h∈out,h.length≤9223372036854775807)→∀h∈hostsF out l,h.length≤9223372036854775807
 |[],out,_,ho=>ho
 |r::rs,out,hl,ho=>by
  simp only [hostsF];split
  ·refine Ny rs _ (fun x hx=>hl x (.tail _ hx)) fun h hh=> ?_;rcases Bg.1 hh with hh|hh
   ·exact ho h hh
   ·rw [Bl.1 hh];exact (hl r (.head _)).data.host
  ·exact Ny rs _ (fun x hx=>hl x (.tail _ hx)) ho
theorem Cy3 (l:List Rec) (hl:l.length≤1000):S An6 1 [Ag l]=some [Bh (hostsF [] l)]:=by
 refine Jp5 (N:=2000) rfl ?_;have key:Fc6.ev S 2000 [Ag l]=some (.yld 0 [Bh (hostsF [] l)]):=by
  refine Ex l (fun i (g:List (List UInt8))=>[Bh g, .i .i64 (i:Int)]) (fun i g r=> .yld 0 [Bh (hostsF g r)]) (fun i g=>g.length≤i) [] rfl (Cc _) (by omega) (fun i g c r hd hi hc hI=> ?_) (fun g hI=> ?_)
  ·left;have k1:=G1 g c.data.host (by omega);refine ⟨if Jh9 c.typ=true∧c.data.host∉g then g++[c.data.host] else g,?_,by split<;>(try rw [Az,Df])<;>omega,?_⟩
   ·unfold Jh9;by_cases h4:c.data.host∈g
    ·by_cases h1:c.typ=2
     ·simp (disch:=omega) only [U0,hc,h1,h4,k1,EVM,EVC,EVR,xe,EVP,EV,simprocAttr];simp
     ·by_cases h2:c.typ=15
      ·simp (disch:=omega) only [U0,hc,h2,h4,k1,EVM,EVC,EVR,xe,EVP,EV,simprocAttr];simp
      ·by_cases h3:c.typ=33
       ·simp (disch:=omega) only [U0,hc,h3,h4,k1,EVM,EVC,EVR,xe,EVP,EV,simprocAttr];simp
       ·simp (disch:=omega) only [U0,hc,h1,h2,h3,k1,EVM,EVC,EVR,xe,EVP,EV,simprocAttr];simp [h4]
    ·by_cases h1:c.typ=2
     ·simp (disch:=omega) only [U0,hc,h1,h4,k1,EVM,EVC,EVR,xe,EVP,EV,simprocAttr];simp
     ·by_cases h2:c.typ=15
      ·simp (disch:=omega) only [U0,hc,h2,h4,k1,EVM,EVC,EVR,xe,EVP,EV,simprocAttr];simp
      ·by_cases h3:c.typ=33
       ·simp (disch:=omega) only [U0,hc,h3,h4,k1,EVM,EVC,EVR,xe,EVP,EV,simprocAttr];simp
       ·simp (disch:=omega) only [U0,hc,h1,h2,h3,k1,EVM,EVC,EVR,xe,EVP,EV,simprocAttr];simp
   ·simp only [hostsF];split<;>rfl
  ·simp (disch:=omega) only [U0,EVM,EVC,EVR,xe,EVP,EV,simprocAttr]
   try simp [Out.goes,hostsF]
 simp (disch:=omega) only [U0,key,EVM,EVC,EVR,xe,EVP,EV,simprocAttr]
def tx (z:Zone) (h:List UInt8):List Rec:=findR z.recs h 1++findR z.recs h 28
theorem Ab8 (z:Zone) (h:List UInt8):(tx z h).length≤2*z.recs.length:=by have h1:=G0 z h 1;have h2:=G0 z h 28;unfold tx;rw [Az];omega
def lw (z:Zone) (h:List UInt8):List Rec:=if cutN z h=[] then [] else tx z h
theorem Et8 (z:Zone) (h:List UInt8):(lw z h).length≤2*z.recs.length:=by
 unfold lw;split
 ·simp
 ·exact Ab8 z h
theorem Z6 (z:Zone) (hs:List (List UInt8)) (hl:z.recs.length≤60) (hh:hs.length≤1000):S Bs4 2 [z.pv,Bh hs]=some [Ag (hs.flatMap (tx z))]:=by
 refine Jp3 (N:=2000) rfl ?_;have key:Fc5.ev S 2000 [z.pv,Bh hs]=some (.yld 0 [Ag ([]++hs.flatMap (tx z))]):=by
  refine Ex hs (fun i (g:List Rec)=>[Ag g, .i .i64 (i:Int)]) (fun i g r=> .yld 0 [Ag (g++r.flatMap (tx z))]) (fun i g=>g.length≤120*i) [] rfl (Cc _) (by omega) (fun i g c r hd hi hc hI=> ?_) (fun g hI=> ?_)
  ·left;have k1:=Mk z c 1 (by omega);have k2:=Mk z c 28 (by omega);have h1:=G0 z c 1;have h2:=G0 z c 28;refine ⟨g++findR z.recs c 1++findR z.recs c 28,?_,by rw [Az,Az];omega,by simp [tx]⟩;generalize findR z.recs c 1=f1 at*;generalize findR z.recs c 28=f2 at*;have a1:=Ix g f1 (by omega);have a2:=Ix (g++f1) f2 (by rw [Az];omega);simp (disch:=omega) only [Gt5,hc,k1,k2,a1,a2,EVM,EVC,EVR,xe,EVP,EV,simprocAttr]
  ·simp (disch:=omega) only [Gt5,EVM,EVC,EVR,xe,EVP,EV,simprocAttr]
   try simp [Out.goes]
 rw [Cy] at key;generalize hs.flatMap (tx z)=fm at*;simp (disch:=omega) only [Gt5,key,EVM,EVC,EVR,xe,EVP,EV,simprocAttr]
theorem Ev8 (z:Zone) (hs:List (List UInt8)) (hz:z.wf) (hl:z.recs.length≤60) (hh:hs.length≤1000) (hw:∀h∈hs,h.length≤9223372036854775807):S Bs5 2 [z.pv,Bh hs]=some [Ag (hs.flatMap (lw z))]:=by
 refine Jp6 (N:=2000) rfl ?_;have key:Fc7.ev S 2000 [z.pv,Bh hs]=some (.yld 0 [Ag ([]++hs.flatMap (lw z))]):=by
  refine Ex hs (fun i (g:List Rec)=>[Ag g, .i .i64 (i:Int)]) (fun i g r=> .yld 0 [Ag (g++r.flatMap (lw z))]) (fun i g=>g.length≤120*i) [] rfl (Cc _) (by omega) (fun i g c r hd hi hc hI=> ?_) (fun g hI=> ?_)
  ·left;have k0:=Bq9 z c hz (by omega) (hw c (A6 hc));have k1:=Mk z c 1 (by omega);have k2:=Mk z c 28 (by omega);have h1:=G0 z c 1;have h2:=G0 z c 28;by_cases h3:cutN z c=[]
   ·refine ⟨g,?_,by omega,by simp [lw,h3]⟩;rw [h3] at k0;simp (disch:=omega) only [Ew4,hc,k0,ne_eq,not_true,decide_false,EVM,EVC,EVR,xe,EVP,EV,simprocAttr]
   ·refine ⟨g++findR z.recs c 1++findR z.recs c 28,?_,by rw [Az,Az];omega,by simp [tx,lw,h3]⟩;have h4:decide (cutN z c≠[])=true:=by simp [h3]
    rw [h4] at k0;generalize findR z.recs c 1=f1 at*;generalize findR z.recs c 28=f2 at*;have a1:=Ix g f1 (by omega);have a2:=Ix (g++f1) f2 (by rw [Az];omega);simp (disch:=omega) only [Ew4,hc,k0,k1,k2,a1,a2,EVM,EVC,EVR,xe,EVP,EV,simprocAttr]
  ·simp (disch:=omega) only [Ew4,EVM,EVC,EVR,xe,EVP,EV,simprocAttr]
   try simp [Out.goes]
 rw [Cy] at key;generalize hs.flatMap (lw z)=fm at*;simp (disch:=omega) only [Ew4,key,EVM,EVC,EVR,xe,EVP,EV,simprocAttr]
end Go.X.G
/- Responses; the law LookupResponds. -/
namespace Go.X.G
open Go Go.X
def H0 (name:List UInt8) (r:Res):Rec:=⟨name,5,((r.recs[0]?).map Rec.ttl).getD 0,⟨false,0,0,r.target,[],[],0,0,0,0,0,0,0⟩⟩
def Nf (name:List UInt8) (r:Res):List Rec:=
 if r.kind=2∨r.kind=1 then r.recs else if r.kind=3 then (if r.target=[] then r.recs else r.recs++[H0 name r]) else []
def ansF (name:List UInt8) (acc:List Rec):List Res→List Rec
 |[]=>acc
 |r::rs=>ansF r.target (acc++Nf name r) rs
structure RsOk (l:List Res):Prop where
 len:l.length≤9
 recs:∀r∈l,r.recs.length≤60
 red:∀r∈l,r.kind=3→r.recs≠[]
theorem j9 (name:List UInt8) (r:Res) (h:r.recs.length≤60):(Nf name r).length≤61:=by
 unfold Nf;split
 ·omega
 ·split
  ·split
   ·omega
   ·rw [Az,Df];omega
  ·simp
theorem Ab2:∀(l:List Res) (name:List UInt8) (acc:List Rec),(∀r∈l,r.recs.length≤60)→(ansF name acc l).length≤acc.length+61*l.length
 |[],name,acc,_=>by simp [ansF]
 |r::rs,name,acc,h=>by have h1:=j9 name r (h r (.head _));have:=Ab2 rs r.target (acc++Nf name r) fun x hx=>h x (.tail _ hx);rw [Az] at this;simp only [ansF,A0];omega
theorem Hv4 (z:Zone) (m:Msg) (l:List Res) (p3 p4 p5:PV) (h:RsOk l):Ff0.ev S 1000 [z.pv,m.pv,Gg l,p3,p4]=some (.yld 0 [Ag (ansF m.q.name [] l)]):=by
 have hl:=h.len;refine Ex l (fun i (g:List UInt8×List Rec)=>[.s g.1, .i .i64 (i:Int),Ag g.2]) (fun i g r=> .yld 0 [Ag (ansF g.1 g.2 r)]) (fun i g=>g.2.length≤61*i) (m.q.name,[]) (by simp (disch:=omega) only [EVM,EVC,EVR,Pb,xe,EVP,EV,simprocAttr]) (Cc _) (by omega) (fun i g c r hd hi hc hI=> ?_) (fun g hI=> ?_)
 ·left;obtain ⟨nm,g⟩:=g;simp only at hI;have hcm:=A6 hc;have h1:=h.recs c hcm;have a1:=Ix g c.recs (by omega);have hal:=j9 nm c h1;refine ⟨(c.target,g++Nf nm c),?_,by simp only [Az];omega,rfl⟩;unfold Nf;by_cases h2:c.kind=2
  ·simp (disch:=omega) only [K6,hc,h2,a1,EVM,EVC,EVR,Pb,xe,EVP,EV,simprocAttr]
   try simp
  ·by_cases h3:c.kind=1
   ·simp (disch:=omega) only [K6,hc,h2,h3,a1,EVM,EVC,EVR,Pb,xe,EVP,EV,simprocAttr]
    try simp
   ·by_cases h4:c.kind=3
    ·have h5:=h.red c hcm h4;obtain ⟨r0,rr,hr⟩:=List.exists_cons_of_ne_nil h5;have hix:Gt 16 (Ag c.recs) (.i .i64 0)=some r0.pv:=by rw [Jv _ _ _ (by omega),hr];rfl
     have h8:(c.recs[0]?).map Rec.ttl=some r0.ttl:=by rw [hr];rfl
     have h9:(g++c.recs).length≤1000:=by rw [Az];omega
     by_cases h6:c.target=[]
     ·simp (disch:=omega) only [K6,hc,h2,h3,h4,h6,a1,EVM,EVC,EVR,Pb,xe,EVP,EV,simprocAttr]
      try simp [h6]
     ·have h7:g++(c.recs++[H0 nm c])=(g++c.recs)++[H0 nm c]:=by simp
      simp only [h4,h6,if_true,if_false,h7,show¬((3:Int)=2∨(3:Int)=1) by omega];unfold H0;rw [h8];generalize g++c.recs=gc at*;simp (disch:=omega) only [K6,hc,h4,h6,a1,hix,B8,EVM,EVC,EVR,Pb,xe,EVP,EV,simprocAttr]
    ·simp (disch:=omega) only [K6,hc,h2,h3,h4,EVM,EVC,EVR,Pb,xe,EVP,EV,simprocAttr]
     try simp [h2,h3,h4]
 ·simp (disch:=omega) only [K6,EVM,EVC,EVR,Pb,xe,EVP,EV,simprocAttr]
  try simp [Out.goes,ansF]
def Ff4 (z:Zone) (o:Msg) (last:Res):Msg:=
 if last.kind=4 then {o with auth:=last.recs,ext:=(hostsF [] last.recs).flatMap (lw z)}
 else if last.kind=5 then {o with auth:=soaR z}
 else if last.kind=6 then {o with auth:=soaR z,code:=3}
 else if last.kind=1 then {o with ext:=(hostsF [] last.recs).flatMap (tx z)}
 else if last.kind=3∧last.target=[] then {o with code:=6}
 else o
def Bc0 (z:Zone) (m:Msg) (l:List Res) (ok:Bool):Msg:=
 match l[0]?,l.getLast? with
 |some r,some last=>
  if r.kind=0 then replyM m 5
  else if ok=false then replyM m 2
  else Ff4 z {replyM m 0 with aa:=decide (r.kind≠(4:Int)),ans:=ansF m.q.name [] l} last
 |_,_=>replyM m 0
def respondM (z:Zone) (m:Msg):Msg:=
 if m.op≠0∨m.q.typ=251∨m.q.typ=252 then replyM m 4 else Bc0 z m (chaseM z m.q).1 (chaseM z m.q).2
theorem jt (z:Zone) (t:Int):∀(k:Nat) (out:List Res) (seen:List (List UInt8)) (n:List UInt8),out≠[]→(J5 z t k out seen n).1≠[]
 |0,out,seen,n,h=>h
 |k+1,out,seen,n,h=>by
  rw [O7];split
  ·simp
  ·split
   ·simp
   ·split
    ·simp
    ·split
     ·simp
     ·exact jt z t k _ _ _ (by simp)
theorem Cd1 (z:Zone) (q:Ques):(chaseM z q).1≠[]:=by
 unfold chaseM;rw [O7];split
 ·simp
 ·split
  ·simp
  ·split
   ·simp
   ·split
    ·simp
    ·exact jt z _ _ _ _ _ (by simp)
theorem Uk (z:Zone) (q:Ques) (hl:z.recs.length≤60):(findM z q).recs.length≤60∧((findM z q).kind=3→(findM z q).recs≠[]):=by
 have hs:∀(l:List Rec) (t:Int),l.length≤60→(saysM l t).recs.length≤60∧(saysM l t).kind≠3:=fun l t h=>by
  unfold saysM;split
  ·simp
  ·split
   ·simp
   ·have:=Pp l t;exact ⟨by simp only;omega,by simp⟩
 unfold findM;split
 ·split
  ·have:=G0 z (cutN z q.name) 2;exact ⟨by simp only;omega,fun h=>by simp at h⟩
  ·unfold Y2;cases h:y8 z q.name with
   |some x=>
    show x.recs.length≤60∧(x.kind=3→x.recs≠[]);unfold y8 at h;cases h2:Hv8 z q.name with
    |none=>rw [h2] at h;cases h
    |some u=>
     rw [h2] at h;simp only [A4,Ak] at h;rw [←h];unfold Ql;split<;>simp
   |none=>
    simp only;split
    ·have:=hs (allR z q.name) q.typ (by have:=Sv z q.name;omega);exact ⟨this.1,fun h=>absurd h this.2⟩
    ·unfold Xn;split
     ·simp only [B8];have:=hs ((allR z (starN (encN z q.name))).map (R4 q.name)) q.typ (by rw [Eb];have:=Sv z (starN (encN z q.name));omega);exact ⟨this.1,fun h=>absurd h this.2⟩
     ·simp
 ·simp
theorem Aq7 (z:Zone) (q:Ques) (hl:z.recs.length≤60):RsOk (chaseM z q).1:=by
 refine ⟨by simpa [chaseM] using W6 z q.typ 9 [] [q.name] q.name,?_,?_⟩
 ·exact Ms (fun r=>r.recs.length≤60) z q.typ (fun n=>(Uk z ⟨n,q.typ⟩ hl).1) 9 [] [q.name] q.name (by simp)
 ·exact Ms (fun r=>r.kind=3→r.recs≠[]) z q.typ (fun n=>(Uk z ⟨n,q.typ⟩ hl).2) 9 [] [q.name] q.name (by simp)
theorem Fk0 (z:Zone) (q:Ques) (hz:z.wf) (hq:q.name.length≤9223372036854775807):∀r∈(findM z q).recs,r.wf:=by
 have hs:∀(l:List Rec) (t:Int),(∀r∈l,r.wf)→∀r∈(saysM l t).recs,r.wf:=fun l t h r hr=>by
  unfold saysM at hr;cases ha:Ij1 l t with
  |some c=>
   rw [ha] at hr;unfold Ij1 at ha;split at ha
   ·cases ha
   ·simp only [Bl] at hr;rw [hr];exact h c (List.mem_of_find?_eq_some ha)
  |none=>
   rw [ha] at hr;simp only at hr;split at hr
   ·cases hr
   ·simp only at hr;unfold typedR at hr;split at hr
    ·exact h r hr
    ·exact h r (Bf.1 hr).1
 have hal:∀n,∀r∈allR z n,r.wf:=fun n r hr=>hz.recs.2 r (Bf.1 hr).1;intro r hr;unfold findM at hr;split at hr
 ·split at hr
  ·exact O3 hz hr
  ·unfold Y2 at hr;cases h:y8 z q.name with
   |some x=>
    rw [h] at hr;simp only at hr;unfold y8 at h;cases h2:Hv8 z q.name with
    |none=>rw [h2] at h;cases h
    |some u=>
     rw [h2] at h;simp only [A4,Ak] at h;rw [←h] at hr;unfold Ql at hr;split at hr
     ·rename_i r0 rest hf;simp only [Bl] at hr;rw [hr];exact O3 hz (n:=u) (t:=39) (by rw [hf];exact .head _)
     ·cases hr
   |none=>
    rw [h] at hr;simp only at hr;split at hr
    ·exact hs _ _ (hal _) r hr
    ·unfold Xn at hr;split at hr
     ·simp only [B8] at hr;refine hs _ _ (fun x hx=> ?_) r hr;obtain ⟨y,hy,rfl⟩:=Dd.1 hx;have hy:=hal _ y hy;exact ⟨hq,hy.typ,hy.ttl,hy.data⟩
     ·cases hr
 ·cases hr
theorem js (z:Zone) (t:Int) (hz:z.wf):∀(k:Nat) (out:List Res) (seen:List (List UInt8)) (n:List UInt8),n.length≤9223372036854775807→(∀r∈out,∀x∈r.recs,x.wf)→∀r∈(J5 z t k out seen n).1,∀x∈r.recs,x.wf
 |0,out,seen,n,_,ho=>ho
 |k+1,out,seen,n,hn,ho=>by
  have ho':∀r∈out++[findM z ⟨n,t⟩],∀x∈r.recs,x.wf:=fun r hr=>by
   rcases Bg.1 hr with hr|hr
   ·exact ho r hr
   ·rw [Bl.1 hr];exact Fk0 z ⟨n,t⟩ hz hn
  rw [O7];split
  ·exact ho'
  ·split
   ·exact ho'
   ·split
    ·exact ho'
    ·split
     ·exact ho'
     ·exact js z t hz k _ _ _ (Nz z ⟨n,t⟩ hz) ho'
theorem jr (z:Zone) (q:Ques) (hz:z.wf) (hq:q.name.length≤9223372036854775807):∀r∈(chaseM z q).1,∀x∈r.recs,x.wf:=js z q.typ hz 9 [] [q.name] q.name hq (by simp)
theorem Eh0 (z:Zone):(soaR z).length≤1:=by unfold soaR;split<;>simp
theorem Es3 (l:List Res) (h:l≠[]) (hl:l.length≤9):Gt 5 (Gg l) (.i .i64 ((l.length:Int) - 1))=(l.getLast?).map Res.pv:=by have hp:=Bw.2 h;rw [Yt _ _ _ (by omega),show ((l.length:Int) - 1).toNat=l.length - 1 by omega,List.getLast?_eq_getElem?]
end Go.X.G
/- Negative responses, in plain words. -/
namespace Go.X.G
open Go Go.X
structure NegOk (z:Zone) (x:Msg):Prop where
 nx:x.code=3→x.aa=true∧x.ext=[]∧x.auth=soaR z
 aa:x.code=0→x.ans=[]→x.aa=true→x.auth=soaR z∧x.ext=[]
 ref:x.code=0→x.ans=[]→x.aa=false→∃r l,x.auth=r::l∧r.typ=2
end Go.X.G
/- The law LookupResponds. -/
namespace Go.X.G
open Go Go.X
theorem Ad5 (z:Zone) (m:Msg) (hz:z.wf) (hl:z.recs.length≤60) (hq:m.q.name.length≤9223372036854775807):S Cj6 2 [z.pv,m.pv]=some [(respondM z m).pv]:=by
 refine Jt3 (N:=1000) rfl ?_;have k1:=Bc2 m;unfold respondM;by_cases h1:m.op=0
 ·by_cases h2:m.q.typ=251
  ·rw [if_pos (.inr (.inl h2))];have k1:=k1 4;generalize replyM m 4=o at*;simp (disch:=omega) only [K6,h1,h2,k1,EVM,EVC,EVR,Pb,xe,EVP,EV,simprocAttr]
  ·by_cases h3:m.q.typ=252
   ·rw [if_pos (.inr (.inr h3))];have k1:=k1 4;generalize replyM m 4=o at*;simp (disch:=omega) only [K6,h1,h3,k1,EVM,EVC,EVR,Pb,xe,EVP,EV,simprocAttr]
   ·rw [if_neg (by simp [h1,h2,h3])];have k2:=Fq7 z m.q hz (by omega) hq;have hrs:=Aq7 z m.q hl;have hwf:=jr z m.q hz hq;have hne:=Cd1 z m.q;generalize chaseM z m.q=cm at*;obtain ⟨l,ok⟩:=cm;simp only at k2 hrs hwf hne ⊢;have hlen:=hrs.len;obtain ⟨r,rest,hr⟩:=List.exists_cons_of_ne_nil hne;have hr0:l[0]? =some r:=by rw [hr];rfl
    obtain ⟨last,hla⟩:∃x,l.getLast? =some x:=⟨_,List.getLast?_eq_some_getLast hne⟩;have hlm:last∈l:=List.mem_of_getLast? hla;have hli:=Es3 l hne hlen;rw [hla,A4] at hli;have hi0:Gt 5 (Gg l) (.i .i64 0)=some r.pv:=by rw [Yt _ _ _ (by omega)];simp [hr0]
    unfold Bc0;rw [hr0,hla];simp only;by_cases h4:r.kind=0
    ·rw [if_pos h4];have k1:=k1 5;generalize replyM m 5=o at*;simp (disch:=omega) only [K6,h1,h2,h3,k1,k2,hi0,h4,EVM,EVC,EVR,Pb,xe,EVP,EV,simprocAttr]
    ·rw [if_neg h4];cases ok with
     |false=>
      rw [if_pos rfl];have k1:=k1 2;generalize replyM m 2=o at*;simp (disch:=omega) only [K6,h1,h2,h3,k1,k2,hi0,h4,EVM,EVC,EVR,Pb,xe,EVP,EV,simprocAttr]
     |true=>
      rw [if_neg (by simp)];have k1:=k1 0;have k3:=fun p3 p4=>Hv4 z m l p3 p4 .u hrs;have k4:=Cy3 last.recs (by have:=hrs.recs last hlm;omega);have hhl:=Mm last.recs [];have hhw:=Ny last.recs [] (hwf last hlm) (by simp);have hrl:=hrs.recs last hlm;rw [By] at hhl;have k5:=Ev8 z (hostsF [] last.recs) hz hl (by omega) hhw;have k6:=Z6 z (hostsF [] last.recs) hl (by omega);have k7:=Hs7 z (by omega);unfold Ff4;generalize replyM m 0=o at*;generalize ansF m.q.name [] l=an at*;generalize (hostsF [] last.recs).flatMap (lw z)=gl at*;generalize (hostsF [] last.recs).flatMap (tx z)=ad at*;generalize hostsF [] last.recs=ho at*;generalize soaR z=so at*;by_cases e4:last.kind=4
      ·simp only [e4,if_true];simp (disch:=omega) only [K6,h1,h2,h3,k1,k2,k3,k4,k5,hi0,hli,h4,e4,EVM,EVC,EVR,Pb,xe,EVP,EV,simprocAttr]
      ·by_cases e5:last.kind=5
       ·simp only [e5,if_true,show¬(5:Int)=4 by omega,if_false];simp (disch:=omega) only [K6,h1,h2,h3,k1,k2,k3,k7,hi0,hli,h4,e5,EVM,EVC,EVR,Pb,xe,EVP,EV,simprocAttr]
       ·by_cases e6:last.kind=6
        ·simp only [e6,if_true,show¬(6:Int)=4 by omega,show¬(6:Int)=5 by omega,if_false];simp (disch:=omega) only [K6,h1,h2,h3,k1,k2,k3,k7,hi0,hli,h4,e6,EVM,EVC,EVR,Pb,xe,EVP,EV,simprocAttr]
        ·by_cases e1:last.kind=1
         ·simp only [e1,if_true,show¬(1:Int)=4 by omega,show¬(1:Int)=5 by omega,show¬(1:Int)=6 by omega,if_false];simp (disch:=omega) only [K6,h1,h2,h3,k1,k2,k3,k4,k6,hi0,hli,h4,e1,EVM,EVC,EVR,Pb,xe,EVP,EV,simprocAttr]
         ·by_cases e3:last.kind=3
          ·by_cases et:last.target=[]
           ·simp only [e3,et,if_true,show¬(3:Int)=4 by omega,show¬(3:Int)=5 by omega,show¬(3:Int)=6 by omega,show¬(3:Int)=1 by omega,if_false,and_self];simp (disch:=omega) only [K6,h1,h2,h3,k1,k2,k3,hi0,hli,h4,e3,et,EVM,EVC,EVR,Pb,xe,EVP,EV,simprocAttr]
           ·simp only [e3,et,show¬(3:Int)=4 by omega,show¬(3:Int)=5 by omega,show¬(3:Int)=6 by omega,show¬(3:Int)=1 by omega,if_false,and_false];simp (disch:=omega) only [K6,h1,h2,h3,k1,k2,k3,hi0,hli,h4,e3,et,EVM,EVC,EVR,Pb,xe,EVP,EV,simprocAttr]
          ·simp only [e1,e3,e4,e5,e6,if_false,false_and];simp (disch:=omega) only [K6,h1,h2,h3,k1,k2,k3,hi0,hli,h4,e1,e3,e4,e5,e6,EVM,EVC,EVR,Pb,xe,EVP,EV,simprocAttr]
 ·rw [if_pos (.inl h1)];have k1:=k1 4;generalize replyM m 4=o at*;simp (disch:=omega) only [K6,h1,k1,EVM,EVC,EVR,Pb,xe,EVP,EV,simprocAttr]
end Go.X.G
/- The law LookupResponds: the row's own part. -/
namespace Go.X.G
open Go Go.X
theorem Y7 (f:List UInt8→List Rec) (k:Nat) (h:∀x,(f x).length≤k):∀l:List (List UInt8),(l.flatMap f).length≤k*l.length
 |[]=>by simp
 |x::r=>by have h1:=Y7 f k h r;have h2:=h x;rw [G2,Az,A0,Nat.mul_add];omega
end Go.X.G
/- The response of a zone is of the kind that belongs to what the zone says; the law TrustServer. -/
namespace Go.X.G
open Go Go.X
theorem Ek3:∀(l:List Res) (name:List UInt8) (acc:List Rec),Jl name→(∀r∈l,(∀x∈r.recs,x.wf)∧Jl r.target)→(∀x∈acc,x.wf)→∀x∈ansF name acc l,x.wf
 |[],_,_,_,_,ha=>ha
 |r::l,name,acc,hn,hr,ha=>by
  refine Ek3 l r.target _ (hr r (.head _)).2 (fun y hy=>hr y (.tail _ hy)) fun x hx=> ?_;rcases Bg.1 hx with hx|hx
  ·exact ha x hx
  ·obtain ⟨h1,h2⟩:=hr r (.head _);have hc:(H0 name r).wf:=by
    refine ⟨hn,by unfold H0 Is;simp,?_,⟨by unfold H0 Ex2;simp,by unfold H0 Ex2;simp,h2,by unfold H0 Jl;simp,by unfold H0 Jl;simp,by unfold H0 Is;simp,by unfold H0 Is;simp,by unfold H0 Is;simp,by unfold H0 Is;simp,by unfold H0 Is;simp,by unfold H0 Is;simp,by unfold H0 Ex2;simp⟩⟩;show Is (((r.recs[0]?).map Rec.ttl).getD 0);cases h:r.recs[0]? with
    |none=>unfold Is;simp
    |some y=>exact (h1 y (A6 h)).ttl
   unfold Nf at hx;split at hx
   ·exact h1 x hx
   ·split at hx
    ·split at hx
     ·exact h1 x hx
     ·rcases Bg.1 hx with hx|hx
      ·exact h1 x hx
      ·rw [Bl.1 hx];exact hc
    ·cases hx
theorem Oq {l:List Rec} (n:Nat) (hl:l.length≤n) (hn:n≤1000000) (h:∀x∈l,x.wf):Ov l:=⟨by omega,h⟩
theorem dc {m:Msg} {c:Int} (hi:Is m.id) (ho:Is m.op) (hq:m.q.wf) (hc:Is c):(replyM m c).wf:=
 ⟨hi,ho,hc,by unfold replyM Is;simp only;split<;>omega,hq,⟨by simp [replyM],fun x hx=>by simp [replyM] at hx⟩,⟨by simp [replyM],fun x hx=>by simp [replyM] at hx⟩,⟨by simp [replyM],fun x hx=>by simp [replyM] at hx⟩⟩
theorem m8 (z:Zone) (m:Msg) (hz:z.wf) (hl:z.recs.length≤60) (hi:Is m.id) (ho:Is m.op) (hq:m.q.wf):MOk (respondM z m):=by
 have bad:∀c:Int,Is c→MOk (replyM m c):=fun c hc=>⟨dc hi ho hq hc,by simp [replyM],by simp [replyM],by simp [replyM]⟩;have i0:Is 0:=by unfold Is;simp
 have hqn:m.q.name.length≤9223372036854775807:=hq.name;unfold respondM;split
 ·exact bad 4 (by unfold Is;simp)
 ·have hrs:=Aq7 z m.q hl;have hcw:=jr z m.q hz hqn;have hct:∀r∈(chaseM z m.q).1,r.target.length≤9223372036854775807:=Ms (fun r=>r.target.length≤9223372036854775807) z m.q.typ (fun n=>Nz z ⟨n,m.q.typ⟩ hz) 9 [] [m.q.name] m.q.name (by simp);generalize (chaseM z m.q).1=l at*;generalize (chaseM z m.q).2=ok at*;unfold Bc0;split
  ·rename_i r last h0 h1;split
   ·exact bad 5 (by unfold Is;simp)
   ·split
    ·exact bad 2 (by unfold Is;simp)
    ·have ha:=Ab2 l m.q.name [] hrs.recs;have haw:=Ek3 l m.q.name [] hqn (fun r hr=>⟨hcw r hr,hct r hr⟩) (by simp);have hn:=hrs.len;have hlm:=List.mem_of_getLast? h1;have hlr:=hrs.recs last hlm;have hlw:=hcw last hlm;have hh:=Mm last.recs [];have hs:=Eh0 z;have hsw:∀x∈soaR z,x.wf:=fun x hx=>by
      unfold soaR at hx;cases e:findR z.recs z.origin 6 with
      |nil=>rw [e] at hx;cases hx
      |cons t rest=>
       rw [e] at hx;have hx:=Bl.1 hx;have hsf:=O3 hz (show t∈findR z.recs z.origin 6 by rw [e];exact .head _);rw [hx];exact ⟨hsf.name,hsf.typ,by simp only;split<;>first|exact hsf.ttl|exact hsf.data.e,hsf.data⟩
     have haa:∀h,∀x∈tx z h,x.wf:=fun h x hx=>by rcases Bg.1 hx with hx|hx<;>exact O3 hz hx
     have hgg:∀h,∀x∈lw z h,x.wf:=fun h x hx=>by
      unfold lw at hx;split at hx
      ·cases hx
      ·exact haa h x hx
     have hgw:∀x∈(hostsF [] last.recs).flatMap (lw z),x.wf:=fun x hx=>by obtain ⟨h,_,hx⟩:=List.mem_flatMap.1 hx;exact hgg h x hx
     have hdw:∀x∈(hostsF [] last.recs).flatMap (tx z),x.wf:=fun x hx=>by obtain ⟨h,_,hx⟩:=List.mem_flatMap.1 hx;exact haa h x hx
     have hg:=Y7 (lw z) 120 (fun x=>by have:=Et8 z x;omega) (hostsF [] last.recs);have hd:=Y7 (tx z) 120 (fun x=>by have:=Ab8 z x;omega) (hostsF [] last.recs);rw [By] at ha hh;have hw0:=dc (c:=0) hi ho hq i0;unfold Ff4;generalize ansF m.q.name [] l=an at*;generalize (hostsF [] last.recs).flatMap (lw z)=gl at*;generalize (hostsF [] last.recs).flatMap (tx z)=ad at*;have han:Ov an:=Oq 100000 (by omega) (by omega) haw;have hnil:Ov []:=⟨by simp,fun x hx=>by cases hx⟩;have hau:Ov last.recs:=Oq 100000 (by omega) (by omega) hlw;have hso:Ov (soaR z):=Oq 100000 (by omega) (by omega) hsw;have hgl:Ov gl:=Oq 100000 (by omega) (by omega) hgw;have had:Ov ad:=Oq 100000 (by omega) (by omega) hdw;have ho0:Is (replyM m 0).op:=ho;split
     ·exact ⟨⟨hi,ho,i0,hw0.size,hq,han,hau,hgl⟩,by simp only;omega,by simp only;omega,by simp only;omega⟩
     ·split
      ·exact ⟨⟨hi,ho,i0,hw0.size,hq,han,hso,hnil⟩,by simp only;omega,by simp only;omega,by simp [replyM]⟩
      ·split
       ·exact ⟨⟨hi,ho,by unfold Is;simp,hw0.size,hq,han,hso,hnil⟩,by simp only;omega,by simp only;omega,by simp [replyM]⟩
       ·split
        ·exact ⟨⟨hi,ho,i0,hw0.size,hq,han,hnil,had⟩,by simp only;omega,by simp [replyM],by simp only;omega⟩
        ·split
         ·exact ⟨⟨hi,ho,by unfold Is;simp,hw0.size,hq,han,hnil,hnil⟩,by simp only;omega,by simp [replyM],by simp [replyM]⟩
         ·exact ⟨⟨hi,ho,i0,hw0.size,hq,han,hnil,hnil⟩,by simp only;omega,by simp [replyM],by simp [replyM]⟩
  ·exact bad 0 i0
theorem Ar8 {z:Zone} {q:Ques} (h:(findM z q).kind≠0):under q.name z.origin=true:=by
 unfold findM at h;split at h
 ·assumption
 ·exact absurd rfl h
theorem Cy4 (z:Zone) (q:Ques):(Y2 z q).kind≠4:=by
 unfold Y2;split
 ·rename_i x hr;unfold y8 at hr;obtain ⟨u,_,e⟩:=Ax.1 hr;rw [←e];unfold Ql;split<;>simp [Ij3]
 ·split
  ·show (saysM (allR z q.name) q.typ).kind≠4;rcases says_kind (allR z q.name) q.typ with k|k|k<;>rw [k.1]<;>decide
  ·unfold Xn;split
   ·show (saysM ((allR z (starN (encN z q.name))).map (R4 q.name)) q.typ).kind≠4;rcases says_kind ((allR z (starN (encN z q.name))).map (R4 q.name)) q.typ with k|k|k<;>rw [k.1]<;>decide
   ·show (6:Int)≠4;decide
theorem Fj9 {z:Zone} {q:Ques} (h:(findM z q).kind=4):∀x∈(findM z q).recs,x.name=(findM z q).owner∧under (findM z q).owner z.origin=true:=by
 unfold findM at h ⊢;split
 ·rename_i hu;rw [if_pos hu] at h;split
  ·rename_i hc;intro x hx;obtain ⟨h1,h2,_⟩:=J2.1 hx;refine ⟨h2,?_⟩;obtain ⟨_,g2⟩:=Nc z q.name z.recs [] (.inl rfl);obtain ⟨_,g3,_⟩:=g2 hc.1;rcases g3 with g3|⟨r,hr,g3,g4⟩
   ·exact absurd g3 hc.1
   ·obtain ⟨_,_,g5⟩:=T2.1 g3;show under (cutN z q.name) z.origin=true;unfold cutN;rw [←g4];exact g5
  ·rename_i hc;rw [if_neg hc] at h;exact absurd h (Cy4 z q)
 ·rename_i hu;rw [if_neg hu] at h;simp [Ij3] at h
structure KindOk (z:Zone) (q:Ques) (k:Int) (c:List UInt8×List (List UInt8)×Bool):Prop where
 ans:(findM z q).kind=1→k=1
 nodata:(findM z q).kind=5→k=4
 nx:(findM z q).kind=6→k=5
 ref:(findM z q).kind=4→k=3∧c.1=(findM z q).owner∧c.2.2=true
theorem Cd0 {z:Zone} {q:Ques} (h:(findM z q).kind≠2) (h3:(findM z q).kind≠3):(chaseM z q).1=[findM z q]∧(chaseM z q).2=true:=by
 have hb:ix (findM z q)=false:=by unfold ix;simp [h,h3]
 unfold chaseM;rw [O7];have hb':ix (findM z ⟨q.name,q.typ⟩)=false:=hb;rw [if_pos hb'];exact ⟨rfl,rfl⟩
def qM (q:Ques):Msg:=⟨0,0,0,false,false,false,false,false,false,false,false,0,q,[],[],[]⟩
theorem Ix6 {z:Zone} (ho:ZOk z):∃s,soaR z=[s]∧s.name=z.origin∧s.typ=6:=by
 obtain ⟨r,e⟩:=List.length_eq_one_iff.1 ho.soa;have hm:r∈findR z.recs z.origin 6:=by rw [e];exact .head _
 obtain ⟨_,h2,h3⟩:=J2.1 hm;unfold soaR;rw [e];exact ⟨_,rfl,h2,h3⟩
theorem Cy9 (t:Int) (n:List UInt8):Rx [] t 8 n=([],n):=rfl
theorem Es6 {m:Msg} {zone:List UInt8} (h:(m.resp && decide (m.op=0) && (decide (m.code=0)||decide (m.code=3)) && !m.tc)=true) (hh:Y3 m.ans m.q.name m.q.typ=true):kindM m zone=1:=by
 have hfo:Rx m.ans m.q.typ 8 m.q.name=([],m.q.name):=by show (if Y3 m.ans m.q.name m.q.typ=true then (([],m.q.name):List (List UInt8)×List UInt8) else _)=_;rw [if_pos hh]
 unfold kindM;rw [if_pos h,hfo];show (if Y3 m.ans m.q.name m.q.typ=true then (1:Int) else _)=1;exact if_pos hh
theorem z8 {m:Msg} {zone:List UInt8} {s:Rec} (h:(m.resp && decide (m.op=0) && (decide (m.code=0)||decide (m.code=3)) && !m.tc)=true) (ha:m.ans=[]) (hs:m.auth=[s]) (ht:s.typ=6) (hu:under m.q.name s.name=true):kindM m zone=if m.code=3 then 5 else 4:=by
 have hfir:(J1 m 6 []).isSome=true:=by
  unfold J1;rw [hs];have:Ak2 m 6 [] s=true:=by unfold Ak2;rw [ht,hu];simp
  rw [J9 this];rfl
 unfold kindM;rw [if_pos h,ha,Cy9];show (if Y3 [] m.q.name m.q.typ=true then (1:Int) else if ([]:List (List UInt8))≠[] then 2 else if (J1 m 6 []).isSome=true then (if m.code=3 then 5 else 4) else _)=_;rw [if_neg (by simp [Y3]),if_neg (by simp),if_pos hfir]
theorem Es4 {m:Msg} {zone:List UInt8} {r:Rec} {l:List Rec} (h:(m.resp && decide (m.op=0) && (decide (m.code=0)||decide (m.code=3)) && !m.tc)=true) (hc:m.code=0) (hz:zone≠[]) (ha:m.ans=[]) (hs:m.auth=r::l) (ht:∀x∈r::l,x.typ=2) (hu:under m.q.name r.name=true) (hn:r.name≠zone) (hv:under r.name zone=true):
  kindM m zone=3∧Bk4 m zone=some r:=by
 have hfir:(J1 m 6 []).isSome=false:=by unfold J1;rw [hs,Option.isSome_eq_false_iff,Ck,List.find?_eq_none];intro x hx;unfold Ak2;rw [ht x hx];simp
 have href:Bk4 m zone=some r:=by
  unfold Bk4;rw [if_neg hz];unfold J1;rw [hs];have:Ak2 m 2 zone r=true:=by unfold Ak2;rw [ht r (.head _),hu,hv];simp [hn]
  rw [J9 this]
 refine ⟨?_,href⟩;unfold kindM;rw [if_pos h,ha,Cy9];show (if Y3 [] m.q.name m.q.typ=true then (1:Int) else if ([]:List (List UInt8))≠[] then 2 else if (J1 m 6 []).isSome=true then (if m.code=3 then 5 else 4) else if (Bk4 m zone).isSome=true∧m.code=0 then 3 else 0)=3;rw [if_neg (by simp [Y3]),if_neg (by simp),if_neg (by rw [hfir];simp),if_pos ⟨by rw [href];rfl,hc⟩]
theorem Ex5 {z:Zone} {q:Ques} (ho:ZOk z) (h1:q.typ≠251) (h2:q.typ≠252):KindOk z q (kindM (insideM (respondM z (qM q)) z.origin) z.origin) (childN (insideM (respondM z (qM q)) z.origin) z.origin):=by
 have hf:=jv z q ho;have hor:z.origin≠[]:=bn ho.origin;have hro:=Ar8 (z:=z) (q:=q);have hrf:=Fj9 (z:=z) (q:=q);have hch:=Cd0 (z:=z) (q:=q);have hresp:(findM z q).kind≠2→(findM z q).kind≠3→(findM z q).kind≠0→respondM z (qM q)=Ff4 z {replyM (qM q) 0 with aa:=decide ((findM z q).kind≠(4:Int)),ans:=ansF q.name [] [findM z q]} (findM z q):=by intro k2 k3 k0;obtain ⟨c1,c2⟩:=hch k2 k3;unfold respondM;rw [if_neg (by simp [qM,h1,h2])];show Bc0 z (qM q) (chaseM z q).1 (chaseM z q).2=_;rw [c1,c2];unfold Bc0;simp only [Cv,List.getLast?_singleton];rw [if_neg k0,if_neg (by simp)];rfl
 obtain ⟨s,es,sn,st⟩:=Ix6 ho;suffices H:((findM z q).kind=1→kindM (insideM (respondM z (qM q)) z.origin) z.origin=1)∧((findM z q).kind=5→kindM (insideM (respondM z (qM q)) z.origin) z.origin=4)∧((findM z q).kind=6→kindM (insideM (respondM z (qM q)) z.origin) z.origin=5)∧((findM z q).kind=4→kindM (insideM (respondM z (qM q)) z.origin) z.origin=3∧(childN (insideM (respondM z (qM q)) z.origin) z.origin).1=(findM z q).owner∧(childN (insideM (respondM z (qM q)) z.origin) z.origin).2.2=true) from ⟨H.1,H.2.1,H.2.2.1,H.2.2.2⟩
 generalize findM z q=f at*;refine ⟨fun hk=> ?_,fun hk=> ?_,fun hk=> ?_,fun hk=> ?_⟩
 ·rw [hresp (by omega) (by omega) (by omega)];have hu:=hro (by omega);obtain ⟨r1,_,_,r2⟩:=hf.ans hk;have hne:f.recs≠[]:=r1;unfold Ff4;rw [if_neg (by omega),if_neg (by omega),if_neg (by omega),if_pos hk];have ha:ansF q.name [] [f]=f.recs:=by show []++Nf q.name f=f.recs;unfold Nf;rw [if_pos (.inr hk)];rfl
  have hau:(ansF q.name [] [f]).filter (inZ z.origin)=f.recs:=by rw [ha,Gt0];intro x hx;unfold inZ;rw [(r2 x hx).1];exact hu
  have hh:Y3 f.recs q.name q.typ=true:=by
   cases e:f.recs with
   |nil=>exact absurd e hne
   |cons x l=>
    obtain ⟨a1,a2,_⟩:=r2 x (by rw [e];exact .head _);unfold Y3;rw [List.any_cons];simp only [Am,Aw,decide_eq_true_eq];exact .inl ⟨a1,a2⟩
  refine Es6 rfl ?_;show Y3 ((ansF q.name [] [f]).filter (inZ z.origin)) q.name q.typ=true;rw [hau];exact hh
 ·rw [hresp (by omega) (by omega) (by omega)];have hu:=hro (by omega);unfold Ff4;rw [if_neg (by omega),if_pos hk];have ha:ansF q.name [] [f]=[]:=by show []++Nf q.name f=[];unfold Nf;rw [if_neg (by omega),if_neg (by omega)];rfl
  rw [z8 (s:=s) rfl (by show (ansF q.name [] [f]).filter (inZ z.origin)=[];rw [ha];rfl) (by show (soaR z).filter (inZ z.origin)=[s];rw [es,Dh (by unfold inZ;rw [sn];exact Jn ho.origin)];rfl) st (by rw [sn];exact hu)];exact if_neg (by show¬(0:Int)=3;decide)
 ·rw [hresp (by omega) (by omega) (by omega)];have hu:=hro (by omega);unfold Ff4;rw [if_neg (by omega),if_neg (by omega),if_pos hk];have ha:ansF q.name [] [f]=[]:=by show []++Nf q.name f=[];unfold Nf;rw [if_neg (by omega),if_neg (by omega)];rfl
  rw [z8 (s:=s) rfl (by show (ansF q.name [] [f]).filter (inZ z.origin)=[];rw [ha];rfl) (by show (soaR z).filter (inZ z.origin)=[s];rw [es,Dh (by unfold inZ;rw [sn];exact Jn ho.origin)];rfl) st (by rw [sn];exact hu)];exact if_pos rfl
 ·rw [hresp (by omega) (by omega) (by omega)];have hu:=hro (by omega);obtain ⟨r1,r2,r3,r4,r5⟩:=hf.ref hk;have hrf:=hrf hk;unfold Ff4;rw [if_pos hk];have ha:ansF q.name [] [f]=[]:=by show []++Nf q.name f=[];unfold Nf;rw [if_neg (by omega),if_neg (by omega)];rfl
  cases e:f.recs with
  |nil=>exact absurd e r4
  |cons x l=>
   have hx:=hrf x (by rw [e];exact .head _);have hau:(f.recs).filter (inZ z.origin)=x::l:=by rw [←e,Gt0];intro y hy;unfold inZ;rw [(hrf y hy).1];exact (hrf y hy).2
   obtain ⟨k1,k2⟩:=Es4 (m:=insideM {({replyM (qM q) 0 with aa:=decide (f.kind≠(4:Int)),ans:=ansF q.name [] [f]}:Msg) with auth:=f.recs,ext:=(hostsF [] f.recs).flatMap (lw z)} z.origin) (zone:=z.origin) (r:=x) (l:=l) rfl rfl hor (by show (ansF q.name [] [f]).filter (inZ z.origin)=[];rw [ha];rfl) hau (fun y hy=>r5 y (by rw [e];exact hy)) (by rw [hx.1];exact r1) (by rw [hx.1];exact r2) (by rw [hx.1];exact hx.2);rw [e] at k1 k2;refine ⟨k1,?_,?_⟩
   ·unfold childN;rw [if_pos k1,k2];exact hx.1
   ·unfold childN;rw [if_pos k1,k2]
theorem law_TrustServer (z:Zone) (q:Ques) (hz:z.wf) (hq:q.wf):S Im8 2 [z.pv,q.pv]=some [.b true]:=by
 refine Kg6 (N:=1) rfl ?_;have ka:=Bj2;have hqn:q.name.length≤9223372036854775807:=hq.name;by_cases h3:z.recs.length≤60
 ·have h3':¬(z.recs.length:Int)>60:=by omega
  by_cases h4:q.name.length≤300
  ·have h4':¬(q.name.length:Int)>300:=by omega
   by_cases h1:q.typ=251
   ·simp (disch:=omega) only [Eq6,ka,h1,EVM,EVC,EVR,xe,EVP,EV,simprocAttr]
   ·by_cases h2:q.typ=252
    ·simp (disch:=omega) only [Eq6,ka,h1,h2,EVM,EVC,EVR,xe,EVP,EV,simprocAttr]
    ·have k2:=Eq3 z hz (by omega);by_cases h5:W5 z=0
     ·have ho:=Cc9 h5;rw [h5] at k2;have k3:=Cz1 z q hz (by omega) hqn;have k4:=Ad5 z (qM q) hz h3 hqn;have hm:=m8 z (qM q) hz h3 (by unfold qM Is;simp) (by unfold qM Is;simp) hq;have k5:=Q9 (respondM z (qM q)) z.origin hm hz.origin;have k6:=km (respondM z (qM q)) z.origin hm hz.origin;have hk:=Ex5 (q:=q) ho h1 h2;have hfk:=(jv z q ho).kinds;obtain ⟨e1,e2,e3,e4⟩:=hk;unfold qM at k4 k5 k6 e1 e2 e3 e4;generalize respondM z ⟨0,0,0,false,false,false,false,false,false,false,false,0,q,[],[],[]⟩=x at*;generalize kindM (insideM x z.origin) z.origin=k at*;generalize childN (insideM x z.origin) z.origin=c at*;generalize findM z q=f at*;unfold qw at k6;obtain ⟨c1,c2,c3⟩:=c;by_cases d1:f.kind=1
      ·have e1:=e1 d1;subst e1;simp (disch:=omega) only [Eq6,ka,h1,h2,h3',h4',k2,k3,k4,k5,d1,EVM,EVC,EVR,xe,EVP,EV,simprocAttr]
      ·by_cases d5:f.kind=5
       ·have e2:=e2 d5;subst e2;simp (disch:=omega) only [Eq6,ka,h1,h2,h3',h4',k2,k3,k4,k5,d1,d5,EVM,EVC,EVR,xe,EVP,EV,simprocAttr]
       ·by_cases d6:f.kind=6
        ·have e3:=e3 d6;subst e3;simp (disch:=omega) only [Eq6,ka,h1,h2,h3',h4',k2,k3,k4,k5,d1,d5,d6,EVM,EVC,EVR,xe,EVP,EV,simprocAttr]
        ·by_cases d4:f.kind=4
         ·obtain ⟨e4,e5,e6⟩:=e4 d4;simp only at e5 e6;subst e4;subst e5;subst e6;simp (disch:=omega) only [Eq6,ka,h1,h2,h3',h4',k2,k3,k4,k5,k6,d1,d5,d6,d4,EVM,EVC,EVR,xe,EVP,EV,simprocAttr]
         ·simp (disch:=omega) only [Eq6,ka,h1,h2,h3',h4',k2,k3,k4,k5,d1,d5,d6,d4,EVM,EVC,EVR,xe,EVP,EV,simprocAttr]
     ·simp (disch:=omega) only [Eq6,ka,h1,h2,h3',h4',k2,h5,EVM,EVC,EVR,xe,EVP,EV,simprocAttr]
  ·have h4':(q.name.length:Int)>300:=by omega
   have h3'':¬(z.recs.length:Int)>60:=by omega
   simp (disch:=omega) only [Eq6,ka,h3'',h4',EVM,EVC,EVR,xe,EVP,EV,simprocAttr]
 ·have h3':(z.recs.length:Int)>60:=by omega
  simp (disch:=omega) only [Eq6,ka,h3',EVM,EVC,EVR,xe,EVP,EV,simprocAttr]
end Go.X.G
