/- Questions and messages. -/
import Derived.Test.YtdljoocpdjbhfaaGreatDoorTrustServerG10
import Derived.Test.YtdljoocpdjbhfaaGreatDoorTrustServerG9
open Bool renaming eq_false_or_eq_true→Aq,and_eq_true→Aw,false_eq_true→Ad,or_eq_true→Am,not_eq_true'→A9,eq_iff_iff→Cn,not_eq_false→Fh,and_eq_false_iff→Hd,false_or→Ik,or_eq_false_iff→Il,not_true→Ks,true_and→Pf,and_true→Pg
open Classical renaming not_not→I8
open List renaming getElem?_eq_some_iff→Av,length_append→Az,getElem?_eq_getElem→Ab,mem_cons→An,length_take→Ap,append_assoc→As,length_cons→A0,pairwise_cons→A5,mem_of_getElem?→A6,getElem?_drop→A8,length_pos_iff→Bw,length_nil→By,all_eq_true→Bc,mem_filter→Bf,mem_append→Bg,mem_singleton→Bl,getElem?_map→Bn,take_append_drop→Br,mem_append_right→Bs,length_drop→B4,any_eq_true→B6,cons_append→B9,getElem?_range→Cw,nil_append→Cy,take_add_one→Cz,length_filter_le→Cb,mem_append_left→Cf,drop_drop→Cr,getElem?_of_mem→C7,take_length→C8,getElem_mem→Dy,mem_map→Dd,append_nil→Dr,filter_append→Dt,drop_zero→Ec,suffix_iff_eq_drop→E3,pairwise_append→E6,mem_range→E7,exists_mem_of_ne_nil→Fb,map_cons→F2,filter_eq_nil_iff→G3,getLast_eq_getElem→I6,cons_prefix_cons→Mj,pairwise_iff_getElem→M9,drop_set_of_lt→Rn,length_mergeSort→lh,getElem_take→uk,filter_eq_self→Gt0,map_mergeSort→Jc5,findIdx?_cons→Jc6
open Nat renaming le_refl→Af,zero_le→Cc,le_trans→Cd,add_zero→Dv,zero_add→D6,min_eq_left→Jz
open Option renaming bind_some→Ay,map_some→A4,isSome_none→Lv
open Option.some renaming injEq→Ak
set_option maxHeartbeats 1000000
set_option linter.unusedVariables false
set_option linter.unusedSimpArgs false
namespace Go.X
open Go
structure Ques where
 name:List UInt8
 typ:Int
 deriving DecidableEq
structure Msg where
 id:Int
 op:Int
 code:Int
 resp:Bool
 aa:Bool
 tc:Bool
 rd:Bool
 ra:Bool
 ad:Bool
 cd:Bool
 dok:Bool
 size:Int
 q:Ques
 ans:List Rec
 auth:List Rec
 ext:List Rec
 deriving DecidableEq
structure Ques.wf (x:Ques):Prop where
 name:Jl x.name
 typ:Is x.typ
structure Msg.wf (m:Msg):Prop where
 id:Is m.id
 op:Is m.op
 code:Is m.code
 size:Is m.size
 q:m.q.wf
 ans:Ov m.ans
 auth:Ov m.auth
 ext:Ov m.ext
def Ques.cells (x:Ques):List PV:=[.s x.name, .i .i64 x.typ]
def Ques.pv (x:Ques):PV:= .a x.cells
def Msg.cells (m:Msg):List PV:= .i .i64 m.id:: .i .i64 m.op:: .i .i64 m.code:: .b m.resp:: .b m.aa:: .b m.tc:: .b m.rd:: .b m.ra:: .b m.ad:: .b m.cd:: .b m.dok:: .i .i64 m.size:: .s m.q.name:: .i .i64 m.q.typ::Ag m.ans::Ag m.auth::Ag m.ext::[]
def Msg.pv (m:Msg):PV:= .a m.cells
def shQ:Sh:= .st [.s, .i .i64]
theorem Hx0 {cs:List PV} (h:shQ.okC cs):∃q:Ques,q.wf∧cs=q.cells:=by obtain ⟨a0,r0,rfl,h0,h⟩:=Dx (ed h);obtain ⟨a1,r1,rfl,h1,h⟩:=Dx h;obtain rfl:=Oy h;obtain ⟨x0,rfl,k0⟩:=Al8 h0;obtain ⟨x1,rfl,k1⟩:=Kb h1;exact ⟨⟨x0,x1⟩,⟨k0,k1⟩,rfl⟩
theorem Kj9 {p:PV} (h:shQ.ok p):∃q:Ques,q.wf∧p=q.pv:=by obtain ⟨ds,rfl,h⟩:∃ds,p= .a ds∧shQ.okC ds:=h;obtain ⟨r,hr,rfl⟩:=Hx0 h;exact ⟨r,hr,rfl⟩
theorem Bm6 (m:Msg):Bt 0 m.pv=some (.i .i64 m.id):=rfl
theorem Bm5 (m:Msg):Bt 1 m.pv=some (.i .i64 m.op):=rfl
theorem Bm4 (m:Msg):Bt 2 m.pv=some (.i .i64 m.code):=rfl
theorem Bm3 (m:Msg):Bt 3 m.pv=some (.b m.resp):=rfl
theorem Bm2 (m:Msg):Bt 4 m.pv=some (.b m.aa):=rfl
theorem Bm1 (m:Msg):Bt 5 m.pv=some (.b m.tc):=rfl
theorem Bm0 (m:Msg):Bt 6 m.pv=some (.b m.rd):=rfl
theorem Bl9 (m:Msg):Bt 7 m.pv=some (.b m.ra):=rfl
theorem Bl8 (m:Msg):Bt 8 m.pv=some (.b m.ad):=rfl
theorem Bl7 (m:Msg):Bt 9 m.pv=some (.b m.cd):=rfl
theorem Ah8 (m:Msg):Bt 10 m.pv=some (.b m.dok):=rfl
theorem Ah7 (m:Msg):Bt 11 m.pv=some (.i .i64 m.size):=rfl
theorem Ah6 (m:Msg):Bt 12 m.pv=some (.s m.q.name):=rfl
theorem Ah5 (m:Msg):Bt 13 m.pv=some (.i .i64 m.q.typ):=rfl
theorem Ah4 (m:Msg):Bt 14 m.pv=some (Ag m.ans):=rfl
theorem Ah3 (m:Msg):Bt 15 m.pv=some (Ag m.auth):=rfl
theorem Ah2 (m:Msg):Bt 16 m.pv=some (Ag m.ext):=rfl
theorem Hk7 (m:Msg):Jd 0 17 m.pv=some m.pv:=rfl
theorem Hb9 (m:Msg):Ry 17 m.pv=some m.pv:=rfl
theorem By6 (m:Msg):Jd 12 2 m.pv=some m.q.pv:=rfl
theorem Jh4 (x:Ques):Jd 0 2 x.pv=some x.pv:=rfl
theorem Kb4 (x:Ques):Ry 2 x.pv=some x.pv:=rfl
theorem Hw1 (x:Ques):Bt 0 x.pv=some (.s x.name):=rfl
theorem Hw0 (x:Ques):Bt 1 x.pv=some (.i .i64 x.typ):=rfl
theorem Jq2 (n:List UInt8) (t:Int):PV.a [.s n, .i .i64 t]=Ques.pv ⟨n,t⟩:=rfl
theorem Kb9 (x:Ques):(⟨x.name,x.typ⟩:Ques)=x:=rfl
theorem Fj2 (x0 x1 x2:Int) (b0 b1 b2 b3 b4 b5 b6 b7:Bool) (x3:Int) (n:List UInt8) (t:Int) (l0 l1 l2:List Rec):PV.a [.i .i64 x0, .i .i64 x1, .i .i64 x2, .b b0, .b b1, .b b2, .b b3, .b b4, .b b5, .b b6, .b b7, .i .i64 x3, .s n, .i .i64 t,Ag l0,Ag l1,Ag l2]=Msg.pv ⟨x0,x1,x2,b0,b1,b2,b3,b4,b5,b6,b7,x3,⟨n,t⟩,l0,l1,l2⟩:=rfl
theorem Kf9 (neg:Bool) (x y:Ques):Lj neg true [.s,(.i .i64)] x.pv y.pv=some (.b (if neg then decide (x≠y) else decide (x=y))):=by
 have:Gy [.s,(.i .i64)] x.cells y.cells=some (decide (x=y)):=by simp only [Ques.cells,Gy,Ev1,if_true,Ak];rw [Cn];cases x;cases y;simp
 simp only [Lj,Ques.pv,this,A4];cases neg<;>simp
set_option linter.defProp false in
def EVM:=(And.intro @Bm6 (And.intro @Bm5 (And.intro @Bm4 (And.intro @Bm3 (And.intro @Bm2 (And.intro @Bm1 (And.intro @Bm0 (And.intro @Bl9 (And.intro @Bl8 (And.intro @Bl7 (And.intro @Ah8 (And.intro @Ah7 (And.intro @Ah6 (And.intro @Ah5 (And.intro @Ah4 (And.intro @Ah3 (And.intro @Ah2 (And.intro @Hk7 (And.intro @Hb9 (And.intro @By6 (And.intro @Jh4 (And.intro @Kb4 (And.intro @Hw1 (And.intro @Hw0 (And.intro @Jq2 (And.intro @Kb9 (And.intro @Fj2 @Kf9)))))))))))))))))))))))))))
end Go.X
/- Closures and sets of strings, evaluated. -/
namespace Go.X
open Go
def Jc0 (fn:Fns) (η:List PV) (fl:Bool) (ar:List E) (m:Nat):PV→Option (List PV)
 | .f f caps=>(E.evs η ar).bind fun vs=>results fl m η (fn f vs.length (vs++caps))
 |_=>none
theorem um {fn:Fns} {η:List PV} (fl:Bool) (c:E) (ar:List E) (m:Nat):W.ev fn η (.clo none fl c ar m)=(c.ev η).bind (Jc0 fn η fl ar m):=by
 rw [Hj2];congr 1;funext q;cases q with
 |f f caps=>rfl
 |_=>cases h:E.evs η ar<;>rfl
theorem Jy2 {fn:Fns} {η:List PV} (fl:Bool) (ar:List E) (m:Nat) (f:Nat) (caps:List PV):Jc0 fn η fl ar m (.f f caps)=(E.evs η ar).bind fun vs=>results fl m η (fn f vs.length (vs++caps)):=rfl
theorem Ih7 (f:Nat) (caps:List PV):Bt 0 (.f f caps)=some (.f f caps):=rfl
theorem Iy6 (f:Nat) (caps:List PV):H9 (.f f caps)=some (.f f caps):=rfl
def G7 (ks:List (List UInt8)):PV:= .m (ks.map fun k=>(.s k, .b true))
theorem Hv0:PV.m []=G7 []:=rfl
theorem Em3 (ks:List (List UInt8)):Bt 0 (G7 ks)=some (G7 ks):=rfl
theorem Eh5 (ks:List (List UInt8)):H9 (G7 ks)=some (G7 ks):=rfl
theorem iq (k:List UInt8):∀ks:List (List UInt8),Yl (.s k) (ks.map fun k=>(.s k, .b true))=some (if k∈ks then some (.b true) else none)
 |[]=>by simp [Yl]
 |x::ks=>by
  simp only [F2,Yl,ig];by_cases h:k=x
  ·subst h;simp
  ·have h2:(k==x)=false:=by simpa using h
   rw [h2];simp only [iq k ks,An,h,false_or]
theorem zg (k:List UInt8):∀ks:List (List UInt8),Fb0 (.s k) (.b true) (ks.map fun k=>(.s k, .b true))=some ((if k∈ks then ks else ks++[k]).map fun k=>(.s k, .b true))
 |[]=>by simp [Fb0]
 |x::ks=>by
  simp only [F2,Fb0,ig];by_cases h:k=x
  ·subst h;simp
  ·have h2:(k==x)=false:=by simpa using h
   rw [h2];simp only [zg k ks,An,h,false_or,A4];by_cases h3:k∈ks<;>simp [h3]
theorem Ep7 (k:List UInt8) (ks:List (List UInt8)):ik (G7 ks) (.s k) (.b false)=some (.b (decide (k∈ks))):=by simp only [ik,G7,Cx3,if_true,iq,A4];by_cases h:k∈ks<;>simp [h]
theorem Ep6 (k:List UInt8) (ks:List (List UInt8)):g9 (G7 ks) (.s k) (.b true)=some (G7 (if k∈ks then ks else ks++[k])):=by simp only [g9,G7,Cx3,if_true,zg,A4]
theorem Ck6 (a b:List Rec):Jt 1 [Ag a,Ag b]=some (.l 1 ([a,b].map Ag)):=rfl
def Jy1 (fn:Fns) (η:List PV) (fl:Bool) (c:E) (ar:List E) (m:Nat):PV→Option (List PV)
 | .b true=>(c.ev η).bind (Jc0 fn η fl ar m)
 | .b false=>some (η++List.replicate m .u)
 |_=>none
theorem I9 {fn:Fns} {η:List PV} (g:E) (fl:Bool) (c:E) (ar:List E) (m:Nat):W.ev fn η (.clo (some g) fl c ar m)=(g.ev η).bind (Jy1 fn η fl c ar m):=by
 have h:=um (fn:=fn) (η:=η) fl c ar m;simp only [W.ev,E1] at h ⊢;congr 1;funext q;cases q with
 |b x=>cases x with
  |true=>exact h
  |false=>rfl
 |_=>rfl
theorem L3 (fn:Fns) (η:List PV) (fl:Bool) (c:E) (ar:List E) (m:Nat) (x:Bool):Jy1 fn η fl c ar m (.b x)=if x=true then (c.ev η).bind (Jc0 fn η fl ar m) else some (η++List.replicate m .u):=by cases x<;>rfl
set_option linter.defProp false in
def EVC:=(And.intro @um (And.intro @Jy2 (And.intro @Ih7 (And.intro @Iy6 (And.intro @Hv0 (And.intro @Em3 (And.intro @Eh5 (And.intro @Ep7 (And.intro @Ep6 @Ck6)))))))))
end Go.X
/- What is believed of a response: the plain side. -/
namespace Go.X.G
open Go Go.X
def inZ (zone:List UInt8) (r:Rec):Bool:=under r.name zone
def Ar1 (t:Int):Bool:=decide (t=2)||decide (t=15)||decide (t=33)
def Ep9 (l:List Rec) (h:List UInt8):Bool:=l.any fun r=>Ar1 r.typ && decide (r.data.host=h)
def Kf1 (t:Int):Bool:=decide (t=1)||decide (t=28)
def Kb5 (a b:List Rec) (zone:List UInt8) (r:Rec):Bool:=inZ zone r && (Ep9 a r.name||Ep9 b r.name) && Kf1 r.typ
def insideM (m:Msg) (zone:List UInt8):Msg:=
 {m with ans:=m.ans.filter (inZ zone),auth:=m.auth.filter (inZ zone),ext:=m.ext.filter (Kb5 (m.ans.filter (inZ zone)) (m.auth.filter (inZ zone)) zone)}
def Y3 (l:List Rec) (n:List UInt8) (t:Int):Bool:=l.any fun r=>decide (r.name=n) && (decide (r.typ=t)||decide (t=255))
def Rx (l:List Rec) (t:Int):Nat→List UInt8→List (List UInt8)×List UInt8
 |0,n=>([],n)
 |k+1,n=>if Y3 l n t=true then ([],n) else match findR l n 5 with
  |[]=>([],n)
  |r::_=>(n::(Rx l t k r.data.host).1,(Rx l t k r.data.host).2)
def Ak2 (m:Msg) (t:Int) (zone:List UInt8) (r:Rec):Bool:=decide (r.typ=t) && under m.q.name r.name && (decide (zone=[])||(decide (r.name≠zone) && under r.name zone))
def J1 (m:Msg) (t:Int) (zone:List UInt8):Option Rec:=m.auth.find? (Ak2 m t zone)
def Bk4 (m:Msg) (zone:List UInt8):Option Rec:=if zone=[] then none else J1 m 2 zone
def kindM (m:Msg) (zone:List UInt8):Int:=
 if (m.resp && decide (m.op=0) && (decide (m.code=0)||decide (m.code=3)) && !m.tc)=true then
  (let p:=Rx m.ans m.q.typ 8 m.q.name
   if Y3 m.ans p.2 m.q.typ=true then 1 else if p.1≠[] then 2 else
   if (J1 m 6 []).isSome=true then (if m.code=3 then 5 else 4) else
   if (Bk4 m zone).isSome=true∧m.code=0 then 3 else 0)
 else 0
def dd (out:List (List UInt8)):List Rec→List (List UInt8)
 |[]=>out
 |r::rs=>if r.data.host∈out then dd out rs else dd (out++[r.data.host]) rs
def childN (m:Msg) (zone:List UInt8):List UInt8×List (List UInt8)×Bool:=
 if kindM m zone=3 then (match Bk4 m zone with
  |some r=>(r.name,dd [] (findR m.auth r.name 2),true)
  |none=>([],[],true))
 else ([],[],false)
end Go.X.G
/- Inside: what the servers of a zone can know. -/
namespace Go.X.G
open Go Go.X
theorem oc (l:List Rec) (g:Nat) (caps:List PV) (p:Rec→Bool) (hl:l.length≤1000000) (h:∀r∈l,S g 1 (r.pv::caps)=some [.b (p r)]):S nt 2 [Ag l, .f g caps]=some [Ag (l.filter p)]:=by
 refine Jp1 (N:=l.length+1) rfl ?_;have key:Fc4.ev S (l.length+1) [Ag l, .f g caps]=some (.yld 0 [Ag ([]++l.filter p)]):=by
  refine Ex l (fun i (q:List Rec)=>[Ag q, .i .i64 (i:Int)]) (fun i q r=> .yld 0 [Ag (q++r.filter p)]) (fun i q=>q.length≤i) [] rfl (Cc _) (by omega) (fun i q c r hd hi hc hI=> ?_) (fun q hI=> ?_)
  ·left;have hp:=h c (A6 hc);rcases Aq (p c) with h1|h1
   ·rw [h1] at hp;refine ⟨q++[c],?_,by simp;omega,by simp [h1]⟩;simp (disch:=omega) only [Ew3,hc,hp,EVC,xe,EVP,EV,simprocAttr]
   ·rw [h1] at hp;refine ⟨q,?_,by omega,by simp [h1]⟩;simp (disch:=omega) only [Ew3,hc,hp,EVC,xe,EVP,EV,simprocAttr]
  ·simp (disch:=omega) only [Ew3,xe,EVP,EV,simprocAttr]
   try simp [Out.goes]
 simp (disch:=omega) only [Ew3,key,xe,EVP,EV,simprocAttr]
theorem Qb (r:Rec) (zone:List UInt8) (hr:r.wf) (hz:Jl zone):S Tc 1 [r.pv, .s zone]=some [.b (inZ zone r)]:=by refine Jp2 (N:=1) rfl ?_;have g1:=hr.name;unfold Jl at g1 hz;unfold inZ;simp (disch:=omega) only [Jd7,D5,xe,EVP,EV,simprocAttr]
theorem Bj7 (r:Rec) (zone:List UInt8) (ks:List (List UInt8)) (hr:r.wf) (hz:Jl zone):S An4 1 [r.pv, .f Tc [.s zone],G7 ks]=some [.b (inZ zone r && decide (r.name∈ks) && Kf1 r.typ)]:=by refine Jp0 (N:=1) rfl ?_;have h1:=Qb r zone hr hz;unfold Kf1;rcases Aq (inZ zone r) with h2|h2<;>rw [h2] at h1<;>by_cases h3:r.name∈ks<;>by_cases h4:r.typ=1<;>simp (disch:=omega) only [Jd6,h1,h3,h4,EVC,xe,EVP,EV,simprocAttr]<;>simp [h2,h3,h4]
def tz (ks:List (List UInt8)):List Rec→List (List UInt8)
 |[]=>ks
 |r::rs=>tz (if Ar1 r.typ=true then (if r.data.host∈ks then ks else ks++[r.data.host]) else ks) rs
theorem zh (h:List UInt8):∀(l:List Rec) (ks:List (List UInt8)),h∈tz ks l↔h∈ks∨Ep9 l h=true
 |[],ks=>by simp [tz,Ep9]
 |r::rs,ks=>by
  rw [tz,zh h rs];have hm:Ep9 (r::rs) h=((Ar1 r.typ && decide (r.data.host=h))||Ep9 rs h):=by simp [Ep9]
  rw [hm];rcases Aq (Ar1 r.typ) with h1|h1
  ·rw [h1];by_cases h2:r.data.host∈ks
   ·simp only [h2,if_true,Pf,Am,decide_eq_true_eq];constructor
    ·rintro (h3|h3)
     ·exact .inl h3
     ·exact .inr (.inr h3)
    ·rintro (h3|h3|h3)
     ·exact .inl h3
     ·exact .inl (h3▸h2)
     ·exact .inr h3
   ·simp only [h2,if_true,if_false,Pf,Am,decide_eq_true_eq,Bg,Bl];constructor
    ·rintro ((h3|h3)|h3)
     ·exact .inl h3
     ·exact .inr (.inl h3.symm)
     ·exact .inr (.inr h3)
    ·rintro (h3|h3|h3)
     ·exact .inl (.inl h3)
     ·exact .inl (.inr h3.symm)
     ·exact .inr h3
  ·rw [h1];simp
theorem kw (m:Msg) (zone:List UInt8) (hm:m.wf) (hz:Jl zone) (h1:m.ans.length≤1000) (h2:m.auth.length≤1000) (h3:m.ext.length≤100000):S Ap3 2 [m.pv, .s zone]=some [(insideM m zone).pv]:=by
 refine Jt1 (N:=2000) rfl ?_;have k1:=oc m.ans Tc [.s zone] (inZ zone) (by omega) (fun r hr=>Qb r zone (hm.ans.2 r hr) hz);have k2:=oc m.auth Tc [.s zone] (inZ zone) (by omega) (fun r hr=>Qb r zone (hm.auth.2 r hr) hz);have a1:(m.ans.filter (inZ zone)).length≤1000:=Cd (Cb _ _) h1;have a2:(m.auth.filter (inZ zone)).length≤1000:=Cd (Cb _ _) h2;unfold insideM;generalize m.ans.filter (inZ zone)=A at*;generalize m.auth.filter (inZ zone)=B at*;have inner:∀(i:Nat) (c:List Rec) (ks:List (List UInt8)),[A,B][i]? =some c→c.length≤1000→Fb6.ev S 2000 [m.pv, .s zone,Ag A,Ag B, .i .i64 (i:Int),G7 ks]=some (.yld 2 [G7 (tz ks c)]):=by
  intro i c ks hc hcl;refine Ex c (fun j (g:List (List UInt8))=>[.i .i64 (j:Int),G7 g]) (fun j g r=> .yld 2 [G7 (tz g r)]) (fun _ _=>True) ks rfl trivial (by omega) (fun j g r rs hd hj hr _=> ?_) (fun g _=> ?_)
  ·left;refine ⟨if Ar1 r.typ=true then (if r.data.host∈g then g else g++[r.data.host]) else g,?_,trivial,rfl⟩;unfold Ar1;by_cases t1:r.typ=2
   ·simp (disch:=omega) only [bz,hc,hr,t1,EVC,xe,EVP,EV,simprocAttr]
    try simp
   ·by_cases t2:r.typ=15
    ·simp (disch:=omega) only [bz,hc,hr,t2,EVC,xe,EVP,EV,simprocAttr]
     try simp
    ·by_cases t3:r.typ=33
     ·simp (disch:=omega) only [bz,hc,hr,t3,EVC,xe,EVP,EV,simprocAttr]
      try simp
     ·simp (disch:=omega) only [bz,hc,hr,t1,t2,t3,EVC,xe,EVP,EV,simprocAttr]
      try simp [t1,t2,t3]
  ·simp (disch:=omega) only [bz,hc,EVC,xe,EVP,EV,simprocAttr]
   try simp [Out.goes,tz]
 have outer:Fd9.ev S 2000 [m.pv, .s zone,Ag A,Ag B]=some (.yld 0 [G7 (tz (tz [] A) B)]):=by
  refine Ex [A,B] (fun i (g:List (List UInt8))=>[.i .i64 (i:Int),G7 g]) (fun i g r=> .yld 0 [G7 (r.foldl tz g)]) (fun _ _=>True) [] rfl trivial (by simp) (fun i g c r hd hi hc _=> ?_) (fun g _=> ?_)
  ·left;refine ⟨tz g c,?_,trivial,rfl⟩;have hcl:c.length≤1000:=by have:=A6 hc;simp at this;rcases this with rfl|rfl<;>omega
   have hi2:i<2:=hi;have k:=inner i c g hc hcl;simp (disch:=omega) only [bz,hc,k,EVC,xe,EVP,EV,simprocAttr]
  ·simp (disch:=omega) only [bz,EVC,xe,EVP,EV,simprocAttr]
   try simp [Out.goes]
 have k3:=oc m.ext An4 [.f Tc [.s zone],G7 (tz (tz [] A) B)] (Kb5 A B zone) (by omega) (fun r hr=>by
  rw [Bj7 r zone _ (hm.ext.2 r hr) hz];unfold Kb5;have:decide (r.name∈tz (tz [] A) B)=(Ep9 A r.name||Ep9 B r.name):=by rw [Cn];simp [zh]
  rw [this])
 simp (disch:=omega) only [bz,k1,k2,outer,k3,EVC,EVM,xe,EVP,EV,simprocAttr]
end Go.X.G
/- Addresses and tasks. -/
namespace Go.X
structure Adr where
 v6:Bool
 hi:Int
 lo:Int
 deriving DecidableEq
structure Tk where
 q:Ques
 name:List UInt8
 zone:List UInt8
 hosts:List (List UInt8)
 addrs:List Adr
 tried:List Adr
 state:Int
 more:Int
 dst:Adr
 asked:Ques
 sent:Int
 chain:List Rec
 last:Msg
 err:Int
def Adr.pv (x:Adr):PV:= .a [.b x.v6, .i .u64 x.hi, .i .u64 x.lo]
def Fv (l:List Adr):PV:= .l 3 (l.map Adr.pv)
def Dat.adr (d:Dat):Adr:=⟨d.v6,d.hi,d.lo⟩
def Tk.cells (t:Tk):List PV:=[.s t.q.name, .i .i64 t.q.typ, .s t.name, .s t.zone,Bh t.hosts,Fv t.addrs,Fv t.tried, .i .i64 t.state, .i .i64 t.more, .b t.dst.v6, .i .u64 t.dst.hi, .i .u64 t.dst.lo, .s t.asked.name, .i .i64 t.asked.typ, .i .i64 t.sent,Ag t.chain, .i .i64 t.last.id, .i .i64 t.last.op, .i .i64 t.last.code, .b t.last.resp, .b t.last.aa, .b t.last.tc, .b t.last.rd, .b t.last.ra, .b t.last.ad, .b t.last.cd, .b t.last.dok, .i .i64 t.last.size, .s t.last.q.name, .i .i64 t.last.q.typ,Ag t.last.ans,Ag t.last.auth,Ag t.last.ext, .i .i64 t.err]
def Tk.pv (t:Tk):PV:= .a t.cells
theorem Em2 (t:Tk):Bt 0 t.pv=some (.s t.q.name):=rfl
theorem Em1 (t:Tk):Bt 1 t.pv=some (.i .i64 t.q.typ):=rfl
theorem Em0 (t:Tk):Bt 2 t.pv=some (.s t.name):=rfl
theorem El9 (t:Tk):Bt 3 t.pv=some (.s t.zone):=rfl
theorem El8 (t:Tk):Bt 4 t.pv=some (Bh t.hosts):=rfl
theorem El7 (t:Tk):Bt 5 t.pv=some (Fv t.addrs):=rfl
theorem El6 (t:Tk):Bt 6 t.pv=some (Fv t.tried):=rfl
theorem El5 (t:Tk):Bt 7 t.pv=some (.i .i64 t.state):=rfl
theorem El4 (t:Tk):Bt 8 t.pv=some (.i .i64 t.more):=rfl
theorem El3 (t:Tk):Bt 9 t.pv=some (.b t.dst.v6):=rfl
theorem Bg8 (t:Tk):Bt 10 t.pv=some (.i .u64 t.dst.hi):=rfl
theorem Bg7 (t:Tk):Bt 11 t.pv=some (.i .u64 t.dst.lo):=rfl
theorem Bg6 (t:Tk):Bt 12 t.pv=some (.s t.asked.name):=rfl
theorem Bg5 (t:Tk):Bt 13 t.pv=some (.i .i64 t.asked.typ):=rfl
theorem Bg4 (t:Tk):Bt 14 t.pv=some (.i .i64 t.sent):=rfl
theorem Bg3 (t:Tk):Bt 15 t.pv=some (Ag t.chain):=rfl
theorem Bg2 (t:Tk):Bt 16 t.pv=some (.i .i64 t.last.id):=rfl
theorem Bg1 (t:Tk):Bt 17 t.pv=some (.i .i64 t.last.op):=rfl
theorem Bg0 (t:Tk):Bt 18 t.pv=some (.i .i64 t.last.code):=rfl
theorem Bf9 (t:Tk):Bt 19 t.pv=some (.b t.last.resp):=rfl
theorem Bf8 (t:Tk):Bt 20 t.pv=some (.b t.last.aa):=rfl
theorem Bf7 (t:Tk):Bt 21 t.pv=some (.b t.last.tc):=rfl
theorem Bf6 (t:Tk):Bt 22 t.pv=some (.b t.last.rd):=rfl
theorem Bf5 (t:Tk):Bt 23 t.pv=some (.b t.last.ra):=rfl
theorem Bf4 (t:Tk):Bt 24 t.pv=some (.b t.last.ad):=rfl
theorem Bf3 (t:Tk):Bt 25 t.pv=some (.b t.last.cd):=rfl
theorem Bf2 (t:Tk):Bt 26 t.pv=some (.b t.last.dok):=rfl
theorem Bf1 (t:Tk):Bt 27 t.pv=some (.i .i64 t.last.size):=rfl
theorem Bf0 (t:Tk):Bt 28 t.pv=some (.s t.last.q.name):=rfl
theorem Bd9 (t:Tk):Bt 29 t.pv=some (.i .i64 t.last.q.typ):=rfl
theorem Bd8 (t:Tk):Bt 30 t.pv=some (Ag t.last.ans):=rfl
theorem Bd7 (t:Tk):Bt 31 t.pv=some (Ag t.last.auth):=rfl
theorem Bd6 (t:Tk):Bt 32 t.pv=some (Ag t.last.ext):=rfl
theorem Bd5 (t:Tk):Bt 33 t.pv=some (.i .i64 t.err):=rfl
theorem Ix2 (t:Tk):Jd 0 34 t.pv=some t.pv:=rfl
theorem Jq7 (t:Tk):Ry 34 t.pv=some t.pv:=rfl
theorem Ac6 (t:Tk):Jd 9 3 t.pv=some t.dst.pv:=rfl
theorem cn (t:Tk):Jd 12 2 t.pv=some t.asked.pv:=rfl
theorem Eg1 (t:Tk):Jd 0 2 t.pv=some t.q.pv:=rfl
theorem mc (t:Tk):Jd 16 17 t.pv=some t.last.pv:=rfl
theorem Hb5 (x0:List UInt8) (x1:Int) (x2:List UInt8) (x3:List UInt8) (x4:List (List UInt8)) (x5:List Adr) (x6:List Adr) (x7:Int) (x8:Int) (x9:Bool) (x10:Int) (x11:Int) (x12:List UInt8) (x13:Int) (x14:Int) (x15:List Rec) (x16:Int) (x17:Int) (x18:Int) (x19:Bool) (x20:Bool) (x21:Bool) (x22:Bool) (x23:Bool) (x24:Bool) (x25:Bool) (x26:Bool) (x27:Int) (x28:List UInt8) (x29:Int) (x30:List Rec) (x31:List Rec) (x32:List Rec) (x33:Int):PV.a [.s x0, .i .i64 x1, .s x2, .s x3,Bh x4,Fv x5,Fv x6, .i .i64 x7, .i .i64 x8, .b x9, .i .u64 x10, .i .u64 x11, .s x12, .i .i64 x13, .i .i64 x14,Ag x15, .i .i64 x16, .i .i64 x17, .i .i64 x18, .b x19, .b x20, .b x21, .b x22, .b x23, .b x24, .b x25, .b x26, .i .i64 x27, .s x28, .i .i64 x29,Ag x30,Ag x31,Ag x32, .i .i64 x33]=Tk.pv ⟨⟨x0,x1⟩,x2,x3,x4,x5,x6,x7,x8,⟨x9,x10,x11⟩,⟨x12,x13⟩,x14,x15,⟨x16,x17,x18,x19,x20,x21,x22,x23,x24,x25,x26,x27,⟨x28,x29⟩,x30,x31,x32⟩,x33⟩:=rfl
theorem Jw6 (t:Tk):(⟨t.q,t.name,t.zone,t.hosts,t.addrs,t.tried,t.state,t.more,t.dst,t.asked,t.sent,t.chain,t.last,t.err⟩:Tk)=t:=rfl
theorem Hd4 (m:Msg):(⟨m.id,m.op,m.code,m.resp,m.aa,m.tc,m.rd,m.ra,m.ad,m.cd,m.dok,m.size,m.q,m.ans,m.auth,m.ext⟩:Msg)=m:=rfl
theorem Hd5 (x:Adr):(⟨x.v6,x.hi,x.lo⟩:Adr)=x:=rfl
theorem Jz5 (d:Dat):J6 d=d.adr.pv:=rfl
theorem Fj3 (v:Bool) (h l:Int):PV.a [.b v, .i .u64 h, .i .u64 l]=Adr.pv ⟨v,h,l⟩:=rfl
theorem Hs6 (d:Dat):(⟨d.v6,d.hi,d.lo⟩:Adr)=d.adr:=rfl
theorem Hk9 (x:Adr):Jd 0 3 x.pv=some x.pv:=rfl
theorem Hc1 (x:Adr):Ry 3 x.pv=some x.pv:=rfl
theorem Bp0 (x:Adr):Bt 0 x.pv=some (.b x.v6):=rfl
theorem Bn9 (x:Adr):Bt 1 x.pv=some (.i .u64 x.hi):=rfl
theorem Bn8 (x:Adr):Bt 2 x.pv=some (.i .u64 x.lo):=rfl
theorem Fj6 (x:Adr):PV.flat x.pv=true:=rfl
theorem Fw1:PV.l 3 []=Fv []:=rfl
theorem Hz2 (x:Adr):Jt 3 [x.pv]=some (Fv [x]):=rfl
theorem Bb3 (l:List Adr):H9 (Fv l)=some (Fv l):=rfl
theorem Bn7 (l:List Adr):Bt 0 (Fv l)=some (Fv l):=rfl
theorem Jq4 (x:Ques):PV.flat x.pv=true:=rfl
theorem Iy2 (n:Int):H9 (.i .u64 n)=some (.i .u64 n):=rfl
theorem Ih4 (n:Int):Bt 0 (.i .u64 n)=some (.i .u64 n):=rfl
theorem Er7 (l:List Adr):F4 (Fv l)=some (.i .i64 (l.length:Int)):=by simp [Fv,F4]
theorem Et4 (l:List Adr) (k:IntKind) (z:Int) (h:0≤z):Gt 3 (Fv l) (.i k z)=(l[z.toNat]?).map Adr.pv:=by simp [Fv,Y0 _ _ _ _ h]
theorem Ek2 (l:List Adr) (x:Adr) (h:l.length+1≤1073741824):H7 3 (Fv l) (Fv [x])=some (Fv (l++[x])):=by have:=Ul 3 (l.map Adr.pv) ([x].map Adr.pv) (by simpa using h);simpa [Fv] using this
theorem Fw0 (l m:List Adr) (h:l.length+m.length≤1073741824):H7 3 (Fv l) (Fv m)=some (Fv (l++m)):=by have:=Ul 3 (l.map Adr.pv) (m.map Adr.pv) (by simpa using h);simpa [Fv] using this
theorem Er0 (l:List Adr) (k k':IntKind) (a b:Int) (h1:0≤a) (h2:a≤b) (h3:b≤(l.length:Int)):G9 3 (Fv l) (.i k a) (.i k' b)=some (Fv ((l.take b.toNat).drop a.toNat)):=by have:=Ck3 3 (l.map Adr.pv) k k' a b h1 h2 (by simpa using h3);simpa [Fv,List.map_take,List.map_drop] using this
theorem Jx0 (neg:Bool) (x y:Adr):Lj neg true [.b,(.i .u64),(.i .u64)] x.pv y.pv=some (.b (if neg then decide (x≠y) else decide (x=y))):=by
 have:Gy [.b,(.i .u64),(.i .u64)] [.b x.v6, .i .u64 x.hi, .i .u64 x.lo] [.b y.v6, .i .u64 y.hi, .i .u64 y.lo]=some (decide (x=y)):=by simp only [Gy,Ev1,if_true,Ak];rw [Cn];cases x;cases y;simp
 simp only [Lj,Adr.pv,this,A4];cases neg<;>simp
set_option linter.defProp false in
def EVT:=(And.intro @Em2 (And.intro @Em1 (And.intro @Em0 (And.intro @El9 (And.intro @El8 (And.intro @El7 (And.intro @El6 (And.intro @El5 (And.intro @El4 (And.intro @El3 (And.intro @Bg8 (And.intro @Bg7 (And.intro @Bg6 (And.intro @Bg5 (And.intro @Bg4 (And.intro @Bg3 (And.intro @Bg2 (And.intro @Bg1 (And.intro @Bg0 (And.intro @Bf9 (And.intro @Bf8 (And.intro @Bf7 (And.intro @Bf6 (And.intro @Bf5 (And.intro @Bf4 (And.intro @Bf3 (And.intro @Bf2 (And.intro @Bf1 (And.intro @Bf0 (And.intro @Bd9 (And.intro @Bd8 (And.intro @Bd7 (And.intro @Bd6 (And.intro @Bd5 (And.intro @Ix2 (And.intro @Jq7 (And.intro @Ac6 (And.intro @cn (And.intro @Eg1 (And.intro @mc (And.intro @Hb5 (And.intro @Jw6 (And.intro @Hd4 (And.intro @Hd5 (And.intro @Jz5 (And.intro @Fj3 (And.intro @Hs6 (And.intro @Hk9 (And.intro @Hc1 (And.intro @Bp0 (And.intro @Bn9 (And.intro @Bn8 (And.intro @Fj6 (And.intro @Fw1 (And.intro @Hz2 (And.intro @Bb3 (And.intro @Bn7 (And.intro @Jq4 (And.intro @Iy2 (And.intro @Ih4 (And.intro @Er7 (And.intro @Et4 (And.intro @Ek2 (And.intro @Fw0 (And.intro @Er0 @Jx0)))))))))))))))))))))))))))))))))))))))))))))))))))))))))))))))))
end Go.X
/- Functions of the package slices, for texts, records and addresses. -/
namespace Go.X.G
open Go Go.X
theorem Ek8 (l:List (List UInt8)) (x:List UInt8) (hl:l.length≤1000000):∃k:Int,(0≤k↔x∈l)∧S Bs3 2 [Bh l, .s x]=some [.i .i64 k]:=by
 have go:∀(i:Nat) (l:List (List UInt8)),∃k:Int,k=(match l.findIdx? (·=x) with|some j=>((i+j:Nat):Int)|none=> -1)∧(0≤k↔x∈l):=by
  intro i l;refine ⟨_,rfl,?_⟩;cases h:l.findIdx? (·=x) with
  |none=>
   rw [List.findIdx?_eq_none_iff] at h;simp only;constructor
   ·intro h2;omega
   ·intro h2;have:=h x h2;simp at this
  |some j=>
   simp only;constructor
   ·intro _;rw [List.findIdx?_eq_some_iff_getElem] at h;obtain ⟨h1,h2,_⟩:=h;simp at h2;rw [←h2];exact Dy _
   ·intro _;omega
 obtain ⟨k,hk,hk2⟩:=go 0 l;refine ⟨k,hk2,?_⟩;refine Jn7 (N:=l.length+1) rfl ?_;have key:Fc2.ev S (l.length+1) [Bh l, .s x]=some (match l.findIdx? (·=x) with|some j=> .ret [.i .i64 ((0+j:Nat):Int)]|none=> .yld 0 []):=by
  refine Fc l (fun i=>[.i .i64 (i:Int)]) (fun i r=>match r.findIdx? (·=x) with|some j=> .ret [.i .i64 ((i+j:Nat):Int)]|none=> .yld 0 []) rfl (by omega) (fun i c r hd hi hc=> ?_) ?_
  ·by_cases h:x=c
   ·right;simp (disch:=omega) only [Bv5,hc,h,EVM,EVC,xe,EVP,EV,simprocAttr];simp [Jc6,Out.goes]
   ·left;have h':¬c=x:=fun e=>h e.symm;simp (disch:=omega) only [Bv5,hc,h,EVM,EVC,xe,EVP,EV,simprocAttr];refine ⟨trivial,?_⟩;simp only [Jc6,h',decide_false,Ad,if_false];cases r.findIdx? (·=x) with
    |none=>rfl
    |some j=>simp;omega
  ·simp (disch:=omega) only [Bv5,EVM,EVC,xe,EVP,EV,simprocAttr];simp [Out.goes]
 rw [hk];cases h:l.findIdx? (·=x) with
 |none=>
  rw [h] at key;simp (disch:=omega) only [Bv5,key,EVM,EVC,xe,EVP,EV,simprocAttr]
 |some j=>
  rw [h] at key;simp (disch:=omega) only [Bv5,key,EVM,EVC,xe,EVP,EV,simprocAttr]
theorem G1 (l:List (List UInt8)) (x:List UInt8) (hl:l.length≤1000000):S U9 2 [Bh l, .s x]=some [.b (decide (x∈l))]:=by refine Js6 (N:=1) rfl ?_;obtain ⟨k,h1,h2⟩:=Ek8 l x hl;simp (disch:=omega) only [Jf5,h2,EVM,EVC,xe,EVP,EV,simprocAttr];simp [h1]
def ixG {α:Type} (p:α→Bool) (k:Nat):List α→Int
 |[]=> -1
 |r::rs=>if p r=true then (k:Int) else ixG p (k+1) rs
theorem oh {α:Type} (p:α→Bool):∀(l:List α) (k:Nat),(0≤ixG p k l↔l.any p=true)∧ixG p k l≤k+l.length∧ -1≤ixG p k l
 |[],k=>by simp [ixG]
 |r::rs,k=>by
  have ih:=oh p rs (k+1);rcases Aq (p r) with h|h
  ·simp [ixG,h];omega
  ·simp only [ixG,h,List.any_cons,Ik,A0];refine ⟨by simpa using ih.1,?_,by simpa using ih.2.2⟩;have:=ih.2.1;simp only [Ad,if_false] at this ⊢;omega
theorem av (l:List (List UInt8)) (g:Nat) (caps:List PV) (p:List UInt8→Bool) (hl:l.length≤1000000) (h:∀r∈l,S g 1 (.s r::caps)=some [.b (p r)]):S fh 2 [Bh l, .f g caps]=some [.i .i64 (ixG p 0 l)]:=by
 refine Ib4 (N:=l.length+1) rfl ?_;have key:Cv9.ev S (l.length+1) [Bh l, .f g caps]=some (if ixG p 0 l= -1 then .yld 0 [] else .ret [.i .i64 (ixG p 0 l)]):=by
  refine Fc l (fun i=>[.i .i64 (i:Int)]) (fun i r=>if ixG p i r= -1 then .yld 0 [] else .ret [.i .i64 (ixG p i r)]) rfl (by omega) (fun i c r hd hi hc=> ?_) ?_
  ·have hp:=h c (A6 hc);rcases Aq (p c) with h1|h1
   ·rw [h1] at hp;right;have h2:¬((i:Int)= -1):=by omega
    simp (disch:=omega) only [bc,hc,hp,EVT,EVC,xe,EVP,EV,simprocAttr];simp [ixG,h1,h2,Out.goes]
   ·rw [h1] at hp;left;simp (disch:=omega) only [bc,hc,hp,EVT,EVC,xe,EVP,EV,simprocAttr];simp [ixG,h1]
  ·simp (disch:=omega) only [bc,EVT,EVC,xe,EVP,EV,simprocAttr];simp [ixG,Out.goes]
 by_cases h1:ixG p 0 l= -1
 ·rw [if_pos h1] at key;simp (disch:=omega) only [bc,key,h1,EVT,EVC,xe,EVP,EV,simprocAttr]
 ·rw [if_neg h1] at key;simp (disch:=omega) only [bc,key,EVT,EVC,xe,EVP,EV,simprocAttr]
theorem Rl (l:List (List UInt8)) (g:Nat) (caps:List PV) (p:List UInt8→Bool) (hl:l.length≤1000000) (h:∀r∈l,S g 1 (.s r::caps)=some [.b (p r)]):S gj 2 [Bh l, .f g caps]=some [.b (l.any p)]:=by
 refine Id0 (N:=1) rfl ?_;simp (disch:=omega) only [Iq0,av l g caps p hl h,EVC,xe,EVP,EV,simprocAttr];have:=(oh p l 0).1;rcases Aq (l.any p) with h1|h1
 ·rw [h1] at this ⊢;simp [this.2 rfl]
 ·rw [h1] at this ⊢;have h2:¬(0≤ixG p 0 l):=fun h=>by simpa using this.1 h
  simp [h2]
theorem kg (l:List Rec) (hl:l.length≤1000000):S Am8 1 [Ag l]=some [Ag l]:=by
 refine Jn0 (N:=1) rfl ?_;have h0:H7 16 (Ag []) (Ag l)=some (Ag l):=by simpa using Ix [] l (by simp;omega)
 simp (disch:=omega) only [Jd2,h0,EVT,EVC,xe,EVP,EV,simprocAttr]
theorem il {α:Type} (p:α→Bool):∀(l:List α) (k:Nat),0≤ixG p k l→∃j,ixG p k l=((k+j:Nat):Int)∧j<l.length∧(∀x∈l.take j,p x=false)∧∃x,l[j]? =some x∧p x=true
 |[],k,h=>by simp [ixG] at h
 |r::rs,k,h=>by
  rcases Aq (p r) with h1|h1
  ·exact ⟨0,by simp [ixG,h1],by simp,by simp,r,rfl,h1⟩
  ·have e:ixG p k (r::rs)=ixG p (k+1) rs:=by simp [ixG,h1]
   rw [e] at h ⊢;obtain ⟨j,g1,g2,g3,x,g4,g5⟩:=il p rs (k+1) h;refine ⟨j+1,by rw [g1];congr 1;omega,by simp;omega,fun y hy=> ?_,x,by simpa using g4,g5⟩;simp only [List.take_succ_cons,An] at hy;rcases hy with rfl|hy
   ·exact h1
   ·exact g3 y hy
theorem J3 {α:Type} (p:α→Bool) {l:List α} (h:∀x∈l,p x=false):l.filter (fun x=> !p x)=l:=by rw [Gt0];intro x hx;simp [h x hx]
def ixF (p:Rec→Bool) (k:Nat):List Rec→Int
 |[]=> -1
 |r::rs=>if p r=true then (k:Int) else ixF p (k+1) rs
theorem Cx4 (p:Rec→Bool):∀(l:List Rec) (k:Nat),(0≤ixF p k l↔l.any p=true)∧ixF p k l≤k+l.length∧ -1≤ixF p k l
 |[],k=>by simp [ixF]
 |r::rs,k=>by
  have ih:=Cx4 p rs (k+1);rcases Aq (p r) with h|h
  ·simp [ixF,h];omega
  ·simp only [ixF,h,List.any_cons,Ik,A0];refine ⟨by simpa using ih.1,?_,by simpa using ih.2.2⟩;have:=ih.2.1;simp only [Ad,if_false] at this ⊢;omega
theorem Pv (l:List Rec) (g:Nat) (caps:List PV) (p:Rec→Bool) (hl:l.length≤1000000) (h:∀r∈l,S g 1 (r.pv::caps)=some [.b (p r)]):S nn 2 [Ag l, .f g caps]=some [.i .i64 (ixF p 0 l)]:=by
 refine Jn2 (N:=l.length+1) rfl ?_;have key:Fc0.ev S (l.length+1) [Ag l, .f g caps]=some (if ixF p 0 l= -1 then .yld 0 [] else .ret [.i .i64 (ixF p 0 l)]):=by
  refine Fc l (fun i=>[.i .i64 (i:Int)]) (fun i r=>if ixF p i r= -1 then .yld 0 [] else .ret [.i .i64 (ixF p i r)]) rfl (by omega) (fun i c r hd hi hc=> ?_) ?_
  ·have hp:=h c (A6 hc);rcases Aq (p c) with h1|h1
   ·rw [h1] at hp;right;have h2:¬((i:Int)= -1):=by omega
    simp (disch:=omega) only [Bv2,hc,hp,EVC,xe,EVP,EV,simprocAttr];simp [ixF,h1,h2,Out.goes]
   ·rw [h1] at hp;left;simp (disch:=omega) only [Bv2,hc,hp,EVC,xe,EVP,EV,simprocAttr];simp [ixF,h1]
  ·simp (disch:=omega) only [Bv2,EVC,xe,EVP,EV,simprocAttr];simp [ixF,Out.goes]
 by_cases h1:ixF p 0 l= -1
 ·rw [if_pos h1] at key;simp (disch:=omega) only [Bv2,key,h1,EVC,xe,EVP,EV,simprocAttr]
 ·rw [if_neg h1] at key;simp (disch:=omega) only [Bv2,key,EVC,xe,EVP,EV,simprocAttr]
theorem Gr (l:List Rec) (g:Nat) (caps:List PV) (p:Rec→Bool) (hl:l.length≤1000000) (h:∀r∈l,S g 1 (r.pv::caps)=some [.b (p r)]):S fq 2 [Ag l, .f g caps]=some [.b (l.any p)]:=by
 refine Js2 (N:=1) rfl ?_;simp (disch:=omega) only [Jf3,Pv l g caps p hl h,EVC,xe,EVP,EV,simprocAttr];have:=(Cx4 p l 0).1;rcases Aq (l.any p) with h1|h1
 ·rw [h1] at this ⊢;simp [this.2 rfl]
 ·rw [h1] at this ⊢;have h2:¬(0≤ixF p 0 l):=fun h=>by simpa using this.1 h
  simp [h2]
end Go.X.G
/- The kind of a response. -/
namespace Go.X.G
open Go Go.X
theorem Hb3 (r:Rec) (q:Ques):S Wh 1 [r.pv,q.pv]=some [.b (decide (r.name=q.name) && (decide (r.typ=q.typ)||decide (q.typ=255)))]:=by refine Ig2 (N:=1) rfl ?_;by_cases h1:r.name=q.name<;>by_cases h2:r.typ=q.typ<;>by_cases h3:q.typ=255<;>simp (disch:=omega) only [Iq7,h1,h2,h3,EVM,EVC,xe,EVP,EV,simprocAttr]<;>simp [h1,h2,h3]
theorem T5 (l:List Rec) (q:Ques) (hl:l.length≤1000000):S An2 2 [Ag l,q.pv]=some [.b (Y3 l q.name q.typ)]:=by refine Jn8 (N:=1) rfl ?_;have h1:=Gr l Wh [q.pv] _ hl (fun r _=>Hb3 r q);unfold Y3;simp (disch:=omega) only [Jd5,h1,EVM,EVC,xe,EVP,EV,simprocAttr]
theorem Cz2 (l:List Rec) (n:List UInt8) (t:Int):(findR l n t).length≤l.length:=Cb _ _
theorem Ar7 (m:Msg) (hl:m.ans.length≤1000000):S Bt7 1 [m.pv]=some [Bh (Rx m.ans m.q.typ 8 m.q.name).1, .s (Rx m.ans m.q.typ 8 m.q.name).2]:=by
 refine Js9 (N:=100) rfl ?_;have key:Fd8.ev S 100 [m.pv]=some (.yld 0 [Bh ([]++(Rx m.ans m.q.typ (8 - ([]:List (List UInt8)).length) m.q.name).1), .s (Rx m.ans m.q.typ (8 - ([]:List (List UInt8)).length) m.q.name).2]):=by
  refine Ir (fun (a:List (List UInt8)×List UInt8)=>[Bh a.1, .s a.2]) (fun a=> .yld 0 [Bh (a.1++(Rx m.ans m.q.typ (8 - a.1.length) a.2).1), .s (Rx m.ans m.q.typ (8 - a.1.length) a.2).2]) (fun a=>a.1.length≤8) (fun a=>8 - a.1.length) ([],m.q.name) rfl (by simp) (by simp) (fun a ha=> ?_);obtain ⟨ns,n⟩:=a;simp only at ha ⊢;by_cases h8:ns.length=8
  ·right;have e:8 - ns.length=0:=by omega
   rw [e];simp (disch:=omega) only [Bv9,T5,M1,h8,EVM,EVC,xe,EVP,EV,simprocAttr]
   try simp [Rx,Out.goes]
  ·obtain ⟨k,hk⟩:∃k,8 - ns.length=k+1:=⟨7 - ns.length,by omega⟩;have hlt:ns.length<8:=by omega
   rw [hk];rcases Aq (Y3 m.ans n m.q.typ) with h1|h1
   ·right;have e:Rx m.ans m.q.typ (k+1) n=([],n):=by unfold Rx;rw [if_pos h1]
    rw [e];simp (disch:=omega) only [Bv9,T5,h1,EVM,EVC,xe,EVP,EV,simprocAttr]
    try simp [Out.goes]
   ·cases hf:findR m.ans n 5 with
    |nil=>
     right;have e:Rx m.ans m.q.typ (k+1) n=([],n):=by unfold Rx;rw [if_neg (by simp [h1]),hf]
     rw [e];simp (disch:=first|omega|(simp;omega)) only [Bv9,T5,M1,hf,h1,EVM,EVC,xe,EVP,EV,simprocAttr]
     try simp [Out.goes]
    |cons r rs=>
     left;have e:Rx m.ans m.q.typ (k+1) n=(n::(Rx m.ans m.q.typ k r.data.host).1,(Rx m.ans m.q.typ k r.data.host).2):=by unfold Rx;rw [if_neg (by simp [h1]),hf];simp only;cases k<;>rfl
     have hne:¬(((rs.length+1:Nat):Int)=0):=by omega
     refine ⟨(ns++[n],r.data.host),?_,by simp;omega,by simp;omega,?_⟩
     ·simp (disch:=first|omega|(simp;omega)) only [Bv9,T5,M1,hf,h1,EVM,EVC,xe,EVP,EV,simprocAttr]
     ·have e2:8 - (ns++[n]).length=k:=by simp;omega
      simp only [e2,e];simp
 simp only [Cy,By,Nat.sub_zero] at key;simp (disch:=omega) only [Bv9,key,EVM,xe,EVP,EV,simprocAttr]
end Go.X.G
/- What a response says, by the program and by the reference. -/
namespace Go.X.G
open Go Go.X
def Ij2:Rec:=⟨[],0,0,⟨false,0,0,[],[],[],0,0,0,0,0,0,0⟩⟩
def Il3:Option Rec→List PV
 |some r=>[r.pv, .b true]
 |none=>[Ij2.pv, .b false]
def zst (i:Nat):List PV:= .i .i64 (i:Int)::Ij2.cells
theorem uq (i:Nat):zst i=[.i .i64 (i:Int), .s [], .i .i64 0, .i .i64 0, .b false, .i .u64 0, .i .u64 0, .s [], .s [], .s [], .i .i64 0, .i .i64 0, .i .i64 0, .i .i64 0, .i .i64 0, .i .i64 0, .i .u64 0]:=rfl
theorem am:Ij2.cells=[.s [], .i .i64 0, .i .i64 0, .b false, .i .u64 0, .i .u64 0, .s [], .s [], .s [], .i .i64 0, .i .i64 0, .i .i64 0, .i .i64 0, .i .i64 0, .i .i64 0, .i .u64 0]:=rfl
def Jb3 (id:Nat):Option Rec→Out
 |some r=> .ret [r.pv, .b true]
 |none=> .yld id Ij2.cells
theorem dt (id:Nat) (r:Rec):Jb3 id (some r)= .ret [r.pv, .b true]:=rfl
theorem d3 (id:Nat):Jb3 id none= .yld id Ij2.cells:=rfl
theorem Ak1 (m:Msg) (t:Int) (zone:List UInt8) (hm:m.wf) (hz:Jl zone) (hl:m.auth.length≤1000000):S An3 3 [m.pv, .i .i64 t, .s zone]=some (Il3 (J1 m t zone)):=by
 refine Jn9 (N:=m.auth.length+1) rfl ?_;have gq:=hm.q.name;unfold Jl at hz gq;have key:Fc3.ev S (m.auth.length+1) [m.pv, .i .i64 t, .s zone]=some (Jb3 0 (m.auth.find? (Ak2 m t zone))):=by
  refine Fc m.auth zst (fun i r=>Jb3 0 (r.find? (Ak2 m t zone))) rfl (by omega) (fun i c r hd hi hc=> ?_) ?_
  ·have hp:=(hm.auth.2 c (A6 hc)).name;unfold Jl at hp;have hb:Ak2 m t zone c=(decide (c.typ=t) && under m.q.name c.name && (decide (zone=[])||(decide (c.name≠zone) && under c.name zone))):=rfl;rcases Aq (Ak2 m t zone c) with h|h
   ·right;have e:(c::r).find? (Ak2 m t zone)=some c:=by simp [h]
    rw [e,dt];rw [hb] at h;rw [uq];by_cases t1:c.typ=t
    ·rcases Aq (under m.q.name c.name) with t2|t2
     ·by_cases t3:zone=[]
      ·simp (disch:=omega) only [Xd,hc,D5,t1,t2,t3,EVM,EVC,xe,EVP,EV,simprocAttr]
       try simp [Out.goes]
      ·by_cases t4:c.name=zone
       ·exfalso;simp [t3,t4] at h
       ·rcases Aq (under c.name zone) with t5|t5
        ·simp (disch:=omega) only [Xd,hc,D5,t1,t2,t3,t4,t5,EVM,EVC,xe,EVP,EV,simprocAttr]
         try simp [Out.goes]
        ·exfalso;simp [t3,t4,t5] at h
     ·exfalso;simp [t2] at h
    ·exfalso;simp [t1] at h
   ·left;have e:(c::r).find? (Ak2 m t zone)=r.find? (Ak2 m t zone):=by simp [h]
    rw [e];refine ⟨?_,rfl⟩;rw [hb] at h;rw [uq,uq];by_cases t1:c.typ=t
    ·rcases Aq (under m.q.name c.name) with t2|t2
     ·by_cases t3:zone=[]
      ·exfalso;simp [t1,t2,t3] at h
      ·by_cases t4:c.name=zone
       ·simp (disch:=omega) only [Xd,hc,D5,t1,t2,t3,t4,EVM,EVC,xe,EVP,EV,simprocAttr]
        try simp
       ·rcases Aq (under c.name zone) with t5|t5
        ·exfalso;simp [t1,t2,t4,t5] at h
        ·simp (disch:=omega) only [Xd,hc,D5,t1,t2,t3,t4,t5,EVM,EVC,xe,EVP,EV,simprocAttr]
     ·simp (disch:=omega) only [Xd,hc,D5,t1,t2,EVM,EVC,xe,EVP,EV,simprocAttr]
    ·simp (disch:=omega) only [Xd,hc,D5,t1,EVM,EVC,xe,EVP,EV,simprocAttr]
  ·rw [uq];simp (disch:=omega) only [Xd,EVM,EVC,xe,EVP,EV,simprocAttr]
   try simp [d3,am,Out.goes]
 unfold J1;cases h:m.auth.find? (Ak2 m t zone) with
 |none=>
  rw [h,d3,am] at key;simp (disch:=omega) only [Xd,key,EVM,EVC,xe,EVP,EV,simprocAttr]
  try rfl
 |some r=>
  rw [h,dt] at key;simp (disch:=omega) only [Xd,key,EVM,EVC,xe,EVP,EV,simprocAttr]
  try rfl
theorem Vt (m:Msg) (zone:List UInt8) (hm:m.wf) (hz:Jl zone) (hl:m.auth.length≤1000000):S Ap1 2 [m.pv, .s zone]=some (match Bk4 m zone with|some r=>[.s r.name, .b true]|none=>[.s [], .b false]):=by
 refine Js8 (N:=1) rfl ?_;unfold Bk4;by_cases h:zone=[]
 ·simp (disch:=omega) only [Gt7,h,EVM,EVC,xe,EVP,EV,simprocAttr]
 ·have k:=Ak1 m 2 zone hm hz hl;rw [if_neg h];cases h2:J1 m 2 zone with
  |none=>
   rw [h2] at k;unfold Il3 at k;simp (disch:=omega) only [Gt7,h,k,EVM,EVC,xe,EVP,EV,simprocAttr]
   try rfl
  |some r=>
   rw [h2] at k;unfold Il3 at k;simp (disch:=omega) only [Gt7,h,k,EVM,EVC,xe,EVP,EV,simprocAttr]
end Go.X.G
/- Kinds, children and negative answers. -/
namespace Go.X.G
open Go Go.X
theorem Es5 {m:Msg} {zone:List UInt8} (h:(m.resp && decide (m.op=0) && (decide (m.code=0)||decide (m.code=3)) && !m.tc)=false):kindM m zone=0:=by unfold kindM;rw [if_neg (by simp [h])]
theorem Aj0 (m:Msg) (zone:List UInt8) (hm:m.wf) (hz:Jl zone) (h1:m.ans.length≤1000) (h2:m.auth.length≤1000):S Ap2 2 [m.pv, .s zone]=some [.i .i64 (kindM m zone)]:=by
 refine Jt0 (N:=1) rfl ?_;rcases Aq (m.resp && decide (m.op=0) && (decide (m.code=0)||decide (m.code=3)) && !m.tc) with hg|hg
 ·have k1:=Ar7 m (by omega);have k2:=Ak1 m 6 [] hm (by unfold Jl;simp) (by omega);have k3:=Vt m zone hm hz (by omega);have k4:=T5 m.ans ⟨(Rx m.ans m.q.typ 8 m.q.name).2,m.q.typ⟩ (by omega);unfold kindM;rw [if_pos hg];have g3:Jl (Rx m.ans m.q.typ 8 m.q.name).2:=by
   have go:∀(k:Nat) (n:List UInt8),Jl n→Jl (Rx m.ans m.q.typ k n).2:=by
    intro k
    induction k with
    |zero=>intro n hn;exact hn
    |succ k ih=>
     intro n hn;unfold Rx;split
     ·exact hn
     ·split
      ·exact hn
      ·rename_i r rs hf;have:r∈findR m.ans n 5:=by rw [hf];simp
       exact ih _ (hm.ans.2 r (Bf.1 this).1).data.host
   exact go 8 _ hm.q.name
  simp only at k4 ⊢;generalize hp:Rx m.ans m.q.typ 8 m.q.name=p at*;obtain ⟨ns,last⟩:=p;simp only at k1 k4 g3 ⊢;simp only [Aw,Am,decide_eq_true_eq,A9] at hg;obtain ⟨⟨⟨e1,e2⟩,e3⟩,e4⟩:=hg;have hns:(ns=[]∧ns.length=0)∨(ns≠[]∧¬ns.length=0∧(0:Int)<(ns.length:Int)):=by
   cases ns with
   |nil=>exact .inl ⟨rfl,rfl⟩
   |cons a b=>exact .inr ⟨by simp,by simp,by simp⟩
  cases q2:J1 m 6 [] with
  |none=>
   rw [q2] at k2;unfold Il3 at k2;cases q3:Bk4 m zone with
   |none=>
    rw [q3] at k3;simp only at k3;rcases Aq (Y3 m.ans last m.q.typ) with e5|e5<;>rcases hns with ⟨n1,n2⟩|⟨n1,n2,n3⟩<;>rcases e3 with e3|e3<;>simp (disch:=omega) only [Xl,k1,k2,k3,k4,e1,e2,e3,e4,e5,n2,EVM,EVC,xe,EVP,EV,simprocAttr]<;>simp [n1]
   |some r3=>
    rw [q3] at k3;simp only at k3;rcases Aq (Y3 m.ans last m.q.typ) with e5|e5<;>rcases hns with ⟨n1,n2⟩|⟨n1,n2,n3⟩<;>rcases e3 with e3|e3<;>simp (disch:=omega) only [Xl,k1,k2,k3,k4,e1,e2,e3,e4,e5,n2,EVM,EVC,xe,EVP,EV,simprocAttr]<;>simp [n1]
  |some r2=>
   rw [q2] at k2;unfold Il3 at k2;cases q3:Bk4 m zone with
   |none=>
    rw [q3] at k3;simp only at k3;rcases Aq (Y3 m.ans last m.q.typ) with e5|e5<;>rcases hns with ⟨n1,n2⟩|⟨n1,n2,n3⟩<;>rcases e3 with e3|e3<;>simp (disch:=omega) only [Xl,k1,k2,k3,k4,e1,e2,e3,e4,e5,n2,EVM,EVC,xe,EVP,EV,simprocAttr]<;>simp [n1]
   |some r3=>
    rw [q3] at k3;simp only at k3;rcases Aq (Y3 m.ans last m.q.typ) with e5|e5<;>rcases hns with ⟨n1,n2⟩|⟨n1,n2,n3⟩<;>rcases e3 with e3|e3<;>simp (disch:=omega) only [Xl,k1,k2,k3,k4,e1,e2,e3,e4,e5,n2,EVM,EVC,xe,EVP,EV,simprocAttr]<;>simp [n1]
 ·rw [Es5 hg];rcases Aq m.resp with e1|e1
  ·by_cases e2:m.op=0
   ·by_cases e3:m.code=0
    ·have e4:m.tc=true:=by simpa [e1,e2,e3] using hg
     simp (disch:=omega) only [Xl,e1,e2,e3,e4,EVM,EVC,xe,EVP,EV,simprocAttr]
    ·by_cases e5:m.code=3
     ·have e4:m.tc=true:=by simpa [e1,e2,e5] using hg
      simp (disch:=omega) only [Xl,e1,e2,e5,e4,EVM,EVC,xe,EVP,EV,simprocAttr]
     ·simp (disch:=omega) only [Xl,e1,e2,e3,e5,EVM,EVC,xe,EVP,EV,simprocAttr]
   ·simp (disch:=omega) only [Xl,e1,e2,EVM,EVC,xe,EVP,EV,simprocAttr]
  ·simp (disch:=omega) only [Xl,e1,EVM,EVC,xe,EVP,EV,simprocAttr]
structure MOk (m:Msg):Prop where
 wf:m.wf
 ans:m.ans.length≤1000
 auth:m.auth.length≤1000
 ext:m.ext.length≤100000
theorem Lc {l:List Rec} (p:Rec→Bool) (h:Ov l):Ov (l.filter p):=⟨Cd (Cb _ _) h.1,fun r hr=>h.2 r (Bf.1 hr).1⟩
theorem MOk.inside {m:Msg} (h:MOk m) (zone:List UInt8):MOk (insideM m zone):=
 ⟨⟨h.wf.id,h.wf.op,h.wf.code,h.wf.size,h.wf.q,Lc _ h.wf.ans,Lc _ h.wf.auth,Lc _ h.wf.ext⟩,
  Cd (Cb _ _) h.ans,Cd (Cb _ _) h.auth,Cd (Cb _ _) h.ext⟩
theorem Q9 (m:Msg) (zone:List UInt8) (hm:MOk m) (hz:Jl zone):S Ap4 2 [m.pv, .s zone]=some [.i .i64 (kindM (insideM m zone) zone)]:=by refine Jt2 (N:=1) rfl ?_;have k1:=kw m zone hm.wf hz hm.ans hm.auth hm.ext;have hi:=hm.inside zone;have k2:=Aj0 (insideM m zone) zone hi.wf hz hi.ans hi.auth;simp (disch:=omega) only [Jf6,k1,k2,EVM,EVC,xe,EVP,EV,simprocAttr]
def qw (c:List UInt8×List (List UInt8)×Bool):List PV:=[.s c.1,Bh c.2.1, .b c.2.2]
theorem Kk7 {m:Msg} {zone:List UInt8} (h:kindM m zone=3):∃r,Bk4 m zone=some r:=by
 cases hr:Bk4 m zone with
 |some r=>exact ⟨r,rfl⟩
 |none=>
  exfalso;unfold kindM at h;simp only [hr,Lv,Ad,false_and,if_false] at h;split at h
  ·split at h
   ·cases h
   ·split at h
    ·cases h
    ·split at h
     ·split at h<;>cases h
     ·cases h
  ·cases h
theorem km (m:Msg) (zone:List UInt8) (hm:MOk m) (hz:Jl zone):S Ap6 2 [m.pv, .s zone]=some (qw (childN (insideM m zone) zone)):=by
 refine Jt7 (N:=2000) rfl ?_;have k1:=kw m zone hm.wf hz hm.ans hm.auth hm.ext;have hi:=hm.inside zone;generalize insideM m zone=x at*;have k2:=Aj0 x zone hi.wf hz hi.ans hi.auth;have k3:=Vt x zone hi.wf hz (by have:=hi.auth;omega);have ha:=hi.auth;unfold childN;by_cases e:kindM x zone=3
 ·rw [if_pos e];obtain ⟨r,hr⟩:=Kk7 e;rw [hr] at k3;simp only [hr] at k3 ⊢;have hfl:=Cz2 x.auth r.name 2;have key:Ff2.ev S 2000 [m.pv, .s zone,x.pv, .i .i64 3, .s r.name, .b true,Ag (findR x.auth r.name 2)]=some (.yld 0 [Bh (dd [] (findR x.auth r.name 2))]):=by
   generalize findR x.auth r.name 2=F at*;refine Ex F (fun i (g:List (List UInt8))=>[Bh g, .i .i64 (i:Int)]) (fun i g r=> .yld 0 [Bh (dd g r)]) (fun i g=>g.length≤i) [] rfl (Cc _) (by omega) (fun i g c r hd hi hc hI=> ?_) (fun g _=> ?_)
   ·left;by_cases hin:c.data.host∈g
    ·refine ⟨g,?_,by omega,by rw [dd,if_pos hin]⟩;simp (disch:=omega) only [Bw6,hc,G1,hin,EVM,EVC,xe,EVP,EV,simprocAttr]
    ·refine ⟨g++[c.data.host],?_,by simp;omega,by rw [dd,if_neg hin]⟩;simp (disch:=omega) only [Bw6,hc,G1,hin,EVM,EVC,xe,EVP,EV,simprocAttr]
   ·simp (disch:=omega) only [Bw6,EVM,EVC,xe,EVP,EV,simprocAttr]
    try simp [Out.goes,dd]
  rw [e] at k2;simp (disch:=omega) only [Bw6,k1,k2,k3,M1,key,EVM,EVC,xe,EVP,EV,simprocAttr]
  try rfl
 ·rw [if_neg e];simp (disch:=omega) only [Bw6,k1,k2,e,EVM,EVC,xe,EVP,EV,simprocAttr]
  try rfl
end Go.X.G
/- The laws on trust. -/
namespace Go.X.G
open Go Go.X
def nj:Msg:=⟨0,0,0,true,false,false,false,false,false,false,false,0,⟨[97,46,100,46,120,46],1⟩,[],
 [⟨[100,46,120,46],2,9,⟨false,0,0,[110,46,100,46,120,46],[],[],0,0,0,0,0,0,0⟩⟩],
 [⟨[110,46,100,46,120,46],1,9,⟨false,0,1,[],[],[],0,0,0,0,0,0,0⟩⟩]⟩
theorem Hv6:S Ht0 0 []=some [nj.pv]:=by
 refine Kg5 (N:=1) rfl ?_;simp (disch:=omega) only [Kg3,EVM,EVC,xe,EVP,EV,simprocAttr]
 try rfl
theorem yr:MOk nj:=by
 refine ⟨⟨?_,?_,?_,?_,⟨?_,?_⟩,?_,?_,?_⟩,?_,?_,?_⟩
 all_goals first|(unfold Is nj;simp;done)|(unfold Jl nj;simp;done)|(simp [nj];done)|skip
 ·refine ⟨by simp [nj],fun r hr=> ?_⟩;simp [nj] at hr
 ·refine ⟨by simp [nj],fun r hr=> ?_⟩;simp only [nj,Bl] at hr;subst hr;constructor
  ·unfold Jl;decide
  ·unfold Is;decide
  ·unfold Is;decide
  ·constructor<;>first|(unfold Jl;decide)|(unfold Is;decide)|(unfold Ex2;decide)
 ·refine ⟨by simp [nj],fun r hr=> ?_⟩;simp only [nj,Bl] at hr;subst hr;constructor
  ·unfold Jl;decide
  ·unfold Is;decide
  ·unfold Is;decide
  ·constructor<;>first|(unfold Jl;decide)|(unfold Is;decide)|(unfold Ex2;decide)
theorem Bj2:S Cj9 0 []=some [.b true]:=by
 refine Jt8 (N:=1) rfl ?_;have k1:=km nj [120,46] yr (by unfold Jl;decide);have k2:=Q9 nj [120,46] yr (by unfold Jl;decide);have e1:childN (insideM nj [120,46]) [120,46]=([100,46,120,46],[[110,46,100,46,120,46]],true):=by kernel_rfl
 have e2:kindM (insideM nj [120,46]) [120,46]=3:=by kernel_rfl
 rw [e1] at k1;rw [e2] at k2;unfold qw at k1;simp (disch:=omega) only [Jf7,Hv6,k1,k2,EVM,EVC,xe,EVP,EV,simprocAttr]
end Go.X.G
/- The canonical order of names is a total order. -/
namespace Go.X.G
open Go Go.X
structure TO {α:Type} (lt:α→α→Prop):Prop where
 irr:∀a,¬lt a a
 tr:∀a b c,lt a b→lt b c→lt a c
 tri:∀a b,lt a b∨a=b∨lt b a
theorem TO.asym {α:Type} {lt:α→α→Prop} (h:TO lt) {a b:α} (h1:lt a b):¬lt b a:=fun h2=>h.irr a (h.tr _ _ _ h1 h2)
theorem TO.ntr {α:Type} {lt:α→α→Prop} (h:TO lt) {a b c:α} (h1:¬lt a b) (h2:¬lt b c):¬lt a c:=by
 intro h3;rcases h.tri b a with h4|h4|h4
 ·exact h2 (h.tr _ _ _ h4 h3)
 ·subst h4;exact h2 h3
 ·exact h1 h4
def lex {α:Type} (lt:α→α→Prop):List α→List α→Prop
 |[],[]=>False
 |[],_::_=>True
 |_::_,[]=>False
 |a::x,b::y=>lt a b∨(a=b∧lex lt x y)
theorem Cq0 {α:Type} {lt:α→α→Prop} (h:TO lt):∀x:List α,¬lex lt x x
 |[]=>by simp [lex]
 |a::x=>by simp only [lex,true_and,not_or];exact ⟨h.irr a,Cq0 h x⟩
theorem Fb3 {α:Type} {lt:α→α→Prop} (h:TO lt):∀x y z:List α,lex lt x y→lex lt y z→lex lt x z
 |[],[],_,h1,_=>by simp [lex] at h1
 |[],_::_,[],_,h2=>by simp [lex] at h2
 |[],_::_,_::_,_,_=>by simp [lex]
 |_::_,[],_,h1,_=>by simp [lex] at h1
 |_::_,_::_,[],_,h2=>by simp [lex] at h2
 |a::x,b::y,c::z,h1,h2=>by
  simp only [lex] at h1 h2 ⊢;rcases h1 with h1|⟨rfl,h1⟩
  ·rcases h2 with h2|⟨rfl,h2⟩
   ·exact .inl (h.tr _ _ _ h1 h2)
   ·exact .inl h1
  ·rcases h2 with h2|⟨rfl,h2⟩
   ·exact .inl h2
   ·exact .inr ⟨rfl,Fb3 h x y z h1 h2⟩
theorem lex_tri {α:Type} {lt:α→α→Prop} (h:TO lt):∀x y:List α,lex lt x y∨x=y∨lex lt y x
 |[],[]=> .inr (.inl rfl)
 |[],_::_=> .inl (by simp [lex])
 |_::_,[]=> .inr (.inr (by simp [lex]))
 |a::x,b::y=>by
  simp only [lex];rcases h.tri a b with h1|rfl|h1
  ·exact .inl (.inl h1)
  ·rcases lex_tri h x y with h2|rfl|h2
   ·exact .inl (.inr ⟨rfl,h2⟩)
   ·exact .inr (.inl rfl)
   ·exact .inr (.inr (.inr ⟨rfl,h2⟩))
  ·exact .inr (.inr (.inl h1))
theorem TO.lex {α:Type} {lt:α→α→Prop} (h:TO lt):TO (G.lex lt):=⟨Cq0 h,Fb3 h,lex_tri h⟩
theorem Jh3:TO (fun a b:UInt8=>a<b):=⟨fun a=>UInt8.lt_irrefl a,fun a b c h1 h2=>UInt8.lt_trans h1 h2,fun a b=>by
 rcases UInt8.lt_or_le a b with h|h
 ·exact .inl h
 ·rcases UInt8.lt_or_le b a with h2|h2
  ·exact .inr (.inr h2)
  ·exact .inr (.inl (UInt8.le_antisymm h2 h))⟩
abbrev ltB:List UInt8→List UInt8→Prop:=lex fun a b:UInt8=>a<b
theorem Eq8:TO ltB:=Jh3.lex
theorem Uf:∀a b:List UInt8,Op.bytesLess a b=true↔ltB a b
 |[],[]=>by simp [Op.bytesLess,lex]
 |[],_::_=>by simp [Op.bytesLess,lex]
 |_::_,[]=>by simp [Op.bytesLess,lex]
 |a::x,b::y=>by have ih:=Uf x y;simp only [Op.bytesLess,Am,decide_eq_true_eq,Aw,beq_iff_eq,lex];rw [ih]
theorem Sk (a b:List UInt8):cmpS a b<0↔ltB a b:=by
 rw [←Uf];unfold cmpS;cases h:Op.bytesLess a b
 ·simp only [Ad,if_false,iff_false];split<;>omega
 ·simp
abbrev ltL:List (List UInt8)→List (List UInt8)→Prop:=lex ltB
theorem to_L:TO ltL:=Eq8.lex
def At5 (a b:List (List UInt8)):Int:=match Us a b with
 |some c=>c
 |none=>if a.length<b.length then -1 else if b.length<a.length then 1 else 0
theorem Aq5:∀a b:List (List UInt8),At5 a b<0↔ltL a b
 |[],[]=>by simp [At5,Us,lex]
 |[],_::_=>by simp [At5,Us,lex]
 |_::_,[]=>by simp [At5,Us,lex]
 |x::xs,y::ys=>by
  have ih:=Aq5 xs ys;simp only [At5,Us,lex] at ih ⊢;by_cases h:x=y
  ·subst h;rw [if_pos rfl];simp only [A0,Nat.add_lt_add_iff_right,true_and];rw [ih];constructor
   ·exact fun h=> .inr h
   ·rintro (h|h)
    ·exact absurd h (Eq8.irr x)
    ·exact h
  ·rw [if_neg h];simp only;rw [Sk];simp [h]
theorem pp (a b:List (List UInt8)):At4 a b=At5 a.reverse b.reverse:=by unfold At4 At5;cases Us a.reverse b.reverse<;>simp
theorem Cc4 (a b:List (List UInt8)):At4 a b<0↔ltL a.reverse b.reverse:=by rw [←Aq5,pp]
def ltN (a b:List UInt8):Prop:=if vld a=true then (if vld b=true then ltL (lbl a).reverse (lbl b).reverse else True) else (if vld b=true then False else ltB a b)
theorem Fz (a b:List UInt8):Jm a b<0↔ltN a b:=by
 unfold ltN;rcases Aq (vld a) with ha|ha
 ·rcases Aq (vld b) with hb|hb
  ·rw [Zh ha hb,Cc4,if_pos ha,if_pos hb]
  ·unfold Jm;simp [ha,hb]
 ·rcases Aq (vld b) with hb|hb
  ·unfold Jm;simp [ha,hb]
  ·have e:Jm a b=cmpS a b:=by unfold Jm;simp [ha,hb]
   rw [e,Sk];simp [ha,hb]
theorem to_N:TO ltN:=by
 refine ⟨fun a h=> ?_,fun a b c h1 h2=> ?_,fun a b=> ?_⟩
 ·unfold ltN at h;split at h
  ·exact to_L.irr _ h
  ·exact Eq8.irr _ h
 ·unfold ltN at*;rcases Aq (vld a) with ha|ha<;>rcases Aq (vld b) with hb|hb<;>rcases Aq (vld c) with hc|hc<;>
   simp only [ha,hb,hc,if_true,Ad,if_false] at h1 h2 ⊢
  ·exact to_L.tr _ _ _ h1 h2
  ·exact Eq8.tr _ _ _ h1 h2
 ·unfold ltN;rcases Aq (vld a) with ha|ha<;>rcases Aq (vld b) with hb|hb<;>simp only [ha,hb,if_true,Ad,if_false]
  ·rcases to_L.tri (lbl a).reverse (lbl b).reverse with h|h|h
   ·exact .inl h
   ·exact .inr (.inl (Lm ha hb (List.reverse_inj.1 h)))
   ·exact .inr (.inr h)
  ·simp
  ·simp
  ·exact Eq8.tri a b
theorem H1 {a b:List UInt8}:Jm a b=0↔a=b:=by
 constructor
 ·intro h;rcases Aq (vld a) with ha|ha
  ·rcases Aq (vld b) with hb|hb
   ·rw [Zh ha hb] at h;have key:∀x y:List (List UInt8),At5 x y=0→x=y:=by
     intro x
     induction x with
     |nil=>intro y hy;cases y with
      |nil=>rfl
      |cons=>simp [At5,Us] at hy
     |cons x xs ih=>intro y hy;cases y with
      |nil=>simp [At5,Us] at hy
      |cons y ys=>
       simp only [At5,Us] at hy ih;by_cases e:x=y
       ·subst e;rw [if_pos rfl] at hy;simp only [A0,Nat.add_lt_add_iff_right] at hy;rw [ih ys hy]
       ·rw [if_neg e] at hy;exact absurd (I1.1 hy) e
    rw [pp] at h;exact Lm ha hb (List.reverse_inj.1 (key _ _ h))
   ·unfold Jm at h;simp [ha,hb] at h
  ·rcases Aq (vld b) with hb|hb
   ·unfold Jm at h;simp [ha,hb] at h
   ·have e:Jm a b=cmpS a b:=by unfold Jm;simp [ha,hb]
    rw [e] at h;exact I1.1 h
 ·rintro rfl;have h1:=Fz a a;have h2:¬Jm a a<0:=fun h=>to_N.irr a (h1.1 h);have key:∀x:List (List UInt8),At5 x x=0:=by
   intro x
   induction x with
   |nil=>rfl
   |cons x xs ih=>
    simp only [At5,Us] at ih ⊢;simp only [if_true,A0,Nat.add_lt_add_iff_right];exact ih
  rcases Aq (vld a) with ha|ha
  ·rw [Zh ha ha];rw [pp];exact key _
  ·have e:Jm a a=cmpS a a:=by unfold Jm;simp [ha]
   rw [e];exact I1.2 rfl
end Go.X.G
/- Zones: what the reference's check gives. -/
namespace Go.X.G
open Go Go.X
def Ew (n top:List UInt8):Bool:=decide (n≠top) && under n top
def i6 (l:List Rec) (n:List UInt8) (t:Int):Bool:=decide (0<(findR l n t).length)
def Pk (r x:Rec):Bool:=
 !decide (x.name=r.name)||(!(decide (x.typ=r.typ) && decide (r.typ≠46) && decide (x.ttl≠r.ttl)) && !(decide (x.typ=r.typ) && (decide (r.typ=6)||decide (r.typ=5)||decide (r.typ=39)) && decide (x≠r)) &&
  !(decide (r.typ=5) && decide (x.typ≠5) && decide (x.typ≠46) && decide (x.typ≠47)))
def Z1 (z:Zone) (r:Rec):Bool:=z.recs.all (Pk r)
def Ow (z:Zone) (r x:Rec):Bool:=
 !(decide (x.typ=39) && Ew r.name x.name) && !(decide (x.typ=2) && Ew x.name z.origin && Ew r.name x.name && decide (r.typ≠1) && decide (r.typ≠28))
def Yk (t:Int):Bool:=decide (t=2)||decide (t=43)||decide (t=47)||decide (t=46)||decide (t=1)||decide (t=28)
def Yq (z:Zone) (r:Rec):Bool:=
 if (lbl r.name)[0]? =some [42]∧(r.typ=2∨r.typ=39) then false
 else z.recs.all (Ow z r) && (if Ew r.name z.origin && i6 z.recs r.name 2 then Yk r.typ else decide (r.typ≠43))
def Tv (z:Zone) (r:Rec):Bool:=under r.name z.origin && !(decide (r.typ=6) && decide (r.name≠z.origin)) && Z1 z r && Yq z r
def W5 (z:Zone):Int:=
 if vld z.origin=false then 2
 else if 2048<z.recs.length then 9
 else if z.recs.all (fun r=>decide ((findR z.recs r.name r.typ).length≤64))=false then 9
 else if z.recs.all Pl=false then 5
 else if z.recs≠sortR z.recs then 7
 else if (findR z.recs z.origin 6).length≠1∨i6 z.recs z.origin 2=false then 13
 else if z.recs.all (Tv z)=false then 13
 else 0
end Go.X.G
/- The order of records; what a checked zone is like. -/
namespace Go.X.G
open Go Go.X
theorem TO.prod {α β:Type} {l1:α→α→Prop} {l2:β→β→Prop} (h1:TO l1) (h2:TO l2):TO (fun p q:α×β=>l1 p.1 q.1∨(p.1=q.1∧l2 p.2 q.2)) where
 irr:=fun p h=>by
  rcases h with h|⟨_,h⟩
  ·exact h1.irr _ h
  ·exact h2.irr _ h
 tr:=fun p q r a b=>by
  rcases a with a|⟨a,a'⟩<;>rcases b with b|⟨b,b'⟩
  ·exact .inl (h1.tr _ _ _ a b)
  ·exact .inl (b▸a)
  ·exact .inl (a▸b)
  ·exact .inr ⟨a.trans b,h2.tr _ _ _ a' b'⟩
 tri:=fun p q=>by
  rcases h1.tri p.1 q.1 with a|a|a
  ·exact .inl (.inl a)
  ·rcases h2.tri p.2 q.2 with b|b|b
   ·exact .inl (.inr ⟨a,b⟩)
   ·exact .inr (.inl (Prod.ext a b))
   ·exact .inr (.inr (.inr ⟨a.symm,b⟩))
  ·exact .inr (.inr (.inl a))
theorem Iw6:TO (fun a b:Int=>a<b):=⟨fun a h=>by omega,fun a b c h1 h2=>by omega,fun a b=>by omega⟩
theorem Zl (a b:Int):Aq3 a b<0↔a<b:=by unfold Aq3;split<;>(try split)<;>omega
theorem H2 (a b:Int):Aq3 a b=0↔a=b:=by unfold Aq3;split<;>(try split)<;>omega
abbrev Key:=List UInt8×Int×List UInt8
abbrev ltK:Key→Key→Prop:=fun p q=>ltN p.1 q.1∨(p.1=q.1∧(p.2.1<q.2.1∨(p.2.1=q.2.1∧ltB p.2.2 q.2.2)))
theorem to_K:TO ltK:=to_N.prod (Iw6.prod Eq8)
def Eq9 (r:Rec):Key:=(r.name,r.typ,Kq r.typ r.data)
abbrev ltR (a b:Rec):Prop:=ltK (Eq9 a) (Eq9 b)
theorem N1 {r:Rec} (h:Pl r=true):Ey r.typ r.data=true:=by unfold Pl at h;simp only [Aw] at h;exact h.2
theorem br {r:Rec} (h:Pl r=true):vld r.name=true:=by unfold Pl at h;simp only [Aw] at h;exact h.1.1.1.1
theorem Fg1 {t:Int} {a b:Dat} (ha:Ey t a=true) (hb:Ey t b=true):Fq6 t a b=cmpS (Kq t a) (Kq t b):=by unfold Fq6;rw [ha,hb];rfl
theorem Aq4 {a b:Rec} (ha:Pl a=true) (hb:Pl b=true):Ut a b<0↔ltR a b:=by
 unfold Ut ltR ltK Eq9;simp only;by_cases h1:Jm a.name b.name=0
 ·rw [if_neg (by simp [h1])];have e1:=H1.1 h1;have n1:¬ltN a.name b.name:=by rw [e1];exact to_N.irr _
  by_cases h2:Aq3 a.typ b.typ=0
  ·rw [if_neg (by simp [h2])];have e2:=(H2 _ _).1 h2;have ha':=N1 ha;have hb':=N1 hb;rw [e2] at ha' ⊢;rw [Fg1 ha' hb',Sk];constructor
   ·intro h;exact .inr ⟨e1, .inr ⟨rfl,h⟩⟩
   ·rintro (h|⟨_,h|⟨_,h⟩⟩)
    ·exact absurd h n1
    ·omega
    ·exact h
  ·rw [if_pos h2,Zl];have e2:a.typ≠b.typ:=fun e=>h2 ((H2 _ _).2 e);constructor
   ·intro h;exact .inr ⟨e1, .inl h⟩
   ·rintro (h|⟨_,h|⟨h,_⟩⟩)
    ·exact absurd h n1
    ·exact h
    ·exact absurd h e2
 ·rw [if_pos h1,Fz];have e1:a.name≠b.name:=fun e=>h1 (H1.2 e);constructor
  ·intro h;exact .inl h
  ·rintro (h|⟨h,_⟩)
   ·exact h
   ·exact absurd h e1
theorem jp {a b:Rec} (ha:Pl a=true) (hb:Pl b=true):Ut a b=0↔Eq9 a=Eq9 b:=by
 unfold Ut Eq9;by_cases h1:Jm a.name b.name=0
 ·rw [if_neg (by simp [h1])];have e1:=H1.1 h1;by_cases h2:Aq3 a.typ b.typ=0
  ·rw [if_neg (by simp [h2])];have e2:=(H2 _ _).1 h2;have ha':=N1 ha;have hb':=N1 hb;rw [e2] at ha' ⊢;rw [Fg1 ha' hb',I1];simp [e1]
  ·rw [if_pos h2];have e2:a.typ≠b.typ:=fun e=>h2 ((H2 _ _).2 e);constructor
   ·intro h;exact absurd h h2
   ·intro h;injection h with _ h;injection h with h _;exact absurd h e2
 ·rw [if_pos h1];have e1:a.name≠b.name:=fun e=>h1 (H1.2 e);constructor
  ·intro h;exact absurd h h1
  ·intro h;injection h with h _;exact absurd h e1
theorem T3 {x:Rec} (hx:Pl x=true):∀(l:List Rec),(∀r∈l,Pl r=true)→l.Pairwise ltR→(lv x l).Pairwise ltR
 |[],_,_=>by simp [lv]
 |y::r,hv,h=>by
  obtain ⟨h1,h2⟩:=A5.1 h;have hy:=hv y (.head _);have ih:=T3 hx r (fun w hw=>hv w (.tail _ hw)) h2;simp only [lv];by_cases c:Ut y x<0
  ·rw [if_pos c];refine A5.2 ⟨fun w hw=> ?_,ih⟩;rcases insR_mem x r w hw with rfl|hw
   ·exact (Aq4 hy hx).1 c
   ·exact h1 w hw
  ·rw [if_neg c];by_cases e:Ut y x=0
   ·rw [if_pos e];split
    ·have ke:=(jp hy hx).1 e;refine A5.2 ⟨fun w hw=> ?_,h2⟩;have:=h1 w hw;show ltK (Eq9 x) (Eq9 w);rw [←ke];exact this
    ·exact h
   ·rw [if_neg e];have hxy:ltR x y:=by
     rcases to_K.tri (Eq9 x) (Eq9 y) with q|q|q
     ·exact q
     ·exact absurd ((jp hy hx).2 q.symm) e
     ·exact absurd ((Aq4 hy hx).2 q) c
    refine A5.2 ⟨fun w hw=> ?_,h⟩;rcases An.1 hw with rfl|hw
    ·exact hxy
    ·exact to_K.tr _ _ _ hxy (h1 w hw)
theorem Qg (l:List Rec) (hv:∀r∈l,Pl r=true):(sortR l).Pairwise ltR∧∀r∈sortR l,r∈l:=by
 have:∀(l a:List Rec),(∀r∈l,Pl r=true)→(∀r∈a,Pl r=true)→a.Pairwise ltR→(l.foldl (fun acc x=>lv x acc) a).Pairwise ltR∧∀r∈l.foldl (fun acc x=>lv x acc) a,r∈a∨r∈l:=by
  intro l
  induction l with
  |nil=>intro a _ _ h;exact ⟨h,fun r hr=> .inl hr⟩
  |cons x r ih=>
   intro a h1 h2 h3;have hx:=h1 x (.head _);obtain ⟨g1,g2⟩:=ih (lv x a) (fun w hw=>h1 w (.tail _ hw)) (fun w hw=>by
    rcases insR_mem x a w hw with rfl|hw
    ·exact hx
    ·exact h2 w hw) (T3 hx a h2 h3)
   refine ⟨g1,fun w hw=> ?_⟩;rcases g2 w hw with hw|hw
   ·rcases insR_mem x a w hw with rfl|hw
    ·exact .inr (.head _)
    ·exact .inl hw
   ·exact .inr (.tail _ hw)
 obtain ⟨h1,h2⟩:=this l [] hv (fun r hr=>by cases hr) .nil;exact ⟨h1,fun r hr=>(h2 r hr).resolve_left (by simp)⟩
structure ZOk (z:Zone):Prop where
 origin:vld z.origin=true
 small:z.recs.length≤2048
 valid:∀r∈z.recs,Pl r=true
 rising:z.recs.Pairwise ltR
 soa:(findR z.recs z.origin 6).length=1
 ns:i6 z.recs z.origin 2=true
 recs:∀r∈z.recs,Tv z r=true
theorem Cc9 {z:Zone} (h:W5 z=0):ZOk z:=by
 unfold W5 at h;split at h
 ·cases h
 ·rename_i h1;split at h
  ·cases h
  ·rename_i h2;split at h
   ·cases h
   ·split at h
    ·cases h
    ·rename_i h4;split at h
     ·cases h
     ·rename_i h5;split at h
      ·cases h
      ·rename_i h6;split at h
       ·cases h
       ·rename_i h7;simp only [Fh,Bc] at h1 h4 h7;simp only [not_or,ne_eq,I8,Fh] at h5 h6;refine ⟨h1,by omega,h4,?_,h6.1,h6.2,h7⟩;rw [h5];exact (Qg z.recs h4).1
theorem ZOk.beside {z:Zone} (h:ZOk z) {r x:Rec} (hr:r∈z.recs) (hx:x∈z.recs):Pk r x=true:=by have:=h.recs r hr;unfold Tv at this;simp only [Aw] at this;have h2:=this.1.2;unfold Z1 at h2;exact Bc.1 h2 x hx
theorem ZOk.under {z:Zone} (h:ZOk z) {r:Rec} (hr:r∈z.recs):under r.name z.origin=true:=by have:=h.recs r hr;unfold Tv at this;simp only [Aw] at this;exact this.1.1.1
theorem ZOk.single {z:Zone} (h:ZOk z) (n:List UInt8) (t:Int) (ht:t=6∨t=5∨t=39):(findR z.recs n t).length≤1:=by
 have hp:(findR z.recs n t).Pairwise ltR:=h.rising.filter _;have hm:∀x∈findR z.recs n t,x∈z.recs∧x.name=n∧x.typ=t:=fun x hx=>by obtain ⟨h1,h2⟩:=Bf.1 hx;simp only [isK,Aw,decide_eq_true_eq] at h2;exact ⟨h1,h2.1,h2.2⟩
 generalize findR z.recs n t=l at*
 match l,hp,hm with
 |[],_,_=>simp
 |[_],_,_=>simp
 |a::b::r,hp,hm=>
  exfalso;have hab:ltR a b:=(A5.1 hp).1 b (.head _);obtain ⟨a1,a2,a3⟩:=hm a (.head _);obtain ⟨b1,b2,b3⟩:=hm b (.tail _ (.head _));have hb:=h.beside a1 b1;have e:b=a:=by
   unfold Pk at hb;rw [a2,a3,b2,b3] at hb;have ht':(decide (t=6)||decide (t=5)||decide (t=39))=true:=by rcases ht with h|h|h<;>simp [h]
   rw [ht'] at hb;simp only [decide_true,Ks,Ik,Pg,Pf,Aw,A9,decide_eq_false_iff_not,ne_eq,I8] at hb;exact hb.1.2
  rw [e] at hab;exact to_K.irr _ hab
end Go.X.G
/- Sorted lists of names, each once. -/
namespace Go.X.G
open Go Go.X
def Rh {α:Type} (e:α→α→Bool):α→List α→List α
 |_,[]=>[]
 |p,c::r=>if e c p=true then Rh e c r else c::Rh e c r
def cpt {α:Type} (e:α→α→Bool):List α→List α
 |[]=>[]
 |x::r=>x::Rh e x r
theorem jm {α:Type} (e:α→α→Bool) (c:α):∀(r:List α) (p:α),Rh e p (r++[c])=Rh e p r++(if e c ((p::r).getLast (by simp))=true then [] else [c])
 |[],p=>by simp only [Cy,Rh,List.getLast_singleton];rfl
 |x::r,p=>by
  have ih:=jm e c r x;simp only [B9,Rh,List.getLast_cons_cons];split
  ·exact ih
  ·rw [ih];rfl
theorem Mp {α:Type} (e:α→α→Bool) (c:α) (l:List α) (h:l≠[]):cpt e (l++[c])=cpt e l++(if e c (l.getLast h)=true then [] else [c]):=by
 cases l with
 |nil=>exact absurd rfl h
 |cons x r=>
  show x::Rh e x (r++[c])=_;rw [jm];rfl
theorem Ak8 {α:Type} (e:α→α→Bool):∀(r:List α) (p:α),(Rh e p r).length≤r.length
 |[],_=>by simp [Rh]
 |c::r,p=>by have:=Ak8 e r c;simp only [Rh];split<;>simp<;>omega
theorem Zd {α:Type} (e:α→α→Bool) (l:List α):(cpt e l).length≤l.length:=by
 cases l with
 |nil=>simp [cpt]
 |cons x r=>have:=Ak8 e r x;simp [cpt];exact this
theorem Zf {α:Type} (e:α→α→Bool):∀(r:List α) (p:α),∀x∈Rh e p r,x∈r
 |[],_,x,h=>by simp [Rh] at h
 |c::r,p,x,h=>by
  simp only [Rh] at h;split at h
  ·exact .tail _ (Zf e r c x h)
  ·rcases An.1 h with rfl|h
   ·exact .head _
   ·exact .tail _ (Zf e r c x h)
theorem Hf8 {α:Type} (e:α→α→Bool) (l:List α):∀x∈cpt e l,x∈l:=by
 cases l with
 |nil=>intro x h;simp [cpt] at h
 |cons y r=>
  intro x h;rcases An.1 (show x∈y::Rh e y r from h) with rfl|h
  ·exact .head _
  ·exact .tail _ (Zf e r y x h)
abbrev eqs {α:Type} [DecidableEq α]:α→α→Bool:=fun a b=>decide (a=b)
theorem cptG_mem {α:Type} [DecidableEq α]:∀(r:List α) (p x:α),x∈r→x=p∨x∈Rh eqs p r
 |[],_,x,h=>by simp at h
 |c::r,p,x,h=>by
  simp only [Rh];by_cases hc:c=p
  ·subst hc;rw [if_pos (by simp [eqs])];rcases An.1 h with rfl|h
   ·exact .inl rfl
   ·exact cptG_mem r c x h
  ·rw [if_neg (by simp [eqs,hc])];right;rcases An.1 h with rfl|h
   ·exact .head _
   ·rcases cptG_mem r c x h with rfl|h
    ·exact .head _
    ·exact .tail _ h
theorem Hf9 {α:Type} [DecidableEq α] (l:List α) (x:α):x∈cpt eqs l↔x∈l:=by
 refine ⟨Hf8 _ l x,fun h=> ?_⟩;cases l with
 |nil=>simp at h
 |cons y r=>
  rcases An.1 h with rfl|h
  ·exact .head _
  ·rcases cptG_mem r y x h with rfl|h
   ·exact .head _
   ·exact .tail _ h
theorem Uz {α:Type} [DecidableEq α] {lt:α→α→Prop} (ht:TO lt):∀(r:List α) (p:α),(p::r).Pairwise (fun a b=>¬lt b a)→(p::Rh eqs p r).Pairwise lt
 |[],p,_=>by simp [Rh]
 |c::r,p,h=>by
  rw [A5] at h;have ih:=Uz ht r c h.2;simp only [Rh];by_cases hc:c=p
  ·subst hc;rw [if_pos (by simp [eqs])];exact ih
  ·rw [if_neg (by simp [eqs,hc])];rw [A5];refine ⟨fun x hx=> ?_,ih⟩;have hpc:lt p c:=by
    rcases ht.tri p c with h1|h1|h1
    ·exact h1
    ·exact absurd h1.symm hc
    ·exact absurd h1 (h.1 c (.head _))
   rcases An.1 hx with rfl|hx
   ·exact hpc
   ·exact ht.tr _ _ _ hpc ((A5.1 ih).1 x hx)
theorem At1 {α:Type} [DecidableEq α] {lt:α→α→Prop} (ht:TO lt) (l:List α) (h:l.Pairwise (fun a b=>¬lt b a)):(cpt eqs l).Pairwise lt:=by
 cases l with
 |nil=>simp [cpt]
 |cons x r=>exact Uz ht r x h
theorem db {α:Type} {lt:α→α→Prop} (ht:TO lt):∀(a b:List α),a.Pairwise lt→b.Pairwise lt→(∀x,x∈a↔x∈b)→a=b
 |[],[],_,_,_=>rfl
 |[],y::b,_,_,h=>absurd ((h y).2 (.head _)) (by simp)
 |x::a,[],_,_,h=>absurd ((h x).1 (.head _)) (by simp)
 |x::a,y::b,ha,hb,h=>by
  rw [A5] at ha hb;have hxy:x=y:=by
   rcases An.1 ((h x).1 (.head _)) with h1|h1
   ·exact h1
   ·rcases An.1 ((h y).2 (.head _)) with h2|h2
    ·exact h2.symm
    ·exact absurd (hb.1 x h1) (ht.asym (ha.1 y h2))
  subst hxy;rw [db ht a b ha.2 hb.2 fun z=> ?_];constructor
  ·intro hz;rcases An.1 ((h z).1 (.tail _ hz)) with rfl|h1
   ·exact absurd (ha.1 z hz) (ht.irr z)
   ·exact h1
  ·intro hz;rcases An.1 ((h z).2 (.tail _ hz)) with rfl|h1
   ·exact absurd (hb.1 z hz) (ht.irr z)
   ·exact h1
def setN (l:List (List UInt8)):List (List UInt8):=cpt eqs (l.mergeSort fun x y=> !decide (Jm y x<0))
theorem Hy0 (l:List (List UInt8)):(l.mergeSort fun x y=> !decide (Jm y x<0)).Pairwise (fun a b=>¬ltN b a):=by
 have:=List.pairwise_mergeSort (le:=fun x y:List UInt8=> !decide (Jm y x<0)) (fun a b c h1 h2=>by
  simp only [A9,decide_eq_false_iff_not,Fz] at h1 h2 ⊢;exact to_N.ntr h2 h1) (fun a b=>by
  simp only [Am,A9,decide_eq_false_iff_not,Fz];rcases to_N.tri a b with h|h|h
  ·exact .inl (to_N.asym h)
  ·subst h;exact .inl (to_N.irr a)
  ·exact .inr (to_N.asym h)) l
 refine this.imp fun {a b} h=> ?_;simpa only [A9,decide_eq_false_iff_not,Fz] using h
theorem S3 (l:List (List UInt8)):(setN l).Pairwise ltN:=At1 to_N _ (Hy0 l)
theorem My (l:List (List UInt8)) (x:List UInt8):x∈setN l↔x∈l:=by unfold setN;rw [Hf9];exact (List.mergeSort_perm _ _).mem_iff
theorem X3 (l:List (List UInt8)):(setN l).length≤l.length:=by have:=Zd eqs (l.mergeSort fun x y=> !decide (Jm y x<0));rw [lh] at this;exact this
end Go.X.G
/- Names on the way up; delegations above a name. -/
namespace Go.X.G
open Go Go.X
def upN (o n:List UInt8):List (List UInt8):=(List.range ((lbl n).length - (lbl o).length+1)).map fun k=>jn ((lbl n).drop k)
theorem Nq {o n x:List UInt8} (h:under n o=true):x∈upN o n↔under n x=true∧under x o=true:=by
 obtain ⟨hn,ho,hs⟩:=B0.1 h;have hle:=hs.length_le;rw [E3] at hs;unfold upN;rw [Dd];constructor
 ·rintro ⟨k,hk,rfl⟩;rw [E7] at hk;obtain ⟨v1,v2⟩:=Mq hn k;refine ⟨B0.2 ⟨hn,v1,by rw [v2];exact List.drop_suffix _ _⟩,B0.2 ⟨v1,ho,?_⟩⟩;rw [v2,hs];have:(lbl n).length - (lbl o).length=k+((lbl n).length - (lbl o).length - k):=by omega
  rw [this,←Cr];exact List.drop_suffix _ _
 ·rintro ⟨h1,h2⟩;obtain ⟨_,hx,h3⟩:=B0.1 h1;obtain ⟨_,_,h4⟩:=B0.1 h2;have l1:=h3.length_le;have l2:=h4.length_le;rw [E3] at h3;refine ⟨(lbl n).length - (lbl x).length,?_,?_⟩
  ·rw [E7];omega
  ·rw [←h3];exact (M3 hx).symm
theorem l9 (o n:List UInt8):(upN o n).length≤256:=by have:=Ll n;simp [upN];omega
theorem Pm {o n:List UInt8} {k:Nat} (hk:k≤(lbl n).length - (lbl o).length):(upN o n)[k]? =some (jn ((lbl n).drop k)):=by unfold upN;rw [Bn,Cw (by omega)];rfl
theorem og {n:List UInt8} (h:vld n=true):jn ((lbl n).drop 0)=n:=by rw [Ec];exact (M3 h).symm
theorem Vl {o n:List UInt8} (h:under n o=true) {k:Nat} (hk:k≤(lbl n).length - (lbl o).length):jn ((lbl n).drop k)=o↔k=(lbl n).length - (lbl o).length:=by
 obtain ⟨hn,ho,hs⟩:=B0.1 h;have hle:=hs.length_le;rw [E3] at hs;obtain ⟨v1,v2⟩:=Mq hn k;constructor
 ·intro e;have:=congrArg (fun x=>(lbl x).length) e;simp only [v2,B4] at this;omega
 ·rintro rfl;rw [←hs];exact (M3 ho).symm
theorem Bx4 {o n:List UInt8} (h:under n o=true) {k:Nat} (hk:k<(lbl n).length - (lbl o).length):Yz (jn ((lbl n).drop k))=jn ((lbl n).drop (k+1))∧Aj7 (jn ((lbl n).drop k))=true:=by
 obtain ⟨hn,ho,hs⟩:=B0.1 h;obtain ⟨v1,v2⟩:=Mq hn k;have hne:jn ((lbl n).drop k)≠[46]:=by intro e;have:=(Yn v1).2 e;rw [v2] at this;have:=congrArg List.length this;simp at this;omega
 unfold Yz Aj7;rw [if_pos ⟨v1,hne⟩,v2,Cr];exact ⟨rfl,by simp [v1,hne]⟩
theorem Y8 (l:List (List UInt8)) (i j:Nat) (h:i<j) (hj:j≤l.length):(flat (l.drop j)).length<(flat (l.drop i)).length:=by
 have e:l.drop i=(l.drop i).take (j - i)++l.drop j:=by have:=(Br (j - i) (l.drop i)).symm;rw [Cr,show i+(j - i)=j by omega] at this;exact this
 rw [e,Mn,Az];have:0<(flat ((l.drop i).take (j - i))).length:=by
  cases hc:(l.drop i).take (j - i) with
  |nil=>
   have:=congrArg List.length hc;simp at this;omega
  |cons x r=>simp [flat];omega
 omega
theorem Ek4 {n a b:List UInt8} (ha:under n a=true) (hb:under n b=true):a.length<b.length↔(lbl a).length<(lbl b).length:=by
 have key:∀{a b:List UInt8},under n a=true→under n b=true→(lbl a).length<(lbl b).length→a.length<b.length:=by
  intro a b ha hb hl;obtain ⟨hn,va,sa⟩:=B0.1 ha;obtain ⟨_,vb,sb⟩:=B0.1 hb;have la:=sa.length_le;have lb:=sb.length_le;rw [E3] at sa sb;rw [M3 va,M3 vb];have hbne:lbl b≠[]:=fun e=>by rw [e] at hl;simp at hl
  have e2:jn (lbl b)=flat (lbl b):=by unfold jn;rw [if_neg hbne]
  rw [e2];by_cases ha0:lbl a=[]
  ·have e1:jn (lbl a)=[46]:=by unfold jn;rw [if_pos ha0]
   rw [e1];have:=Hr (Rr vb) hbne;simp;omega
  ·have e1:jn (lbl a)=flat (lbl a):=by unfold jn;rw [if_neg ha0]
   rw [e1,sa,sb];exact Y8 _ _ _ (by omega) (by omega)
 constructor
 ·intro h;rcases Nat.lt_or_ge (lbl a).length (lbl b).length with h1|h1
  ·exact h1
  ·rcases Nat.lt_or_eq_of_le h1 with h2|h2
   ·have:=key hb ha h2;omega
   ·obtain ⟨_,va,sa⟩:=B0.1 ha;obtain ⟨_,vb,sb⟩:=B0.1 hb;rw [E3] at sa sb;have:a=b:=Lm va vb (by rw [sa,sb,h2]);subst this;omega
 ·exact key ha hb
def Dq (z:Zone) (r:Rec):Bool:=decide (r.typ=2) && Ew r.name z.origin
def lf (z:Zone) (n:List UInt8):List UInt8→List Rec→List UInt8
 |b,[]=>b
 |b,r::rs=>lf z n (if Dq z r && under n r.name && (decide (b=[])||decide ((lbl r.name).length<(lbl b).length)) then r.name else b) rs
def cutN (z:Zone) (n:List UInt8):List UInt8:=lf z n [] z.recs
theorem Nc (z:Zone) (n:List UInt8):∀(l:List Rec) (b:List UInt8),(b=[]∨under n b=true)→
  (lf z n b l=[]→b=[]∧∀r∈l,Dq z r=true→under n r.name=false)∧
  (lf z n b l≠[]→under n (lf z n b l)=true∧(lf z n b l=b∨∃r∈l,Dq z r=true∧r.name=lf z n b l)∧(b≠[]→(lbl (lf z n b l)).length≤(lbl b).length)∧∀r∈l,Dq z r=true→under n r.name=true→(lbl (lf z n b l)).length≤(lbl r.name).length)
 |[],b,hb=>by simp only [lf];refine ⟨fun h=>⟨h,fun r hr=>by simp at hr⟩,fun h=>⟨hb.resolve_left h, .inl trivial,fun _=>Af _,fun r hr=>by simp at hr⟩⟩
 |r::rs,b,hb=>by
  simp only [lf];have hne:under n r.name=true→r.name≠[]:=fun h e=>by have:=(B0.1 h).2.1;rw [e] at this;simp [vld,nm] at this
  by_cases hc:(Dq z r && under n r.name && (decide (b=[])||decide ((lbl r.name).length<(lbl b).length)))=true
  ·rw [if_pos hc];simp only [Aw,Am,decide_eq_true_eq] at hc;obtain ⟨⟨c1,c2⟩,c3⟩:=hc;obtain ⟨h1,h2⟩:=Nc z n rs r.name (.inr c2);refine ⟨fun h=>absurd (h1 h).1 (hne c2),fun h=> ?_⟩;obtain ⟨g1,g2,g3,g4⟩:=h2 h;refine ⟨g1, .inr ?_,fun hb0=> ?_,fun x hx hx1 hx2=> ?_⟩
   ·rcases g2 with g2|⟨x,hx,g2⟩
    ·exact ⟨r, .head _,c1,g2.symm⟩
    ·exact ⟨x, .tail _ hx,g2⟩
   ·have:=g3 (hne c2);rcases c3 with c3|c3
    ·exact absurd c3 hb0
    ·omega
   ·rcases An.1 hx with rfl|hx
    ·exact g3 (hne c2)
    ·exact g4 x hx hx1 hx2
  ·rw [if_neg hc];obtain ⟨h1,h2⟩:=Nc z n rs b hb;have hr:Dq z r=true→under n r.name=true→b≠[]∧(lbl b).length≤(lbl r.name).length:=by intro c1 c2;simp only [c1,c2,Bool.and_self,Pf,Am,decide_eq_true_eq,not_or,Nat.not_lt] at hc;exact hc
   refine ⟨fun h=> ?_,fun h=> ?_⟩
   ·obtain ⟨g1,g2⟩:=h1 h;refine ⟨g1,fun x hx hx1=> ?_⟩;rcases An.1 hx with rfl|hx
    ·rcases Aq (under n x.name) with h3|h3
     ·exact absurd g1 (hr hx1 h3).1
     ·exact h3
    ·exact g2 x hx hx1
   ·obtain ⟨g1,g2,g3,g4⟩:=h2 h;refine ⟨g1,?_,g3,fun x hx hx1 hx2=> ?_⟩
    ·rcases g2 with g2|⟨x,hx,g2⟩
     ·exact .inl g2
     ·exact .inr ⟨x, .tail _ hx,g2⟩
    ·rcases An.1 hx with rfl|hx
     ·obtain ⟨q1,q2⟩:=hr hx1 hx2;have:=g3 q1;omega
     ·exact g4 x hx hx1 hx2
def Pz (z:Zone) (n:List UInt8):Bool:=z.recs.any fun r=>Dq z r && decide (r.name≠n) && under n r.name
theorem Jp {a b:List UInt8} (h1:under a b=true) (h2:(lbl a).length≤(lbl b).length):a=b:=by obtain ⟨va,vb,s⟩:=B0.1 h1;exact Lm va vb (s.eq_of_length_le h2).symm
theorem Hb2 (z:Zone) (n:List UInt8):Pz z n=(decide (cutN z n≠[]) && decide (cutN z n≠n)):=by
 obtain ⟨h1,h2⟩:=Nc z n z.recs [] (.inl rfl);have e:cutN z n=lf z n [] z.recs:=rfl;rw [←e] at h1 h2;rw [Cn];unfold Pz;simp only [B6,Aw,decide_eq_true_eq];constructor
 ·rintro ⟨r,hr,⟨c1,c2⟩,c3⟩;have hne:cutN z n≠[]:=fun h=>by have:=(h1 h).2 r hr c1;rw [c3] at this;cases this
  refine ⟨hne,fun h=> ?_⟩;obtain ⟨_,_,_,g4⟩:=h2 hne;have:=g4 r hr c1 c3;rw [h] at this;exact c2 (Jp c3 this).symm
 ·rintro ⟨hne,hnn⟩;obtain ⟨g1,g2,_,_⟩:=h2 hne;rcases g2 with g2|⟨r,hr,c1,c2⟩
  ·exact absurd g2 hne
  ·exact ⟨r,hr,⟨c1,by rw [c2];exact hnn⟩,by rw [c2];exact g1⟩
def Ij0 (z:Zone):List (List UInt8):=(z.recs.filter fun r=>under r.name z.origin && !Pz z r.name).flatMap fun r=>upN z.origin r.name
def namesN (z:Zone):List (List UInt8):=setN (Ij0 z)
def Ff3 (z:Zone) (x:List UInt8):Prop:=∃r∈z.recs,under r.name z.origin=true∧Pz z r.name=false∧under r.name x=true∧under x z.origin=true
theorem Ab5 (z:Zone) (x:List UInt8):x∈Ij0 z↔Ff3 z x:=by
 unfold Ij0 Ff3;simp only [List.mem_flatMap,Bf,Aw,A9];constructor
 ·rintro ⟨r,⟨hr,h1,h2⟩,h3⟩;obtain ⟨h4,h5⟩:=(Nq h1).1 h3;exact ⟨r,hr,h1,h2,h4,h5⟩
 ·rintro ⟨r,hr,h1,h2,h4,h5⟩;exact ⟨r,⟨hr,h1,h2⟩,(Nq h1).2 ⟨h4,h5⟩⟩
theorem Ep5 (z:Zone) (l:List (List UInt8)) (h:∀x,x∈l↔Ff3 z x):setN l=namesN z:=
 db to_N _ _ (S3 _) (S3 _) fun x=>by rw [My,h,namesN,My,Ab5]
theorem Am1 (z:Zone) (x:List UInt8):x∈namesN z↔Ff3 z x:=by unfold namesN;rw [My,Ab5]
end Go.X.G
/- Zones by the names of their records: groups of a sorted list, in plain words. -/
namespace Go.X.G
open Go Go.X
theorem Ck8 {α:Type} {lt:α→α→Prop}:∀(p q:List α),p<+:q→p≠q→lex lt p q
 |[],[],_,h=>absurd rfl h
 |[],_::_,_,_=>trivial
 |a::p,[],h,_=>by simp at h
 |a::p,b::q,h,hne=>by obtain ⟨rfl,hpq⟩:=Mj.1 h;exact .inr ⟨rfl,Ck8 p q hpq fun e=>hne (by rw [e])⟩
theorem Ck9 {α:Type} {lt:α→α→Prop} (ht:TO lt):∀(p q x:List α),p<+:q→¬lex lt x p→¬lex lt q x→p<+:x
 |[],_,_,_,_,_=>List.nil_prefix
 |a::p,[],_,h,_,_=>by simp at h
 |a::p,b::q,[],_,h,_=>absurd trivial h
 |a::p,b::q,c::x,h,h1,h2=>by
  obtain ⟨rfl,hpq⟩:=Mj.1 h;simp only [lex,not_or,not_and] at h1 h2;have e:a=c:=by
   rcases ht.tri a c with k|k|k
   ·exact absurd k h2.1
   ·exact k
   ·exact absurd k h1.1
  subst e;exact Mj.2 ⟨rfl,Ck9 ht p q x hpq (h1.2 rfl) (h2.2 rfl)⟩
theorem Hy6 {a b:List UInt8} (ha:vld a=true) (hb:vld b=true):ltN a b↔ltL (lbl a).reverse (lbl b).reverse:=by unfold ltN;rw [if_pos ha,if_pos hb]
theorem b8 {n top:List UInt8} (h:under n top=true):(lbl top).reverse<+:(lbl n).reverse:=List.reverse_prefix.2 (B0.1 h).2.2
theorem Ex1 {n top:List UInt8} (h:under n top=true) (hne:n≠top):ltN top n:=by obtain ⟨h1,h2,h3⟩:=B0.1 h;rw [Hy6 h2 h1];refine Ck8 _ _ (b8 h) fun e=>hne ?_;exact (Lm h2 h1 (List.reverse_inj.1 e)).symm
theorem Bx5 {d x n:List UInt8} (hx:vld x=true) (h:under n d=true) (h1:¬ltN x d) (h2:¬ltN n x):under x d=true:=by obtain ⟨k1,k2,k3⟩:=B0.1 h;rw [Hy6 hx k2] at h1;rw [Hy6 k1 hx] at h2;exact B0.2 ⟨hx,k2,List.reverse_prefix.1 (Ck9 Eq8 _ _ _ (b8 h) h1 h2)⟩
theorem Bq6 {a b c:List UInt8} (h1:under a b=true) (h2:under b c=true):under a c=true:=by obtain ⟨a1,a2,a3⟩:=B0.1 h1;obtain ⟨b1,b2,b3⟩:=B0.1 h2;exact B0.2 ⟨a1,b2,b3.trans a3⟩
def Vk (p:List Rec):List Rec→List (List Rec)
 |[]=>[]
 |x::r=>if (match r with|[]=>true|y::_=> !decide (y.name=x.name))=true then (p++[x])::Vk [] r else Vk (p++[x]) r
def grp (l:List Rec):List (List Rec):=Vk [] l
def nmG (g:List Rec):List UInt8:=match g with|[]=>[]|x::_=>x.name
theorem i7 (n:List UInt8):∀(r p:List Rec) (x:Rec),x.name=n→(∀y∈p,y.name=n)→∃g l',x::r=g++l'∧g≠[]∧(∀y∈g,y.name=n)∧(∀y,l'.head? =some y→y.name≠n)∧Vk p (x::r)=(p++g)::grp l'
 |[],p,x,hx,hp=>⟨[x],[],rfl,by simp,by simpa using hx,by simp,rfl⟩
 |y::r,p,x,hx,hp=>by
  by_cases h:y.name=x.name
  ·obtain ⟨g,l',h1,h2,h3,h4,h5⟩:=i7 n r (p++[x]) y (by rw [h,hx]) (fun w hw=>by
    rcases Bg.1 hw with hw|hw
    ·exact hp w hw
    ·have:w=x:=by simpa using hw
     rw [this,hx])
   refine ⟨x::g,l',by rw [h1];rfl,by simp,fun w hw=> ?_,h4,?_⟩
   ·rcases An.1 hw with rfl|hw
    ·exact hx
    ·exact h3 w hw
   ·rw [Vk,if_neg (by simp [h]),h5];simp
  ·refine ⟨[x],y::r,rfl,by simp,by simpa using hx,fun w hw=> ?_,?_⟩
   ·simp at hw;subst hw;rw [←hx];exact h
   ·rw [Vk,if_pos (by simp [h])];rfl
theorem R7 (x:Rec) (r:List Rec):∃g l',x::r=g++l'∧g≠[]∧(∀y∈g,y.name=x.name)∧(∀y,l'.head? =some y→y.name≠x.name)∧grp (x::r)=g::grp l':=by obtain ⟨g,l',h1,h2,h3,h4,h5⟩:=i7 x.name r [] x rfl (by simp);exact ⟨g,l',h1,h2,h3,h4,by rw [grp,h5];rfl⟩
theorem Fz9 {g:List Rec} {n:List UInt8} (h:g≠[]) (h2:∀y∈g,y.name=n):nmG g=n:=by
 cases g with
 |nil=>exact absurd rfl h
 |cons x r=>exact h2 x (.head _)
abbrev Ig5 (l:List Rec):Prop:=l.Pairwise fun a b=>¬ltN b.name a.name
def F5 (g:List Rec) (t:Int):Bool:=g.any fun r=>decide (r.typ=t)
def I4 (g:List Rec) (ts:List Int):Bool:=g.all fun r=>decide (r.typ∈ts)
def Vm (p:Rec):List Rec→Bool
 |[]=>true
 |x::r=>(!decide (x.typ=p.typ)||(!(decide (x.typ=6)||decide (x.typ=5)||decide (x.typ=39)) && (decide (x.typ=46)||decide (x.ttl=p.ttl)))) && Vm x r
def Eq7 (g:List Rec):Bool:=match g with|[]=>true|x::r=>Vm x r
def propG (o:List UInt8) (g:List Rec) (cut red:Bool):Bool:=
 under (nmG g) o && (decide (F5 g 6=decide (nmG g=o))) && Eq7 g && (!decide (nmG g=o)||F5 g 2) && (!F5 g 5||I4 g [5,46,47]) && !red && (!cut||I4 g [1,28]) &&
  (if (!decide (nmG g=o) && F5 g 2)=true then I4 g [2,43,47,46,1,28] else !F5 g 43) && (!decide ((nmG g)[0]? =some 42)||(!F5 g 2 && !F5 g 39))
def Dn (n c:List UInt8):List UInt8:=if c≠[]∧under n c=false then [] else c
def qk (o:List UInt8):List (List Rec)→List UInt8→List UInt8→Bool→Bool
 |[],_,_,soa=>soa
 |g::gs,cut,red,soa=>
  if propG o g (decide (Dn (nmG g) cut≠[])) (decide (Dn (nmG g) red≠[]))=true then
   qk o gs (if Dn (nmG g) cut=[]∧nmG g≠o∧F5 g 2=true then nmG g else Dn (nmG g) cut) (if F5 g 39=true then nmG g else Dn (nmG g) red) (soa||decide (nmG g=o))
  else false
def Hv9 (z:Zone) (n:List UInt8):Bool:=z.recs.any fun r=>decide (r.typ=39) && Ew n r.name
def dn (z:Zone) (g:List Rec):Bool:=propG z.origin g (Pz z (nmG g)) (Hv9 z (nmG g))
theorem ln {n:List UInt8} (h:vld n=true):n≠[]:=fun e=>by
 subst e;have:vld []=false:=by decide
 rw [this] at h;cases h
structure GInv (z:Zone) (done l:List Rec) (cut red:List UInt8):Prop where
 cut1:cut≠[]→∃r∈done,Dq z r=true∧r.name=cut
 cut2:∀m∈l,∀r∈done,Dq z r=true→under m.name r.name=true→cut≠[]∧under m.name cut=true
 red1:red≠[]→∃r∈done,r.typ=39∧r.name=red
 red2:∀m∈l,∀r∈done,r.typ=39→under m.name r.name=true→red≠[]∧under m.name red=true
theorem nv {o:List UInt8} {g:List Rec} {c r:Bool} (h:propG o g c r=true):under (nmG g) o=true∧r=false:=by unfold propG at h;simp only [Aw,A9] at h;exact ⟨h.1.1.1.1.1.1.1.1,h.1.1.1.2⟩
theorem Aq6 (z:Zone) (hv:∀r∈z.recs,vld r.name=true) (hs:Ig5 z.recs):∀(n:Nat) (done l:List Rec) (cut red:List UInt8) (soa:Bool),l.length≤n→z.recs=done++l→(∀a∈done,∀b∈l,ltN a.name b.name)→GInv z done l cut red→
  (qk z.origin (grp l) cut red soa=true↔(∀g∈grp l,dn z g=true)∧(soa=true∨∃r∈l,r.name=z.origin))
 |n,done,[],cut,red,soa,_,_,_,_=>by simp [grp,Vk,qk]
 |0,done,x::r,cut,red,soa,hn,_,_,_=>by simp at hn
 |n+1,done,x::r,cut,red,soa,hn,hz,hlt,hI=>by
  obtain ⟨g,l',h1,h2,h3,h4,h5⟩:=R7 x r;have hnm:nmG g=x.name:=Fz9 h2 h3;have hmem:∀y∈g,y∈x::r:=fun y hy=>by rw [h1];exact Cf _ hy
  have hmem':∀y∈l',y∈x::r:=fun y hy=>by rw [h1];exact Bs _ hy
  have hzx:∀y∈x::r,y∈z.recs:=fun y hy=>by rw [hz];exact Bs _ hy
  have hvx:vld x.name=true:=hv x (hzx x (.head _));have hgl:∀b∈l',ltN x.name b.name:=by
   have hs2:Ig5 (g++l'):=by rw [←h1];have:=hs;rw [hz] at this;exact (E6.1 this).2.1
   have hs3:=E6.1 hs2;cases l' with
   |nil=>intro b hb;cases hb
   |cons y l''=>
    have hy:ltN x.name y.name:=by
     obtain ⟨w,hw⟩:=Fb g h2;have k:=hs3.2.2 w hw y (.head _);rw [h3 w hw] at k;rcases to_N.tri x.name y.name with q|q|q
     ·exact q
     ·exact absurd q.symm (h4 y rfl)
     ·exact absurd q k
    intro b hb;rcases An.1 hb with rfl|hb
    ·exact hy
    ·have k:=(A5.1 hs3.2.1).1 b hb;rcases to_N.tri y.name b.name with q|q|q
     ·exact to_N.tr _ _ _ hy q
     ·rw [←q];exact hy
     ·exact absurd q k
  have habove:∀w∈z.recs,under x.name w.name=true→x.name≠w.name→w∈done:=fun w hw hu hne=>by
   rw [hz] at hw;rcases Bg.1 hw with hw|hw
   ·exact hw
   ·exfalso;have k:=Ex1 hu hne;rw [h1] at hw;rcases Bg.1 hw with hw|hw
    ·exact hne (h3 w hw).symm
    ·exact to_N.asym k (hgl w hw)
  have hcut:decide (Dn x.name cut≠[])=Pz z x.name:=by
   rw [Cn,decide_eq_true_eq];unfold Pz Dn;rw [B6];constructor
   ·intro k;have c0:cut≠[]:=fun e=>by rw [e] at k;simp at k
    have c1:under x.name cut=true:=by
     rcases Aq (under x.name cut) with q|q
     ·exact q
     ·rw [if_pos ⟨c0,q⟩] at k;exact absurd rfl k
    obtain ⟨w,w1,w2,w3⟩:=hI.cut1 c0;refine ⟨w,by rw [hz];exact Cf _ w1,?_⟩;have:w.name≠x.name:=fun e=>to_N.irr _ (by have:=hlt w w1 x (.head _);rw [e] at this;exact this);rw [w2,w3];rw [w3] at this;simp [this,c1]
   ·rintro ⟨w,w1,w2⟩;simp only [Aw,decide_eq_true_eq] at w2;have wd:=habove w w1 w2.2 (fun e=>w2.1.2 e.symm);obtain ⟨c0,c1⟩:=hI.cut2 x (.head _) w wd w2.1.1 w2.2;rw [if_neg (by simp [c1])];exact c0
  have hred:decide (Dn x.name red≠[])=Hv9 z x.name:=by
   rw [Cn,decide_eq_true_eq];unfold Hv9 Dn Ew;rw [B6];constructor
   ·intro k;have c0:red≠[]:=fun e=>by rw [e] at k;simp at k
    have c1:under x.name red=true:=by
     rcases Aq (under x.name red) with q|q
     ·exact q
     ·rw [if_pos ⟨c0,q⟩] at k;exact absurd rfl k
    obtain ⟨w,w1,w2,w3⟩:=hI.red1 c0;refine ⟨w,by rw [hz];exact Cf _ w1,?_⟩;have:x.name≠w.name:=fun e=>to_N.irr _ (by have:=hlt w w1 x (.head _);rw [e] at this;exact this);rw [w3] at this ⊢;simp [this,c1,w2]
   ·rintro ⟨w,w1,w2⟩;simp only [Aw,decide_eq_true_eq] at w2;have wd:=habove w w1 w2.2.2 w2.2.1;obtain ⟨c0,c1⟩:=hI.red2 x (.head _) w wd w2.1 w2.2.2;rw [if_neg (by simp [c1])];exact c0
  have hex:(∃w∈x::r,w.name=z.origin)↔(x.name=z.origin∨∃w∈l',w.name=z.origin):=by
   rw [h1];constructor
   ·rintro ⟨w,w1,w2⟩;rcases Bg.1 w1 with w1|w1
    ·exact .inl (by rw [←h3 w w1];exact w2)
    ·exact .inr ⟨w,w1,w2⟩
   ·rintro (k|⟨w,w1,w2⟩)
    ·obtain ⟨w,hw⟩:=Fb g h2;exact ⟨w,Cf _ hw,by rw [h3 w hw];exact k⟩
    ·exact ⟨w,Bs _ w1,w2⟩
  rw [h5,hex];simp only [qk,hnm,An,forall_eq_or_imp];have hp0:dn z g=propG z.origin g (Pz z x.name) (Hv9 z x.name):=by unfold dn;rw [hnm]
  rw [hp0];rw [hcut,hred];by_cases hp:propG z.origin g (Pz z x.name) (Hv9 z x.name)=true
  ·rw [if_pos hp];obtain ⟨pu,pr⟩:=nv hp;rw [hnm] at pu;have hlen:=congrArg List.length h1;have hg0:0<g.length:=Bw.2 h2;simp only [Az,A0] at hlen hn;have hmid:∀m∈l',∀w∈done,under m.name w.name=true→under x.name w.name=true:=fun m hm w hw hu=>
    Bx5 hvx hu (fun k=>to_N.asym (hlt w hw x (.head _)) k) (fun k=>to_N.asym (hgl m hm) k)
   have hredE:Dn x.name red=[]:=by have:=hred;rw [pr] at this;simpa using this
   have ih:=Aq6 z hv hs n (done++g) l' (if Dn x.name cut=[]∧x.name≠z.origin∧F5 g 2=true then x.name else Dn x.name cut) (if F5 g 39=true then x.name else Dn x.name red) (soa||decide (x.name=z.origin)) (by omega) (by rw [hz,h1,As])
    (fun a ha b hb=>by
     rcases Bg.1 ha with ha|ha
     ·exact hlt a ha b (hmem' b hb)
     ·rw [h3 a ha];exact hgl b hb)
    ⟨?_,?_,?_,?_⟩
   ·rw [ih];simp only [Am,decide_eq_true_eq,hp,true_and];constructor
    ·rintro ⟨k1,(k2|k2)|k2⟩
     ·exact ⟨k1, .inl k2⟩
     ·exact ⟨k1, .inr (.inl k2)⟩
     ·exact ⟨k1, .inr (.inr k2)⟩
    ·rintro ⟨k1,k2|k2|k2⟩
     ·exact ⟨k1, .inl (.inl k2)⟩
     ·exact ⟨k1, .inl (.inr k2)⟩
     ·exact ⟨k1, .inr k2⟩
   ·-- the cut is one
    intro k;by_cases c:Dn x.name cut=[]∧x.name≠z.origin∧F5 g 2=true
    ·rw [if_pos c];obtain ⟨w,w1,w2⟩:=B6.1 c.2.2;simp only [decide_eq_true_eq] at w2;refine ⟨w,Bs _ w1,?_,h3 w w1⟩;unfold Dq Ew;rw [h3 w w1];simp [w2,pu,c.2.1]
    ·rw [if_neg c] at k ⊢;have c0:cut≠[]:=fun e=>by rw [e] at k;simp [Dn] at k
     have c1:Dn x.name cut=cut:=by
      unfold Dn at k ⊢;by_cases q:cut≠[]∧under x.name cut=false
      ·rw [if_pos q] at k;exact absurd rfl k
      ·rw [if_neg q]
     rw [c1];obtain ⟨w,w1,w2⟩:=hI.cut1 c0;exact ⟨w,Cf _ w1,w2⟩
   ·intro m hm w hw hc hu;rcases Bg.1 hw with hw|hw
    ·have hxu:=hmid m hm w hw hu;obtain ⟨c0,c1⟩:=hI.cut2 x (.head _) w hw hc hxu;obtain ⟨_,c2⟩:=hI.cut2 m (hmem' m hm) w hw hc hu;have c3:Dn x.name cut=cut:=by unfold Dn;rw [if_neg (by simp [c1])]
     rw [c3,if_neg (by simp [c0])];exact ⟨c0,c2⟩
    ·rw [h3 w hw] at hu;have hc':=hc;unfold Dq Ew at hc';rw [h3 w hw] at hc';simp only [Aw,decide_eq_true_eq] at hc';have hns:F5 g 2=true:=B6.2 ⟨w,hw,by simp [hc'.1]⟩;by_cases c:Dn x.name cut=[]
     ·rw [if_pos ⟨c,hc'.2.1,hns⟩];exact ⟨ln hvx,hu⟩
     ·rw [if_neg (by simp [c])];have q:¬(cut≠[]∧under x.name cut=false):=fun q=>c (by unfold Dn;rw [if_pos q]);have c1:Dn x.name cut=cut:=by unfold Dn;rw [if_neg q]
      rw [c1] at c ⊢;have c2:under x.name cut=true:=by
       rcases Aq (under x.name cut) with k|k
       ·exact k
       ·exact absurd ⟨c,k⟩ q
      exact ⟨c,Bq6 hu c2⟩
   ·intro k;rw [hredE] at k ⊢;by_cases c:F5 g 39=true
    ·rw [if_pos c];obtain ⟨w,w1,w2⟩:=B6.1 c;simp only [decide_eq_true_eq] at w2;exact ⟨w,Bs _ w1,w2,h3 w w1⟩
    ·rw [if_neg c] at k;exact absurd rfl k
   ·intro m hm w hw hc hu;rcases Bg.1 hw with hw|hw
    ·exfalso;have hxu:=hmid m hm w hw hu;obtain ⟨c0,c1⟩:=hI.red2 x (.head _) w hw hc hxu;have:Dn x.name red=red:=by unfold Dn;rw [if_neg (by simp [c1])]
     rw [this] at hredE;exact c0 hredE
    ·rw [h3 w hw] at hu;have hd:F5 g 39=true:=B6.2 ⟨w,hw,by simp [hc]⟩;rw [if_pos hd];exact ⟨ln hvx,hu⟩
  ·rw [if_neg hp];simp [hp]
end Go.X.G
/- Zones by the names of their records: the program's conditions are the reference's. -/
namespace Go.X.G
open Go Go.X
theorem Bb8 {l:List Rec} (h:l.Pairwise ltR):Ig5 l:=h.imp fun {a b} k=>by
 rcases k with k|⟨k,_⟩
 ·exact to_N.asym k
 ·have k':a.name=b.name:=k;rw [k'];exact to_N.irr _
theorem Cy7:∀(n:Nat) (l:List Rec),l.length≤n→Ig5 l→(∀g∈grp l,g≠[]∧g=l.filter fun r=>decide (r.name=nmG g))∧∀r∈l,∃g∈grp l,nmG g=r.name∧r∈g
 |_,[],_,_=>by simp [grp,Vk]
 |0,x::r,hn,_=>by simp at hn
 |n+1,x::r,hn,hs=>by
  obtain ⟨g,l',h1,h2,h3,h4,h5⟩:=R7 x r;have hnm:nmG g=x.name:=Fz9 h2 h3;have hs2:Ig5 (g++l'):=by rw [←h1];exact hs
  have hs3:=E6.1 hs2;have hgl:∀b∈l',ltN x.name b.name:=by
   cases l' with
   |nil=>intro b hb;cases hb
   |cons y l''=>
    have hy:ltN x.name y.name:=by
     obtain ⟨w,hw⟩:=Fb g h2;have k:=hs3.2.2 w hw y (.head _);rw [h3 w hw] at k;rcases to_N.tri x.name y.name with q|q|q
     ·exact q
     ·exact absurd q.symm (h4 y rfl)
     ·exact absurd q k
    intro b hb;rcases An.1 hb with rfl|hb
    ·exact hy
    ·have k:=(A5.1 hs3.2.1).1 b hb;rcases to_N.tri y.name b.name with q|q|q
     ·exact to_N.tr _ _ _ hy q
     ·rw [←q];exact hy
     ·exact absurd q k
  have hlen:=congrArg List.length h1;have hg0:0<g.length:=Bw.2 h2;simp only [Az,A0] at hlen hn;obtain ⟨i1,i2⟩:=Cy7 n l' (by omega) hs3.2.1;rw [h5];refine ⟨fun g' hg'=> ?_,fun w hw=> ?_⟩
  ·rcases An.1 hg' with rfl|hg'
   ·refine ⟨h2,?_⟩;rw [hnm,h1,Dt];have e1:(g'.filter fun r=>decide (r.name=x.name))=g':=Gt0.2 fun y hy=>by simp [h3 y hy]
    have e2:(l'.filter fun r=>decide (r.name=x.name))=[]:=G3.2 fun y hy=>by have:=hgl y hy;intro k;simp only [decide_eq_true_eq] at k;rw [k] at this;exact to_N.irr _ this
    rw [e1,e2,Dr]
   ·obtain ⟨j1,j2⟩:=i1 g' hg';refine ⟨j1,?_⟩;rw [h1,Dt];have e1:(g.filter fun r=>decide (r.name=nmG g'))=[]:=G3.2 fun y hy=>by intro k;simp only [decide_eq_true_eq] at k;obtain ⟨w,hw⟩:=Fb g' j1;have hw2:=hw;rw [j2] at hw2;obtain ⟨q1,q2⟩:=Bf.1 hw2;simp only [decide_eq_true_eq] at q2;have:=hgl w q1;rw [q2,←k,h3 y hy] at this;exact to_N.irr _ this
    rw [e1,Cy];exact j2
  ·rw [h1] at hw;rcases Bg.1 hw with hw|hw
   ·exact ⟨g, .head _,by rw [hnm,h3 w hw],hw⟩
   ·obtain ⟨g',q1,q2⟩:=i2 w hw;exact ⟨g', .tail _ q1,q2⟩
theorem Jq0 (l:List Rec) (n:List UInt8) (t:Int):F5 (l.filter fun r=>decide (r.name=n)) t=i6 l n t:=by
 rw [Cn];unfold F5 i6 findR;rw [B6,decide_eq_true_eq,List.length_pos_iff_exists_mem];constructor
 ·rintro ⟨x,h1,h2⟩;obtain ⟨h3,h4⟩:=Bf.1 h1;exact ⟨x,Bf.2 ⟨h3,by unfold isK;rw [h4,h2];rfl⟩⟩
 ·rintro ⟨x,h1⟩;obtain ⟨h3,h4⟩:=Bf.1 h1;unfold isK at h4;rw [Aw] at h4;exact ⟨x,Bf.2 ⟨h3,h4.1⟩,h4.2⟩
theorem Et6 (l:List Rec) (n:List UInt8) (t:Int):i6 l n t=true↔∃r∈l,r.name=n∧r.typ=t:=by
 unfold i6 findR;rw [decide_eq_true_eq,List.length_pos_iff_exists_mem];constructor
 ·rintro ⟨x,h1⟩;obtain ⟨h3,h4⟩:=Bf.1 h1;unfold isK at h4;simp only [Aw,decide_eq_true_eq] at h4;exact ⟨x,h3,h4⟩
 ·rintro ⟨x,h1,h2,h3⟩;exact ⟨x,Bf.2 ⟨h1,by unfold isK;simp [h2,h3]⟩⟩
abbrev sng (t:Int):Prop:=t=6∨t=5∨t=39
def two (x y:Rec):Prop:=x.typ=y.typ→(x≠y→¬sng x.typ)∧(x.typ≠46→x.ttl=y.ttl)
theorem Ex3 {x y:Rec} (h:two x y):two y x:=fun e=>by obtain ⟨h1,h2⟩:=h e.symm;exact ⟨fun k=>by rw [e];exact h1 k.symm,fun k=>(h2 (by rw [←e];exact k)).symm⟩
theorem Ex4 (x:Rec):two x x:=fun _=>⟨fun k=>absurd rfl k,fun _=>rfl⟩
theorem Ck1 {a b:Rec} (h:ltR a b) (e:a.name=b.name):a.typ≤b.typ:=by
 rcases h with h|⟨_,h|⟨h,_⟩⟩
 ·have h':ltN a.name b.name:=h;rw [e] at h';exact absurd h' (to_N.irr _)
 ·have h':a.typ<b.typ:=h;omega
 ·have h':a.typ=b.typ:=h;omega
theorem Ck2 {a b:Rec} (h:ltR a b):a≠b:=fun e=>by rw [e] at h;exact to_K.irr _ h
theorem u4:∀(r:List Rec) (p:Rec),(p::r).Pairwise ltR→(∀x∈r,x.name=p.name)→(Vm p r=true↔(p::r).Pairwise two)
 |[],p,_,_=>by simp [Vm]
 |x::r,p,hs,hn=>by
  obtain ⟨h1,h2⟩:=A5.1 hs;obtain ⟨h3,h4⟩:=A5.1 h2;have hx:=hn x (.head _);have ih:=u4 r x h2 (fun y hy=>by rw [hn y (.tail _ hy),hx]);have hpx:(!decide (x.typ=p.typ)||(!(decide (x.typ=6)||decide (x.typ=5)||decide (x.typ=39)) && (decide (x.typ=46)||decide (x.ttl=p.ttl))))=true↔two p x:=by
   have hne:p≠x:=Ck2 (h1 x (.head _));unfold two sng;simp only [Am,Aw,A9,decide_eq_false_iff_not,decide_eq_true_eq,Il];constructor
   ·rintro (k|⟨k1,k2⟩) e
    ·exact absurd e.symm k
    ·refine ⟨fun _=>by rw [e];omega,fun k=> ?_⟩;rcases k2 with k2|k2
     ·exact absurd (e.trans k2) k
     ·exact k2.symm
   ·intro h;by_cases e:x.typ=p.typ
    ·obtain ⟨a,b⟩:=h e.symm;have a':=a hne;refine .inr ⟨by rw [e];omega,?_⟩;by_cases k:x.typ=46
     ·exact .inl k
     ·exact .inr (b (by rw [←e];exact k)).symm
    ·exact .inl e
  have step:Vm p (x::r)=true↔two p x∧Vm x r=true:=by simp only [Vm];rw [Aw,hpx]
  rw [step,ih,A5 (a:=p)];constructor
  ·rintro ⟨k1,k2⟩;refine ⟨fun y hy=> ?_,k2⟩;rcases An.1 hy with rfl|hy
   ·exact k1
   ·intro e;have t1:=Ck1 (h1 x (.head _)) hx.symm;have t2:=Ck1 (h3 y hy) (by rw [hx,hn y (.tail _ hy)]);have e1:p.typ=x.typ:=by omega
    obtain ⟨a1,a2⟩:=k1 e1;obtain ⟨b1,b2⟩:=(A5.1 k2).1 y hy (by omega);exact ⟨fun _=>a1 (Ck2 (h1 x (.head _))),fun k=>by rw [a2 k];exact b2 (by omega)⟩
  ·rintro ⟨k1,k2⟩;exact ⟨k1 x (.head _),k2⟩
theorem Ex0 {g:List Rec} {n:List UInt8} (hs:g.Pairwise ltR) (hn:∀x∈g,x.name=n):Eq7 g=true↔∀x∈g,∀y∈g,two x y:=by
 have:Eq7 g=true↔g.Pairwise two:=by
  cases g with
  |nil=>simp [Eq7]
  |cons p r=>exact u4 r p hs fun x hx=>by rw [hn x (.tail _ hx),hn p (.head _)]
 rw [this];constructor
 ·intro h x hx y hy;obtain ⟨i,hi⟩:=C7 hx;obtain ⟨j,hj⟩:=C7 hy;obtain ⟨i1,i2⟩:=Av.1 hi;obtain ⟨j1,j2⟩:=Av.1 hj;rcases Nat.lt_trichotomy i j with k|k|k
  ·have:=M9.1 h i j i1 j1 k;rw [i2,j2] at this;exact this
  ·subst k;rw [←i2,←j2];exact Ex4 _
  ·have:=M9.1 h j i j1 i1 k;rw [i2,j2] at this;exact Ex3 this
 ·intro h;rw [M9];intro i j hi hj _;exact h _ (Dy hi) _ (Dy hj)
theorem Q7 (r x:Rec):Pk r x=true↔(x.name=r.name→two r x∧(r.typ=5→x.typ=5∨x.typ=46∨x.typ=47)):=by
 unfold Pk two sng;by_cases h:x.name=r.name
 ·simp only [h,decide_true,Ks,Ik,true_implies,Aw,A9,Hd,decide_eq_false_iff_not,Il,ne_eq,I8];by_cases e:x.typ=r.typ
  ·have e':r.typ=x.typ:=e.symm;simp only [e,not_true_eq_false,false_or,true_implies];constructor
   ·rintro ⟨⟨h1,h2⟩,h3⟩;refine ⟨⟨fun k q=> ?_,fun k=> ?_⟩,fun k=>by omega⟩
    ·rcases h2 with h2|h2
     ·omega
     ·exact k h2.symm
    ·rcases h1 with h1|h1
     ·exact absurd h1 k
     ·exact h1.symm
   ·rintro ⟨⟨h1,h2⟩,h3⟩;refine ⟨⟨?_,?_⟩,by omega⟩
    ·by_cases k:r.typ=46
     ·exact .inl k
     ·exact .inr (h2 k).symm
    ·by_cases k:r=x
     ·exact .inr k.symm
     ·have:=h1 k;left;omega
  ·have e':¬r.typ=x.typ:=fun q=>e q.symm;simp only [e,e',not_false_eq_true,true_or,true_and,false_implies];omega
 ·simp [h]
set_option maxHeartbeats 1000000 in
theorem Bd4 (z:Zone) (hv:∀r∈z.recs,Pl r=true) (hr:z.recs.Pairwise ltR):
  ((∀g∈grp z.recs,dn z g=true)∧∃r∈z.recs,r.name=z.origin)↔((findR z.recs z.origin 6).length=1∧i6 z.recs z.origin 2=true∧∀r∈z.recs,Tv z r=true):=by
 obtain ⟨ga,gb⟩:=Cy7 z.recs.length z.recs (Af _) (Bb8 hr);have gm:∀g∈grp z.recs,∀x,x∈g↔x∈z.recs∧x.name=nmG g:=fun g hg x=>by
  have:=(ga g hg).2;constructor
  ·intro h;rw [this] at h;obtain ⟨a,b⟩:=Bf.1 h;exact ⟨a,by simpa using b⟩
  ·rintro ⟨a,b⟩;rw [this];exact Bf.2 ⟨a,by simpa using b⟩
 have gh:∀g∈grp z.recs,∀t,F5 g t=i6 z.recs (nmG g) t:=fun g hg t=>by have:=Jq0 z.recs (nmG g) t;rwa [←(ga g hg).2] at this
 have gu:∀g∈grp z.recs,(Eq7 g=true↔∀x∈g,∀y∈g,two x y):=fun g hg=>by refine Ex0 (n:=nmG g) ?_ fun x hx=>((gm g hg x).1 hx).2;rw [(ga g hg).2];exact hr.filter _
 have hstar:∀r∈z.recs,(r.name[0]? =some 42↔(lbl r.name)[0]? =some [42]):=fun r h=>P2 (br (hv r h));constructor
 ·rintro ⟨hp,r0,hr0,hr0n⟩;have hpg:∀r∈z.recs,∃g∈grp z.recs,nmG g=r.name∧r∈g∧dn z g=true:=fun r h=>by obtain ⟨g,h1,h2,h3⟩:=gb r h;exact ⟨g,h1,h2,h3,hp g h1⟩
  obtain ⟨g0,k1,k2,k3,k4⟩:=hpg r0 hr0;rw [hr0n] at k2;have k5:=k4;unfold dn propG at k5;simp only [k2,Aw,decide_eq_true_eq,decide_true,Ks,Ik] at k5;have s6:i6 z.recs z.origin 6=true:=by rw [←k2,←gh g0 k1,k5.1.1.1.1.1.1.1.2]
  have s2:i6 z.recs z.origin 2=true:=by rw [←k2,←gh g0 k1,k5.1.1.1.1.1.2]
  refine ⟨?_,s2,fun r h=> ?_⟩
  ·-- one SOA record
   have hpos:0<(findR z.recs z.origin 6).length:=by unfold i6 at s6;simpa using s6
   have hpw:(findR z.recs z.origin 6).Pairwise ltR:=hr.filter _;have hmm:∀x∈findR z.recs z.origin 6,x∈g0∧x.typ=6:=fun x hx=>by obtain ⟨a,b⟩:=Bf.1 hx;unfold isK at b;simp only [Aw,decide_eq_true_eq] at b;exact ⟨(gm g0 k1 x).2 ⟨a,by rw [b.1,k2]⟩,b.2⟩
   have hu:=(gu g0 k1).1 k5.1.1.1.1.1.1.2;generalize findR z.recs z.origin 6=l at*
   match l,hpos,hpw,hmm with
   |[a],_,_,_=>rfl
   |a::b::r,_,hpw,hmm=>
    exfalso;have hab:=(A5.1 hpw).1 b (.head _);obtain ⟨a1,a2⟩:=hmm a (.head _);obtain ⟨b1,b2⟩:=hmm b (.tail _ (.head _));exact ((hu a a1 b b1 (by rw [a2,b2])).1 (Ck2 hab)) (.inl a2)
  ·obtain ⟨g,h1,h2,h3,h4⟩:=hpg r h;unfold dn propG at h4;rw [h2] at h4;simp only [Aw,decide_eq_true_eq,Am,A9,decide_eq_false_iff_not,Hd] at h4;obtain ⟨⟨⟨⟨⟨⟨⟨⟨p1,p2⟩,p3⟩,p4⟩,p5⟩,p6⟩,p7⟩,p8⟩,p9⟩:=h4;have hu:=(gu g h1).1 p3;have hon:∀ts,I4 g ts=true→r.typ∈ts:=fun ts k=>by have:=Bc.1 k r h3;simpa using this
   have has:∀t,r.typ=t→F5 g t=true:=fun t e=>B6.2 ⟨r,h3,by simp [e]⟩;unfold Tv;simp only [Aw,A9,Hd,decide_eq_false_iff_not,ne_eq,I8];refine ⟨⟨⟨p1,?_⟩,?_⟩,?_⟩
   ·by_cases e:r.typ=6
    ·right;rw [has 6 e] at p2;simpa using p2.symm
    ·exact .inl e
   ·unfold Z1;rw [Bc];intro x hx;rw [Q7];intro e;have hxg:x∈g:=(gm g h1 x).2 ⟨hx,by rw [h2,e]⟩;refine ⟨hu r h3 x hxg,fun e5=> ?_⟩;rcases p5 with p5|p5
    ·rw [has 5 e5] at p5;cases p5
    ·have:=Bc.1 p5 x hxg;simpa using this
   ·unfold Yq;have h9:¬((lbl r.name)[0]? =some [42]∧(r.typ=2∨r.typ=39)):=by
     rintro ⟨e1,e2⟩;rcases p9 with p9|⟨q1,q2⟩
     ·exact p9 ((hstar r h).2 e1)
     ·rcases e2 with e2|e2
      ·rw [has 2 e2] at q1;cases q1
      ·rw [has 39 e2] at q2;cases q2
    rw [if_neg h9,Aw];refine ⟨Bc.2 fun x hx=> ?_,?_⟩
    ·unfold Ow;simp only [Aw,A9,Hd,decide_eq_false_iff_not,ne_eq,I8];constructor
     ·by_cases e:x.typ=39
      ·right;rcases Aq (Ew r.name x.name) with q|q
       ·have:Hv9 z r.name=true:=B6.2 ⟨x,hx,by simp [e,q]⟩;rw [this] at p6;cases p6
       ·exact q
      ·exact .inl e
     ·by_cases e:x.typ=2∧Ew x.name z.origin=true∧Ew r.name x.name=true
      ·have q:=e.2.2;unfold Ew at q;simp only [Aw,decide_eq_true_eq] at q;have:Pz z r.name=true:=B6.2 ⟨x,hx,by unfold Dq;simp [e.1,e.2.1,q.2];exact fun k=>q.1 k.symm⟩;rcases p7 with p7|p7
       ·rw [this] at p7;cases p7
       ·have:=hon _ p7;simp at this;rcases this with this|this
        ·exact .inl (.inr this)
        ·exact .inr this
      ·by_cases e1:x.typ=2
       ·by_cases e2:Ew x.name z.origin=true
        ·have e3:Ew r.name x.name=false:=by
          rcases Aq (Ew r.name x.name) with q|q
          ·exact absurd ⟨e1,e2,q⟩ e
          ·exact q
         exact .inl (.inl (.inr e3))
        ·exact .inl (.inl (.inl (.inr (by simpa using e2))))
       ·exact .inl (.inl (.inl (.inl e1)))
    ·have hb:Ew r.name z.origin= !decide (r.name=z.origin):=by unfold Ew;rw [p1];simp
     rw [hb,←h2,←gh g h1 2,h2];by_cases c:¬r.name=z.origin∧F5 g 2=true
     ·have cb:(!decide (r.name=z.origin) && F5 g 2)=true:=by simp [c]
      rw [if_pos c] at p8;rw [if_pos cb];have:=hon _ p8;unfold Yk;simp at this ⊢;omega
     ·have cb:¬(!decide (r.name=z.origin) && F5 g 2)=true:=by simpa using c
      rw [if_neg c] at p8;rw [if_neg cb];simp only [A9] at p8;rw [decide_eq_true_eq];intro e;rw [has 43 e] at p8;cases p8
 ·rintro ⟨h1,h2,h3⟩;have hrr:∃r∈z.recs,r.name=z.origin:=by obtain ⟨r,k1,k2,_⟩:=(Et6 _ _ _).1 h2;exact ⟨r,k1,k2⟩
  refine ⟨fun g hg=> ?_,hrr⟩;obtain ⟨r,hrg⟩:=Fb g (ga g hg).1;obtain ⟨hrz,hrn⟩:=(gm g hg r).1 hrg;have hrec:∀x∈g,under x.name z.origin=true∧(x.typ=6→x.name=z.origin)∧(∀y∈g,two x y∧(x.typ=5→y.typ=5∨y.typ=46∨y.typ=47))∧Yq z x=true:=fun x hx=>by
   obtain ⟨a,b⟩:=(gm g hg x).1 hx;have k:=h3 x a;unfold Tv at k;simp only [Aw,A9,Hd,decide_eq_false_iff_not,ne_eq,I8] at k;refine ⟨k.1.1.1,fun e=> ?_,fun y hy=> ?_,k.2⟩
   ·rcases k.1.1.2 with q|q
    ·exact absurd e q
    ·exact q
   ·obtain ⟨c,d⟩:=(gm g hg y).1 hy;have q:=k.1.2;unfold Z1 at q;exact (Q7 x y).1 (Bc.1 q y c) (by rw [d,b])
  have hpl:∀x∈g,¬((lbl x.name)[0]? =some [42]∧(x.typ=2∨x.typ=39))∧z.recs.all (Ow z x)=true∧(if Ew x.name z.origin && i6 z.recs x.name 2 then Yk x.typ else decide (x.typ≠43))=true:=fun x hx=>by
   have k:=(hrec x hx).2.2.2;unfold Yq at k;by_cases q:(lbl x.name)[0]? =some [42]∧(x.typ=2∨x.typ=39)
   ·rw [if_pos q] at k;cases k
   ·rw [if_neg q,Aw] at k;exact ⟨q,k⟩
  have hnx:∀x∈g,x.name=nmG g:=fun x hx=>((gm g hg x).1 hx).2;unfold dn propG;simp only [Aw,decide_eq_true_eq,Am,A9,decide_eq_false_iff_not,Hd];refine ⟨⟨⟨⟨⟨⟨⟨⟨?_,?_⟩,?_⟩,?_⟩,?_⟩,?_⟩,?_⟩,?_⟩,?_⟩
  ·rw [←hrn];exact (hrec r hrg).1
  ·rw [Cn,decide_eq_true_eq];constructor
   ·intro k;obtain ⟨x,x1,x2⟩:=B6.1 k;rw [←hnx x x1];exact (hrec x x1).2.1 (by simpa using x2)
   ·intro k;rw [gh g hg,k];unfold i6;simp [h1]
  ·exact (gu g hg).2 fun x hx y hy=>((hrec x hx).2.2.1 y hy).1
  ·by_cases e:nmG g=z.origin
   ·right;rw [gh g hg,e];exact h2
   ·exact .inl e
  ·by_cases e:F5 g 5=true
   ·right;obtain ⟨x,x1,x2⟩:=B6.1 e;refine Bc.2 fun y hy=> ?_;have:=((hrec x x1).2.2.1 y hy).2 (by simpa using x2);simpa using this
   ·exact .inl (by simpa using e)
  ·rcases Aq (Hv9 z (nmG g)) with q|q
   ·exfalso;obtain ⟨w,w1,w2⟩:=B6.1 q;have k:=Bc.1 (hpl r hrg).2.1 w w1;unfold Ow at k;rw [hrn] at k;rw [w2] at k;simp at k
   ·exact q
  ·rcases Aq (Pz z (nmG g)) with q|q
   ·right;obtain ⟨w,w1,w2⟩:=B6.1 q;unfold Dq at w2;simp only [Aw,decide_eq_true_eq] at w2;refine Bc.2 fun x hx=> ?_;have k:=Bc.1 (hpl x hx).2.1 w w1;unfold Ow at k;have hb:Ew x.name w.name=true:=by unfold Ew;rw [hnx x hx];have:nmG g≠w.name:=fun e=>w2.1.2 e.symm;simp [this,w2.2]
    rw [hb,w2.1.1.2] at k;simp [w2.1.1.1] at k;have k':x.typ=1∨x.typ=28:=by omega
    simpa using k'
   ·exact .inl q
  ·have hbn:Ew (nmG g) z.origin= !decide (nmG g=z.origin):=by unfold Ew;rw [←hrn,(hrec r hrg).1];simp
   by_cases c0:¬nmG g=z.origin∧F5 g 2=true
   ·have c:(!decide (nmG g=z.origin) && F5 g 2)=true:=by simp [c0]
    rw [if_pos c0];refine Bc.2 fun x hx=> ?_;have k:=(hpl x hx).2.2;rw [hnx x hx,hbn,←gh g hg,if_pos c] at k;unfold Yk at k;simp at k ⊢;omega
   ·have c:¬(!decide (nmG g=z.origin) && F5 g 2)=true:=by simpa using c0
    rw [if_neg c0];simp only [A9];rcases Aq (F5 g 43) with q|q
    ·exfalso;obtain ⟨x,x1,x2⟩:=B6.1 q;have k:=(hpl x x1).2.2;rw [hnx x x1,hbn,←gh g hg,if_neg c] at k;simp at x2 k;exact k x2
    ·exact q
  ·by_cases e:(nmG g)[0]? =some 42
   ·right;rw [←hrn] at e;have e2:=(hstar r hrz).1 e;constructor
    ·rcases Aq (F5 g 2) with q|q
     ·exfalso;obtain ⟨x,x1,x2⟩:=B6.1 q;refine (hpl x x1).1 ⟨by rw [hnx x x1,←hrn];exact e2, .inl (by simpa using x2)⟩
     ·exact q
    ·rcases Aq (F5 g 39) with q|q
     ·exfalso;obtain ⟨x,x1,x2⟩:=B6.1 q;refine (hpl x x1).1 ⟨by rw [hnx x x1,←hrn];exact e2, .inr (by simpa using x2)⟩
     ·exact q
   ·exact .inl e
end Go.X.G
/- Records that go out of a list. -/
namespace Go.X.G
open Go Go.X
theorem dz {step:List PV→Option Out} {id:Nat} {α:Type} (st:α→List PV) (Q:Out→Prop) (I:α→Prop) (μ:α→Nat)
  (h:∀a,I a→(∃b,step (st a)=some (.yld id (st b))∧I b∧μ b<μ a)∨∃o,step (st a)=some o∧o.goes id=false∧Q o):
  ∀(n:Nat) (a:α),I a→μ a<n→∃o,Gj step id n (st a)=some o∧Q o
 |0,a,_,hn=>by omega
 |n+1,a,ha,hn=>by
  simp only [Gj];rcases h a ha with ⟨b,h1,h2,h3⟩|⟨o,h1,h2,h3⟩
  ·rw [h1];simp only [Ay,if_true];exact dz st Q I μ h n b h2 (by omega)
  ·rw [h1];refine ⟨o,?_,h3⟩;simp only [Ay];cases o with
   |ret vs=>rfl
   |yld j vs=>
    simp only [Out.goes,beq_eq_false_iff_ne,ne_eq] at h2;simp only [];rw [if_neg h2]
theorem Hj {fn:Fns} {N:Nat} {η:List PV} {id:Nat} {init:List E} {body:T} {α:Type} (st:α→List PV) (Q:Out→Prop) (I:α→Prop) (μ:α→Nat) (a0:α)
  (h0:E.evs η init=some (st a0)) (hI:I a0) (hN:μ a0<N)
  (h:∀a,I a→(∃b,body.ev fn N (η++st a)=some (.yld id (st b))∧I b∧μ b<μ a)∨∃o,body.ev fn N (η++st a)=some o∧o.goes id=false∧Q o):
  ∃o,(T.loop id init body).ev fn N η=some o∧Q o:=by
 simp only [T.ev,h0,Ay];exact dz st Q I μ h N a0 hI hN
abbrev zr:Rec:=⟨[],0,0,⟨false,0,0,[],[],[],0,0,0,0,0,0,0⟩⟩
abbrev uv:PV:=Rec.pv ⟨[],0,0,⟨false,0,0,[],[],[],0,0,0,0,0,0,0⟩⟩
theorem Jk6 (p:Rec→Bool):∀(l:List Rec) (k:Nat),ixF p k l=ixG p k l
 |[],_=>rfl
 |r::rs,k=>by simp only [ixF,ixG,Jk6 p rs]
theorem Vd (l:List Rec) (g:Nat) (caps:List PV) (p:Rec→Bool) (hl:l.length≤1000000) (h:∀r∈l,S g 1 (r.pv::caps)=some [.b (p r)]):S nn 2 [Ag l, .f g caps]=some [.i .i64 (ixG p 0 l)]:=by rw [←Jk6];exact Pv l g caps p hl h
theorem yp (n:Int) (h0:0≤n) (h1:n≤1073741824):K8 16 (.i .i64 n) uv=some (Ag (List.replicate n.toNat zr)):=by
 have h2:n≤(LIM:Int):=by simp only [LIM];omega
 have h3:uv.cells.length=16:=rfl;simp only [K8,h0,h2,h3,and_self,if_true];simp [Ag,Rec.pv,Rec.cells,Dat.cells]
theorem Bj9 (l:List Rec) (g:Nat) (caps:List PV) (p:Rec→Bool) (hl:l.length≤1000000) (h:∀r∈l,S g 1 (r.pv::caps)=some [.b (p r)]):S f9 1048578 [Ag l, .f g caps]=some [Ag (l.filter fun x=> !p x)]:=by
 refine Ic8 (N:=l.length+1) rfl ?_;have h0:=Vd l g caps p hl h;have hany:=(oh p l 0);by_cases hneg:ixG p 0 l= -1
 ·have hf:l.any p=false:=by
   rcases Aq (l.any p) with h1|h1
   ·have:=hany.1.2 h1;omega
   ·exact h1
  have e:l.filter (fun x=> !p x)=l:=J3 p (fun x hx=>by rw [List.any_eq_false] at hf;simpa using hf x hx);rw [hneg] at h0;rw [e];simp (disch:=omega) only [bf,h0,EVT,EVM,EVC,xe,EVP,EV,simprocAttr]
 ·obtain ⟨j0,g1,g2,g3,x0,g4,g5⟩:=il p l 0 (by have:=hany.2.2;omega);rw [g1] at h0;simp only [D6] at h0;have key:∃s:List Rec,s.length=l.length∧s.take (l.filter fun x=> !p x).length=l.filter (fun x=> !p x)∧Cw3.ev S (l.length+1) [Ag l, .f g caps, .i .i64 (j0:Int)]=some (.yld 0 [.i .i64 (((l.filter fun x=> !p x).length:Nat):Int),Ag s]):=by
   let nx:Nat×Nat×List Rec→Nat×Nat×List Rec:=fun a=>match l[a.2.1]? with
    |some c=>if p c=true then (a.1,a.2.1+1,a.2.2) else (a.1+1,a.2.1+1,a.2.2.set a.1 c)
    |none=>a
   let fin:Nat→Nat×Nat×List Rec→Nat×Nat×List Rec:=fun n a=>Nat.rec a (fun _ b=>nx b) n;have fin_s:∀n a,fin (n+1) a=nx (fin n a):=fun _ _=>rfl;have fin_c:∀n a,fin (n+1) a=fin n (nx a):=by
    intro n
    induction n with
    |zero=>intro a;rfl
    |succ n ih=>intro a;exact congrArg nx (ih a)
   let I:Nat×Nat×List Rec→Prop:=fun a=>a.1<a.2.1∧a.2.1≤l.length∧a.2.2.length=l.length∧a.2.2.take a.1=(l.take a.2.1).filter (fun x=> !p x)∧a.2.2.drop a.2.1=l.drop a.2.1;have I_nx:∀a,I a→a.2.1<l.length→I (nx a)∧(nx a).2.1=a.2.1+1:=by
    rintro ⟨i,j,s⟩ ⟨i1,i2,i3,i4,i5⟩ hj;simp only at i1 i2 i3 i4 i5 hj;have hc:l[j]? =some l[j]:=Ab hj;have ht:l.take (j+1)=l.take j++[l[j]]:=by rw [Cz,hc];rfl
    have hdrop:s.drop (j+1)=l.drop (j+1):=by rw [←Cr (i:=1) (j:=j),i5,Cr]
    have hlen:i=((l.take j).filter fun x=> !p x).length:=by rw [←i4,Ap];omega
    simp only [nx,hc];rcases Aq (p l[j]) with h1|h1
    ·simp only [h1,if_true];refine ⟨⟨by simp only;omega,by simp only;omega,i3,?_,hdrop⟩,trivial⟩;simp only;rw [ht,Dt,i4];simp [h1]
    ·simp only [h1,Ad,if_false];refine ⟨⟨by simp only;omega,by simp only;omega,by simpa using i3,?_,?_⟩,trivial⟩
     ·simp only;rw [ht,Dt,←i4,Cz,List.getElem?_set_self (by omega),List.take_set_of_le (by omega)];simp [h1]
     ·simp only;rw [Rn (by omega),hdrop]
   have I_fin:∀n a,I a→a.2.1+n≤l.length→I (fin n a)∧(fin n a).2.1=a.2.1+n:=by
    intro n
    induction n with
    |zero=>intro a ha _;exact ⟨ha,rfl⟩
    |succ n ih=>
     intro a ha hn;obtain ⟨q1,q2⟩:=ih a ha (by omega);obtain ⟨q3,q4⟩:=I_nx _ q1 (by omega);rw [fin_s];exact ⟨q3,by rw [q4,q2];omega⟩
   have I0:I (j0,j0+1,l):=by refine ⟨by simp only;omega,by simp only;omega,rfl,?_,rfl⟩;simp only;rw [Cz,g4,Dt,J3 p g3];simp [g5]
   obtain ⟨z1,z2⟩:=I_fin (l.length - (j0+1)) (j0,j0+1,l) I0 (by simp only;omega);simp only at z2;refine ⟨(fin (l.length - (j0+1)) (j0,j0+1,l)).2.2,z1.2.2.1,?_,?_⟩
   ·have q:=z1.2.2.2.1;have e1:(fin (l.length - (j0+1)) (j0,j0+1,l)).2.1=l.length:=by rw [z2];omega
    rw [e1,C8] at q;rw [←q,Ap,z1.2.2.1];have:=z1.1;rw [Jz (by omega)]
   ·have hlen:(fin (l.length - (j0+1)) (j0,j0+1,l)).1=(l.filter fun x=> !p x).length:=by
     have q:=z1.2.2.2.1;have e1:(fin (l.length - (j0+1)) (j0,j0+1,l)).2.1=l.length:=by rw [z2];omega
     rw [e1,C8] at q;have q2:=congrArg List.length q;have:=z1.1;rw [Ap,z1.2.2.1,Jz (by omega)] at q2;exact q2
    refine Eq.trans (Ir (α:=Nat×Nat×List Rec) (fun a=>[.i .i64 (a.1:Int), .i .i64 (a.2.1:Int),Ag a.2.2]) (fun a=> .yld 0 [.i .i64 ((fin (l.length - a.2.1) a).1:Int),Ag (fin (l.length - a.2.1) a).2.2]) I (fun a=>l.length - a.2.1) (j0,j0+1,l) ?_ I0 (by simp only;omega) ?_) ?_
    ·simp (disch:=omega) only [EVT,EVM,EVC,xe,EVP,EV,simprocAttr]
    ·rintro ⟨i,j,s⟩ hI;obtain ⟨i1,i2,i3,i4,i5⟩:=hI;simp only at i1 i2 i3 i4 i5;by_cases hj:j<l.length
     ·left;have hc:l[j]? =some l[j]:=Ab hj;have hsc:s[j]? =some l[j]:=by have:=congrArg (fun q=>q[0]?) i5;simpa [A8,hc] using this
      have hsi:∃y,s[i]? =some y:=⟨_,Ab (by omega)⟩;obtain ⟨y,hsi⟩:=hsi;obtain ⟨q3,q4⟩:=I_nx (i,j,s) ⟨i1,i2,i3,i4,i5⟩ hj;have hp:=h l[j] (Dy hj);refine ⟨nx (i,j,s),?_,q3,by rw [q4];simp only;omega,?_⟩
      ·have hjs:(j:Int)<(s.length:Int):=by omega
       rcases Aq (p l[j]) with h1|h1
       ·rw [h1] at hp;simp only [nx,hc,h1,if_true];simp (disch:=omega) only [bf,hjs,hsc,hp,EVT,EVM,EVC,xe,EVP,EV,simprocAttr]
       ·rw [h1] at hp;simp only [nx,hc,h1,Ad,if_false];simp (disch:=omega) only [bf,hjs,hsc,hsi,hp,EVT,EVM,EVC,xe,EVP,EV,simprocAttr]
      ·have e1:l.length - j=(l.length - (j+1))+1:=by omega
       rw [q4];simp only;rw [e1,fin_c]
     ·right;have hjs:¬(j:Int)<(s.length:Int):=by omega
      have e1:l.length - j=0:=by omega
      simp only [e1];simp (disch:=omega) only [bf,hjs,EVT,EVM,EVC,xe,EVP,EV,simprocAttr];exact ⟨rfl,rfl⟩
    ·simp only;rw [hlen]
  obtain ⟨s,hs1,hs2,key⟩:=key;have hle:(l.filter fun x=> !p x).length≤l.length:=Cb _ _;have e0:¬((j0:Int)= -1):=by omega
  generalize (l.filter fun x=> !p x)=fl at*;have hsl1:G9 16 (Ag s) (.i .i64 ((fl.length:Nat):Int)) (.i .i64 (s.length:Int))=some (Ag (s.drop fl.length)):=by rw [G8 _ _ _ _ _ (by omega) (by omega) (by omega)];simp
  have hsl2:G9 16 (Ag s) (.i .i64 0) (.i .i64 ((fl.length:Nat):Int))=some (Ag fl):=by rw [G8 _ _ _ _ _ (by omega) (by omega) (by omega)];simp [hs2]
  have hrep:K8 16 (.i .i64 ((s.length:Int) - (fl.length:Int))) uv=some (Ag (List.replicate (s.length - fl.length) zr)):=by rw [yp _ (by omega) (by omega)];congr 3;omega
  have happ:H7 16 (Ag fl) (Ag (List.replicate (s.length - fl.length) zr))=some (Ag (fl++List.replicate (s.length - fl.length) zr)):=Ix _ _ (by simp;omega);have hsl3:G9 16 (Ag (fl++List.replicate (s.length - fl.length) zr)) (.i .i64 0) (.i .i64 ((fl.length:Nat):Int))=some (Ag fl):=by rw [G8 _ _ _ _ _ (by omega) (by omega) (by simp;omega)];simp
  simp (disch:=omega) only [bf,h0,e0,key,hsl1,hsl2,hrep,happ,hsl3,EVT,EVM,EVC,xe,EVP,EV,simprocAttr]
def Hg3:PV→PV→Int
 | .s a, .s b=>Jm a b
 |_,_=>0
theorem aj (l:List (List UInt8)) (hl:l.length≤1000000) (hs:∀x∈l,x.length≤9223372036854775807):S Ob 1048578 [Bh l, .f Js []]=some [Bh (l.mergeSort fun x y=> !decide (Jm y x<0))]:=by
 have hm:∀x∈l.map PV.s,∃a∈l,x= .s a:=fun x hx=>by obtain ⟨a,h1,h2⟩:=Dd.1 hx;exact ⟨a,h1,h2.symm⟩
 have h:=yg (tab:=tab) (xs:=Hc4) (ss:=U2) (f:=Ob) (s:=Bz4) Hq1 Hq7 (g:=Js) (caps:=[]) (l:=l.map PV.s) (by decide) (by simp;omega)
  (fun x hx=>by obtain ⟨a,_,rfl⟩:=hm x hx;rfl) Hg3
  (fun x hx y hy=>by obtain ⟨a,ha,rfl⟩:=hm x hx;obtain ⟨b,hb,rfl⟩:=hm y hy;exact Un a b (hs a ha) (hs b hb))
  (fun x hx=>by obtain ⟨a,_,rfl⟩:=hm x hx;show¬Jm a a<0;rw [Fz];exact to_N.irr a)
  (fun x hx y hy z hz h1 h2=>by obtain ⟨a,_,rfl⟩:=hm x hx;obtain ⟨b,_,rfl⟩:=hm y hy;obtain ⟨c,_,rfl⟩:=hm z hz;exact (Fz a c).2 (to_N.tr _ _ _ ((Fz a b).1 h1) ((Fz b c).1 h2)))
  (fun x hx y hy z hz h1 h2=>by obtain ⟨a,_,rfl⟩:=hm x hx;obtain ⟨b,_,rfl⟩:=hm y hy;obtain ⟨c,_,rfl⟩:=hm z hz;exact fun h3=>to_N.ntr (fun q=>h1 ((Fz a b).2 q)) (fun q=>h2 ((Fz b c).2 q)) ((Fz a c).1 h3))
  (fun x hx y hy h1 h2=>by
   obtain ⟨a,_,rfl⟩:=hm x hx;obtain ⟨b,_,rfl⟩:=hm y hy;rcases to_N.tri a b with q|q|q
   ·exact absurd ((Fz a b).2 q) h1
   ·rw [q]
   ·exact absurd ((Fz b a).2 q) h2)
 have e:(l.map PV.s).mergeSort (fun x y=> !decide (Hg3 y x<0))=(l.mergeSort fun x y=> !decide (Jm y x<0)).map PV.s:=(Jc5 (r:=fun x y=> !decide (Jm y x<0)) (s:=fun x y=> !decide (Hg3 y x<0)) (f:=PV.s) fun a _ b _=>rfl).symm;rw [e] at h;exact h
theorem Ng (l:List (List UInt8)) (hl:l.length≤1000000):S Tg 1048577 [Bh l]=some [Bh (cpt eqs l)]:=by
 refine Ic9 (N:=l.length+2) rfl ?_;by_cases h2:(l.length:Int)<2
 ·have e:cpt eqs l=l:=by
   match l,h2 with
   |[],_=>rfl
   |[x],_=>rfl
   |_::_::_,h=>simp at h;omega
  rw [e];simp (disch:=omega) only [Nt,h2,EVT,EVM,EVC,xe,EVP,EV,simprocAttr]
 ·-- the inner Gj, from a place where two neighbours are equal
  have inner:∀k:Nat,1≤k→k<l.length→cpt eqs (l.take (k+1))=l.take k→∃s:List (List UInt8),s.length=l.length∧s.take (cpt eqs l).length=cpt eqs l∧Cv0.ev S (l.length+2) [Bh l, .i .i64 (k:Int),Bh l]=some (.yld 2 [.i .i64 ((cpt eqs l).length:Int),Bh s]):=by
   intro k hk1 hk hcp;have key:=Hj (fn:=S) (N:=l.length+2) (η:=[Bh l, .i .i64 (k:Int),Bh l]) (id:=3) (init:=[(.v 1),(.c (.i .i64 (1))),(.v 2)]) (body:=sq) (α:=Nat×Nat×List (List UInt8))
    (fun a=>[.i .i64 (a.1:Int), .i .i64 (a.2.1:Int),Bh a.2.2])
    (fun o=>∃s:List (List UInt8),s.length=l.length∧s.take (cpt eqs l).length=cpt eqs l∧o= .yld 2 [.i .i64 ((cpt eqs l).length:Int),Bh s])
    (fun a=>1≤a.2.1∧k+a.2.1≤l.length∧a.1<k+a.2.1∧a.2.2.length=l.length∧a.2.2.take a.1=cpt eqs (l.take (k+a.2.1))∧(cpt eqs (l.take (k+a.2.1))).length=a.1∧a.2.2.drop (k+a.2.1 - 1)=l.drop (k+a.2.1 - 1))
    (fun a=>l.length - a.2.1) (k,1,l) (by simp (disch:=omega) only [EVT,EVM,EVC,xe,EVP,EV,simprocAttr])
    ⟨by simp,by simp;omega,by simp,rfl,by simp only;rw [hcp],by simp only;rw [hcp,Ap];omega,rfl⟩ (by simp only;omega) ?_
   ·obtain ⟨o,h3,s,h4,h5,rfl⟩:=key;exact ⟨s,h4,h5,h3⟩
   ·rintro ⟨i,j,s⟩ ⟨a1,a2,a3,a4,a5,a6,a7⟩;simp only at a1 a2 a3 a4 a5 a6 a7;by_cases hj:k+j<l.length
    ·left;have c1:s[k+j]? =l[k+j]? :=by have:=congrArg (fun q=>q[1]?) a7;simp only [A8] at this;rwa [show k+j - 1+1=k+j by omega] at this
     have c0:s[k+j - 1]? =l[k+j - 1]? :=by have:=congrArg (fun q=>q[0]?) a7;simpa only [A8,Dv] using this
     have g1:l[k+j]? =some (l[k+j]'hj):=Ab hj;have g0:l[k+j - 1]? =some (l[k+j - 1]'(by omega)):=Ab (by omega);have tk:l.take (k+(j+1))=l.take (k+j)++[l[k+j]'hj]:=by rw [show k+(j+1)=(k+j)+1 by omega,Cz,g1];rfl
     have ne:l.take (k+j)≠[]:=by intro h;have:=congrArg List.length h;rw [Ap,By] at this;omega
     have gl:(l.take (k+j)).getLast ne=l[k+j - 1]'(by omega):=by rw [I6];simp only [uk,Ap];congr 1;omega
     have cs:=Mp eqs (l[k+j]'hj) (l.take (k+j)) ne;rw [←tk,gl] at cs;generalize l[k+j]'hj=x at*;generalize l[k+j - 1]'(by omega)=y at*;have hjj:(j:Int)<(s.length:Int) - (k:Int):=by omega
     have i1:Gt 1 (Bh s) (.i .i64 ((k:Int)+(j:Int)))=some (.s x):=by rw [Ml _ _ _ (by omega),show ((k:Int)+(j:Int)).toNat=k+j by omega,c1,g1];rfl
     have i0:Gt 1 (Bh s) (.i .i64 ((k:Int)+((j:Int) - 1)))=some (.s y):=by rw [Ml _ _ _ (by omega),show ((k:Int)+((j:Int) - 1)).toNat=k+j - 1 by omega,c0,g0];rfl
     have ls:G9 1 (Bh s) (.i .i64 (k:Int)) (.i .i64 (s.length:Int))=some (Bh (s.drop k)):=by rw [Mf _ _ _ _ _ (by omega) (by omega) (by omega)];simp
     have e1:(s.drop k)[j]? =some x:=by rw [A8,c1,g1]
     have e0:(s.drop k)[j - 1]? =some y:=by rw [A8,show k+(j - 1)=k+j - 1 by omega,c0,g0]
     have si:∃w,s[i]? =some w:=⟨_,Ab (by omega)⟩;obtain ⟨w,si⟩:=si;have ej:((j:Int) - 1).toNat=j - 1:=by omega
     by_cases hxy:x=y
     ·refine ⟨(i,j+1,s),?_,⟨by simp,by simp only;omega,by simp only;omega,a4,?_,?_,?_⟩,by simp only;omega⟩
      ·simp (disch:=omega) only [Nt,hjj,i1,i0,ls,e1,e0,ej,hxy,EVT,EVM,EVC,xe,EVP,EV,simprocAttr]
      ·simp only;rw [cs,a5];simp [eqs,hxy]
      ·simp only;rw [cs,Az,a6];simp [eqs,hxy]
      ·simp only;rw [show k+(j+1) - 1=(k+j - 1)+1 by omega,←Cr,←Cr,a7]
     ·refine ⟨(i+1,j+1,s.set i x),?_,⟨by simp,by simp only;omega,by simp only;omega,by simpa using a4,?_,?_,?_⟩,by simp only;omega⟩
      ·simp (disch:=omega) only [Nt,hjj,i1,i0,ls,e1,e0,ej,si,hxy,EVT,EVM,EVC,xe,EVP,EV,simprocAttr]
      ·simp only;rw [cs,Cz,List.getElem?_set_self (by omega),List.take_set_of_le (by omega),a5];simp [eqs,hxy]
      ·simp only;rw [cs,Az,a6];simp [eqs,hxy]
      ·simp only;rw [show k+(j+1) - 1=(k+j - 1)+1 by omega,Rn (by omega),←Cr,←Cr,a7]
    ·right;have ek:k+j=l.length:=by omega
     rw [ek,C8] at a5 a6;have hjj:¬(j:Int)<(s.length:Int) - (k:Int):=by omega
     refine ⟨.yld 2 [.i .i64 (i:Int),Bh s],?_,rfl,s,a4,by rw [a6];exact a5,by rw [a6]⟩;simp (disch:=omega) only [Nt,hjj,EVT,EVM,EVC,xe,EVP,EV,simprocAttr]
  have key:Cw4.ev S (l.length+2) [Bh l]=some (if cpt eqs l=l then .yld 0 [Bh l] else .ret [Bh (cpt eqs l)]):=by
   have:=Hj (fn:=S) (N:=l.length+2) (η:=[Bh l]) (id:=1) (init:=[(.c (.i .i64 (1))),(.v 0)]) (body:=s7) (α:=Nat)
    (fun k=>[.i .i64 (k:Int),Bh l]) (fun o=>o=if cpt eqs l=l then .yld 0 [Bh l] else .ret [Bh (cpt eqs l)])
    (fun k=>1≤k∧k≤l.length∧cpt eqs (l.take k)=l.take k) (fun k=>l.length - k) 1 (by simp (disch:=omega) only [EVT,EVM,EVC,xe,EVP,EV,simprocAttr])
    ⟨Af 1,by omega,by cases l with
     |nil=>simp at h2
     |cons x r=>rfl⟩ (by omega) ?_
   ·obtain ⟨o,h3,h4⟩:=this;rw [←h4];exact h3
   ·rintro k ⟨k1,k2,k3⟩;by_cases hk:k<l.length
    ·have g1:l[k]? =some l[k]:=Ab hk;have g0:l[k - 1]? =some (l[k - 1]'(by omega)):=Ab (by omega);have tk:l.take (k+1)=l.take k++[l[k]]:=by rw [Cz,g1];rfl
     have ne:l.take k≠[]:=by intro h;have:=congrArg List.length h;rw [Ap,By] at this;omega
     have gl:(l.take k).getLast ne=l[k - 1]'(by omega):=by rw [I6];simp only [uk,Ap];congr 1;omega
     have cs:=Mp eqs l[k] (l.take k) ne;rw [←tk,gl,k3] at cs;have hkk:(k:Int)<(l.length:Int):=by omega
     have i1:Gt 1 (Bh l) (.i .i64 (k:Int))=some (.s l[k]):=by rw [Ml _ _ _ (by omega),show ((k:Int)).toNat=k by omega,g1];rfl
     have i0:Gt 1 (Bh l) (.i .i64 ((k:Int) - 1))=some (.s (l[k - 1]'(by omega))):=by rw [Ml _ _ _ (by omega),show ((k:Int) - 1).toNat=k - 1 by omega,g0];rfl
     by_cases hxy:l[k]=l[k - 1]'(by omega)
     ·right;have cs':cpt eqs (l.take (k+1))=l.take k:=by rw [cs];simp [eqs,hxy]
      obtain ⟨s,s1,s2,s3⟩:=inner k k1 hk cs';have hlt:cpt eqs l≠l:=by
       intro h;have q:(cpt eqs l).length≤(cpt eqs (l.take (k+1))).length+(l.drop (k+1)).length:=by
        have:∀(b a:List (List UInt8)),a≠[]→(cpt eqs (a++b)).length≤(cpt eqs a).length+b.length:=by
         intro b
         induction b with
         |nil=>intro a _;simp
         |cons x r ih=>
          intro a ha;have h1:=ih (a++[x]) (by simp);rw [Mp _ _ _ ha] at h1;rw [show a++x::r=a++[x]++r by simp];refine Cd h1 ?_;rw [Az];split<;>simp<;>omega
        have h3:=this (l.drop (k+1)) (l.take (k+1)) (by intro h;have:=congrArg List.length h;rw [Ap,By] at this;omega);rwa [Br] at h3
       rw [h,cs',Ap,B4] at q;omega
      have hlen:=Zd eqs l;refine ⟨.ret [Bh (cpt eqs l)],?_,rfl,by rw [if_neg hlt]⟩;generalize cpt eqs l=fl at*;have ls:G9 1 (Bh l) (.i .i64 (k:Int)) (.i .i64 (l.length:Int))=some (Bh (l.drop k)):=by rw [Mf _ _ _ _ _ (by omega) (by omega) (by omega)];simp
      have hsl1:G9 1 (Bh s) (.i .i64 ((fl.length:Nat):Int)) (.i .i64 (s.length:Int))=some (Bh (s.drop fl.length)):=by rw [Mf _ _ _ _ _ (by omega) (by omega) (by omega)];simp
      have hsl2:G9 1 (Bh s) (.i .i64 0) (.i .i64 ((fl.length:Nat):Int))=some (Bh fl):=by rw [Mf _ _ _ _ _ (by omega) (by omega) (by omega)];simp [s2]
      have hrep:K8 1 (.i .i64 ((s.length:Int) - (fl.length:Int))) (.s [])=some (Bh (List.replicate (s.length - fl.length) [])):=by rw [yn _ (by omega) (by omega)];congr 3;omega
      have happ:H7 1 (Bh fl) (Bh (List.replicate (s.length - fl.length) []))=some (Bh (fl++List.replicate (s.length - fl.length) [])):=Ab1 _ _ (by simp;omega);have hsl3:G9 1 (Bh (fl++List.replicate (s.length - fl.length) [])) (.i .i64 0) (.i .i64 ((fl.length:Nat):Int))=some (Bh fl):=by rw [Mf _ _ _ _ _ (by omega) (by omega) (by simp;omega)];simp
      simp (disch:=omega) only [Nt,hkk,i1,i0,hxy,ls,s3,hsl1,hsl2,hrep,happ,hsl3,EVT,EVM,EVC,xe,EVP,EV,simprocAttr]
     ·left;refine ⟨k+1,?_,⟨by omega,by omega,?_⟩,by omega⟩
      ·simp (disch:=omega) only [Nt,hkk,i1,i0,hxy,EVT,EVM,EVC,xe,EVP,EV,simprocAttr]
      ·rw [cs,tk];simp [eqs,hxy]
    ·right;have e:k=l.length:=by omega
     subst e;rw [C8] at k3;refine ⟨_,?_,?_,rfl⟩
     ·rw [if_pos k3];simp (disch:=omega) only [Nt,EVT,EVM,EVC,xe,EVP,EV,simprocAttr]
     ·rw [if_pos k3];rfl
  by_cases h:cpt eqs l=l
  ·rw [if_pos h] at key;rw [h];simp (disch:=omega) only [Nt,h2,key,EVT,EVM,EVC,xe,EVP,EV,simprocAttr]
  ·rw [if_neg h] at key;simp (disch:=omega) only [Nt,h2,key,EVT,EVM,EVC,xe,EVP,EV,simprocAttr]
end Go.X.G
/- Types of records: the program's table. -/
namespace Go.X.G
open Go Go.X
structure Kd where
 num:Int
 mne:List UInt8
 fls:List UInt8
def Kd.pv (k:Kd):PV:= .a [.i .i64 k.num, .s k.mne, .s k.fls]
def od (l:List Kd):PV:= .l 3 (l.map Kd.pv)
def kds:List Kd:=[⟨1,[65],[52]⟩,⟨2,[78,83],[104]⟩,⟨5,[67,78,65,77,69],[104]⟩,⟨6,[83,79,65],[104,109,118,119,120,121,122]⟩,⟨12,[80,84,82],[104]⟩,⟨15,[77,88],[65,104]⟩,⟨16,[84,88,84],[116]⟩,⟨28,[65,65,65,65],[54]⟩,⟨33,[83,82,86],[65,66,67,104]⟩,⟨39,[68,78,65,77,69],[104]⟩,⟨43,[68,83],[65,98,99,114]⟩,⟨46,[82,82,83,73,71],[65,115,98,120,121,122,70,104,114]⟩,⟨47,[78,83,69,67],[104,110]⟩,⟨48,[68,78,83,75,69,89],[65,98,99,114]⟩]
theorem Yj (k:Kd):Bt 0 k.pv=some (.i .i64 k.num):=rfl
theorem X9 (k:Kd):Bt 1 k.pv=some (.s k.mne):=rfl
theorem C2 (k:Kd):Bt 2 k.pv=some (.s k.fls):=rfl
theorem By7 (k:Kd):Jd 0 3 k.pv=some k.pv:=rfl
theorem Q1 (k:Kd):Ry 3 k.pv=some k.pv:=rfl
theorem Qk (l:List Kd):F4 (od l)=some (.i .i64 (l.length:Int)):=by simp [od,F4]
theorem ol (l:List Kd) (k:IntKind) (z:Int) (h:0≤z):Gt 3 (od l) (.i k z)=(l[z.toNat]?).map Kd.pv:=by simp [od,Y0 _ _ _ _ h]
theorem z7:S Wv 0 []=some [od kds]:=Ic4 (N:=1) rfl (by kernel_rfl)
theorem T8 (k:Kd):PV.flat k.pv=true:=rfl
theorem Aj2 (t:Int):S Wd 1 [.i .i64 t]=some (match kds.find? (fun k=>decide (k.num=t)) with|some k=>[k.pv, .b true]|none=>[Kd.pv ⟨0,[],[]⟩, .b false]):=by
 refine If9 (N:=20) rfl ?_;have key:∀l:List Kd,l.length≤15→Cw9.ev S 20 [.i .i64 t,od l]=some (match l.find? (fun k=>decide (k.num=t)) with|some k=> .ret [k.pv, .b true]|none=> .yld 0 [.i .i64 0, .s [], .s []]):=by
  intro l hl;refine Fc l (fun i=>[.i .i64 (i:Int), .i .i64 0, .s [], .s []]) (fun i r=>match r.find? (fun k=>decide (k.num=t)) with|some k=> .ret [k.pv, .b true]|none=> .yld 0 [.i .i64 0, .s [], .s []]) rfl (by omega) (fun i c r hd hi hc=> ?_) ?_
  ·by_cases h:c.num=t
   ·right;simp (disch:=omega) only [bg,hc,h,Yj,X9,C2,By7,Q1,Qk,ol,xe,EVP,EV,simprocAttr];simp [h,Out.goes]
   ·left;simp (disch:=omega) only [bg,hc,h,Yj,X9,C2,By7,Q1,Qk,ol,xe,EVP,EV,simprocAttr];simp [h]
  ·simp (disch:=omega) only [bg,Yj,X9,C2,By7,Q1,Qk,ol,xe,EVP,EV,simprocAttr];simp [Out.goes]
 have hk:=key kds (by decide);have hkd:=z7;cases h:kds.find? (fun k=>decide (k.num=t)) with
 |some k=>
  rw [h] at hk;simp (disch:=omega) only [bg,hkd,hk,Qk,xe,EVP,EV,simprocAttr]
 |none=>
  rw [h] at hk;simp (disch:=omega) only [bg,hkd,hk,Qk,xe,EVP,EV,simprocAttr];rfl
theorem Ak3 (t:Int):(kds.find? (fun k=>decide (k.num=t))).isSome=knw t:=by
 rw [Cn,List.find?_isSome];simp [kds,knw]
 grind
theorem C1 (t:Int):S Am9 1 [.i .i64 t]=some [.b (knw t)]:=by
 refine Jn1 (N:=1) rfl ?_;have h:=Aj2 t;have h2:=Ak3 t;cases hk:kds.find? (fun k=>decide (k.num=t)) with
 |some k=>
  rw [hk] at h h2;simp only [Option.isSome_some] at h2;simp (disch:=omega) only [Ij7,h,T8,Q1,xe,EVP,EV,simprocAttr];rw [←h2]
 |none=>
  rw [hk] at h h2;simp only [Lv] at h2;simp (disch:=omega) only [Ij7,h,T8,Q1,xe,EVP,EV,simprocAttr];rw [←h2]
end Go.X.G
/- Data of records in the program: which are valid. -/
namespace Go.X.G
open Go Go.X
theorem kz (s t:List UInt8) (hs:s.length≤9223372036854775807):S f7 2 [.s s, .s t]=some [.b (t.isPrefixOf s)]:=by
 refine Ic3 (N:=1) rfl ?_;have h:S ff 2 [.s s, .s t]=some [.b (t.isPrefixOf s)]:=by
  refine Ib1 (N:=1) rfl ?_;by_cases hl:(t.length:Int)≤(s.length:Int)
  ·simp (disch:=omega) only [Fx1,hl,EVC,xe,EVP,EV,simprocAttr];congr 4;rw [Cn,List.isPrefixOf_iff_prefix,List.prefix_iff_eq_take];simp;exact ⟨fun h=>h.symm,fun h=>h.symm⟩
  ·simp (disch:=omega) only [Fx1,hl,EVC,xe,EVP,EV,simprocAttr];congr 4;rw [eq_comm,Bool.eq_false_iff];intro h;have:=(List.isPrefixOf_iff_prefix.1 h).length_le;omega
 simp (disch:=omega) only [Ik6,h,EVC,xe,EVP,EV,simprocAttr]
theorem Dk (n:List UInt8) (hn:n.length≤9223372036854775807):S M5 1 [.s n]=some [.b (Hl n)]:=by
 refine If7 (N:=1) rfl ?_;have h1:=B5 n hn;have h2:=kz n [42] hn;unfold Hl;rcases Aq (vld n) with h|h
 ·rw [h] at h1;have e:([42]:List UInt8).isPrefixOf n=decide (n[0]? =some 42):=by
   cases n with
   |nil=>rfl
   |cons c r=>rw [Cn];simp [List.isPrefixOf];exact ⟨fun h=>h.symm,fun h=>h.symm⟩
  rw [e] at h2;simp (disch:=omega) only [Fx7,h1,h2,h,EVC,xe,EVP,EV,simprocAttr];by_cases h3:n[0]? =some 42<;>simp [h3]
 ·rw [h] at h1;simp (disch:=omega) only [Fx7,h1,h,EVC,xe,EVP,EV,simprocAttr];rfl
theorem C3 (n m:Int):S Gl 2 [.i .i64 n, .i .i64 m]=some [.b (inB n m)]:=by refine If5 (N:=1) rfl ?_;unfold inB;by_cases h:0≤n<;>simp (disch:=omega) only [Iq6,h,EVC,xe,EVP,EV,simprocAttr]<;>simp
theorem D1 (s:List UInt8) (hs:s.length≤9223372036854775807):S Tl 1 [.s s]=some [.b (I3 s)]:=by
 refine If4 (N:=1) rfl ?_;unfold I3;by_cases h:(1:Int)≤(s.length:Int)
 ·have h':1≤s.length:=by omega
  simp (disch:=omega) only [Fx5,h,EVC,xe,EVP,EV,simprocAttr];by_cases h2:s.length≤255
  ·have h3:(s.length:Int)≤255:=by omega
   simp [h',h2,h3]
  ·have h3:¬(s.length:Int)≤255:=by omega
   simp [h2,h3]
 ·have h':¬1≤s.length:=by omega
  simp (disch:=omega) only [Fx5,h,EVC,xe,EVP,EV,simprocAttr];simp [h']
theorem C0 (d:Dat):S Wc 1 [J6 d]=some [.b (Ek d)]:=by
 refine If8 (N:=1) rfl ?_;unfold Ek;rcases Aq d.v6 with h|h
 ·simp (disch:=omega) only [Bx0,h,EVC,xe,EVP,EV,simprocAttr];simp
 ·by_cases h2:d.hi=0
  ·simp (disch:=omega) only [Bx0,h,h2,EVC,xe,EVP,EV,simprocAttr];by_cases h3:d.lo≤4294967295
   ·have:d.lo<4294967296:=by omega
    simp [h3,this]
   ·have:¬d.lo<4294967296:=by omega
    simp [h3,this]
  ·simp (disch:=omega) only [Bx0,h,h2,EVC,xe,EVP,EV,simprocAttr];simp
theorem C4 (n:Int):S gr 1 [.i .i64 n]=some [.b (inB n 4294967295)]:=by
 refine If6 (N:=1) rfl ?_;unfold inB;by_cases h:0≤n
 ·simp (disch:=omega) only [Fx6,h,EVC,xe,EVP,EV,simprocAttr];by_cases h3:n≤4294967295
  ·have:n<4294967296:=by omega
   simp [h3,this]
  ·have:¬n<4294967296:=by omega
   simp [h3,this]
 ·simp (disch:=omega) only [Fx6,h,EVC,xe,EVP,EV,simprocAttr];simp
def Fw8:Int:=501935916552294
theorem D3:S gp 0 []=some [.i .u64 Fw8]:=by
 refine If3 (N:=20) rfl ?_;have key:Cw8.ev S 20 [od kds]=some (.yld 0 [.i .u64 Fw8]):=by kernel_rfl
 simp (disch:=omega) only [Iq5,z7,key,Qk,EVC,xe,EVP,EV,simprocAttr]
theorem Ab7 (x:Int):∀(k i:Nat),Hs2 x i k=true↔∀j,i≤j→j<i+k→bit x j=1→knw (j:Int)=true
 |0,i=>by simp only [Hs2,true_iff];intro j h1 h2;omega
 |k+1,i=>by
  simp only [Hs2,Aw,Am,A9,decide_eq_false_iff_not];rw [Ab7 x k (i+1)];constructor
  ·rintro ⟨h1,h2⟩ j h3 h4 h5;rcases Nat.lt_or_eq_of_le h3 with h|h
   ·exact h2 j (by omega) (by omega) h5
   ·subst h;rcases h1 with h1|h1
    ·exact absurd h5 h1
    ·exact h1
  ·intro h;refine ⟨?_,fun j h1 h2 h3=>h j (by omega) (by omega) h3⟩;by_cases hb:bit x i=1
   ·exact .inr (h i (Af _) (by omega) hb)
   ·exact .inl hb
theorem Ab4:∀i:Nat,i<64→(BitVec.ofInt 64 Fw8).getLsbD i=knw (i:Int):=by decide
theorem Ds3 (x:Int) (h0:0≤x) (h1:x≤18446744073709551615) (i:Nat) (hi:i<64):bit x i=1↔(BitVec.ofInt 64 x).getLsbD i=true:=by
 obtain ⟨n,rfl⟩:∃n:Nat,x=n:=⟨x.toNat,by omega⟩;have e:BitVec.ofInt 64 (n:Int)=BitVec.ofNat 64 n:=by simp
 rw [e,BitVec.getLsbD_ofNat];simp only [hi,decide_true,Pf,Nat.testBit_eq_decide_div_mod_eq,decide_eq_true_eq];unfold bit;constructor
 ·intro h;have:(((n / 2 ^ i % 2:Nat)):Int)=1:=by push_cast;exact h
  omega
 ·intro h;have:(((n / 2 ^ i % 2:Nat)):Int)=1:=by omega
  push_cast at this;exact this
theorem Ej (x:Int) (h0:0≤x) (h1:x≤18446744073709551615):decide (IntKind.u64.wrap ((BitVec.ofInt IntKind.u64.bits x &&& ~~~ BitVec.ofInt IntKind.u64.bits Fw8).toNat:Int)=0)=Hs2 x 0 64:=by
 have hb:IntKind.u64.bits=64:=rfl;have hw:IntKind.u64.wrap ((BitVec.ofInt 64 x &&& ~~~ BitVec.ofInt 64 Fw8).toNat:Int)=((BitVec.ofInt 64 x &&& ~~~ BitVec.ofInt 64 Fw8).toNat:Int):=by have:=(BitVec.ofInt 64 x &&& ~~~ BitVec.ofInt 64 Fw8).isLt;rw [Jf8]<;>omega
 rw [hb,hw,Cn,decide_eq_true_eq,Ab7];constructor
 ·intro h j _ hj hb1;have hz:(BitVec.ofInt 64 x &&& ~~~ BitVec.ofInt 64 Fw8)=0#64:=BitVec.eq_of_toNat_eq (by simp only [BitVec.toNat_ofNat];omega);have:=congrArg (fun v=>v.getLsbD j) hz;simp only [BitVec.getLsbD_and,BitVec.getLsbD_not,BitVec.getLsbD_zero] at this;rw [(Ds3 x h0 h1 j (by omega)).1 hb1,Ab4 j (by omega)] at this;have hj':j<64:=by omega
  simpa [hj'] using this
 ·intro h;have hz:(BitVec.ofInt 64 x &&& ~~~ BitVec.ofInt 64 Fw8)=0#64:=by
   apply BitVec.eq_of_getLsbD_eq;intro i hi;simp only [BitVec.getLsbD_and,BitVec.getLsbD_not,BitVec.getLsbD_zero];rw [Ab4 i hi];rcases Aq ((BitVec.ofInt 64 x).getLsbD i) with q|q
   ·rw [h i (Cc _) (by omega) ((Ds3 x h0 h1 i hi).2 q)];simp
   ·rw [q];rfl
  rw [hz];rfl
end Go.X.G
