/- Questions and messages. -/
import Derived.Test.YtfhbgkahambahaaGreatDoorIterateServerG11
import Derived.Test.YtfhbgkahambahaaGreatDoorIterateServerG10
open Bool renaming eq_false_or_eq_true→Bm,and_eq_true→Br,false_eq_true→B5,or_eq_true→Cj,not_eq_true'→Cm,eq_iff_iff→D6,false_or→J6,true_and→Sw
open List renaming length_append→B0,getElem?_eq_getElem→B3,mem_cons→Ck,length_take→Cq,length_cons→Cw,mem_of_getElem?→Cc,pairwise_cons→Cf,getElem?_drop→Ch,length_nil→Cl,length_pos_iff→Cr,mem_filter→C0,mem_append→C4,getElem?_map→C6,take_append_drop→C9,mem_singleton→Dk,length_drop→Dv,cons_append→Dh,take_add_one→Dm,nil_append→Dp,length_filter_le→D1,drop_drop→D9,take_length→Ex,take_of_length_le→Ef,mem_of_mem_take→Eg,getElem_mem→Em,mem_map→E2,length_map→E5,append_nil→E6,filter_append→Ff,map_cons→G1,flatMap_cons→Hk,mem_of_mem_drop→H8,getLast_eq_getElem→K2,findIdx?_cons→Nv,mem_of_find?_eq_some→Px,filter_eq_self→U3,drop_set_of_lt→U4,length_mergeSort→wq,getElem_take→Ax1,map_mergeSort→Hr2
open Nat renaming le_refl→B7,le_trans→Dy,zero_le→Dr,add_zero→E1,zero_add→Fs,mul_le_mul→Ir,min_eq_left→Lw,mul_one→Bm8
open Option renaming bind_some→Bt,map_some→Cb,isSome_none→Nk
open Option.some renaming injEq→Bn
set_option maxHeartbeats 1000000
set_option linter.defProp false
set_option linter.unusedVariables false
set_option linter.unusedSimpArgs false
namespace Go.X
open Go
structure Ques where
 name:List UInt8
 typ:Int
 deriving DecidableEq
structure Msg where
 id:Int
 op:Int
 code:Int
 resp:Bool
 aa:Bool
 tc:Bool
 rd:Bool
 ra:Bool
 ad:Bool
 cd:Bool
 dok:Bool
 size:Int
 q:Ques
 ans:List Rec
 auth:List Rec
 ext:List Rec
 deriving DecidableEq
structure Ques.wf (x:Ques):Prop where
 name:Hv x.name
 typ:Im x.typ
structure Msg.wf (m:Msg):Prop where
 id:Im m.id
 op:Im m.op
 code:Im m.code
 size:Im m.size
 q:m.q.wf
 ans:Qs m.ans
 auth:Qs m.auth
 ext:Qs m.ext
def Ques.cells (x:Ques):List PV:=[.s x.name,.i .i64 x.typ]
def Ques.pv (x:Ques):PV:= .a x.cells
def Msg.cells (m:Msg):List PV:= .i .i64 m.id:: .i .i64 m.op:: .i .i64 m.code:: .b m.resp:: .b m.aa:: .b m.tc:: .b m.rd:: .b m.ra:: .b m.ad:: .b m.cd:: .b m.dok:: .i .i64 m.size:: .s m.q.name:: .i .i64 m.q.typ::B6 m.ans::B6 m.auth::B6 m.ext::[]
def Msg.pv (m:Msg):PV:= .a m.cells
def shQ:Sh:= .st [.s,.i .i64]
def Fm7 {cs:List PV} (h:shQ.okC cs):∃q:Ques,q.wf∧cs=q.cells:=by obtain⟨a0,r0,rfl,h0,h⟩:=E4 (od h);obtain⟨a1,r1,rfl,h1,h⟩:=E4 h;obtain rfl:=Q1 h;obtain⟨x0,rfl,k0⟩:=By7 h0;obtain⟨x1,rfl,k1⟩:=Mc h1;exact⟨⟨x0,x1⟩,⟨k0,k1⟩,rfl⟩
def Ih2 {p:PV} (h:shQ.ok p):∃q:Ques,q.wf∧p=q.pv:=by obtain⟨ds,rfl,h⟩:∃ds,p= .a ds∧shQ.okC ds:=h;obtain⟨r,hr,rfl⟩:=Fm7 h;exact⟨r,hr,rfl⟩
def Cc3 (m:Msg):C2 0 m.pv=some (.i .i64 m.id):=rfl
def Cc2 (m:Msg):C2 1 m.pv=some (.i .i64 m.op):=rfl
def Cc1 (m:Msg):C2 2 m.pv=some (.i .i64 m.code):=rfl
def Cc0 (m:Msg):C2 3 m.pv=some (.b m.resp):=rfl
def Cb9 (m:Msg):C2 4 m.pv=some (.b m.aa):=rfl
def Cb8 (m:Msg):C2 5 m.pv=some (.b m.tc):=rfl
def Cb7 (m:Msg):C2 6 m.pv=some (.b m.rd):=rfl
def Cb6 (m:Msg):C2 7 m.pv=some (.b m.ra):=rfl
def Cb5 (m:Msg):C2 8 m.pv=some (.b m.ad):=rfl
def Cb4 (m:Msg):C2 9 m.pv=some (.b m.cd):=rfl
def Bw5 (m:Msg):C2 10 m.pv=some (.b m.dok):=rfl
def Bw4 (m:Msg):C2 11 m.pv=some (.i .i64 m.size):=rfl
def Bw3 (m:Msg):C2 12 m.pv=some (.s m.q.name):=rfl
def Bw2 (m:Msg):C2 13 m.pv=some (.i .i64 m.q.typ):=rfl
def Bw1 (m:Msg):C2 14 m.pv=some (B6 m.ans):=rfl
def Bw0 (m:Msg):C2 15 m.pv=some (B6 m.auth):=rfl
def Bv9 (m:Msg):C2 16 m.pv=some (B6 m.ext):=rfl
def Fg3 (m:Msg):Jt 0 17 m.pv=some m.pv:=rfl
def Fs4 (m:Msg):Rx 17 m.pv=some m.pv:=rfl
def Bt6 (m:Msg):Jt 12 2 m.pv=some m.q.pv:=rfl
def Iq2 (x:Ques):Jt 0 2 x.pv=some x.pv:=rfl
def Jq2 (x:Ques):Rx 2 x.pv=some x.pv:=rfl
def Fl8 (x:Ques):C2 0 x.pv=some (.s x.name):=rfl
def Fl7 (x:Ques):C2 1 x.pv=some (.i .i64 x.typ):=rfl
def Hf0 (n:List UInt8) (t:Int):PV.a [.s n,.i .i64 t]=Ques.pv ⟨n,t⟩:=rfl
def Jq7 (x:Ques):(⟨x.name,x.typ⟩:Ques)=x:=rfl
def Em9 (x0 x1 x2:Int) (b0 b1 b2 b3 b4 b5 b6 b7:Bool) (x3:Int) (n:List UInt8) (t:Int) (l0 l1 l2:List Rec):PV.a [.i .i64 x0,.i .i64 x1,.i .i64 x2,.b b0,.b b1,.b b2,.b b3,.b b4,.b b5,.b b6,.b b7,.i .i64 x3,.s n,.i .i64 t,B6 l0,B6 l1,B6 l2]=Msg.pv ⟨x0,x1,x2,b0,b1,b2,b3,b4,b5,b6,b7,x3,⟨n,t⟩,l0,l1,l2⟩:=rfl
def Jx0 (neg:Bool) (x y:Ques):M9 neg true [.s,(.i .i64)] x.pv y.pv=some (.b (if neg then decide (x≠y) else decide (x=y))):=by
 have:H5 [.s,(.i .i64)] x.cells y.cells=some (decide (x=y)):=by simp only[Ques.cells,H5,Dm6,if_true,Bn];rw[D6];cases x;cases y;simp
 simp only[M9,Ques.pv,this,Cb];cases neg<;>simp
set_option linter.defProp false in
def EVM:=(And.intro @Cc3 (And.intro @Cc2 (And.intro @Cc1 (And.intro @Cc0 (And.intro @Cb9 (And.intro @Cb8 (And.intro @Cb7 (And.intro @Cb6 (And.intro @Cb5 (And.intro @Cb4 (And.intro @Bw5 (And.intro @Bw4 (And.intro @Bw3 (And.intro @Bw2 (And.intro @Bw1 (And.intro @Bw0 (And.intro @Bv9 (And.intro @Fg3 (And.intro @Fs4 (And.intro @Bt6 (And.intro @Iq2 (And.intro @Jq2 (And.intro @Fl8 (And.intro @Fl7 (And.intro @Hf0 (And.intro @Jq7 (And.intro @Em9 @Jx0)))))))))))))))))))))))))))
end Go.X
/- Closures and sets of strings, evaluated. -/
namespace Go.X
open Go
def Hm0 (fn:Fns) (η:List PV) (fl:Bool) (ar:List E) (m:Nat):PV→Option (List PV)
 | .f f caps=>(E.evs η ar).bind fun vs=>results fl m η (fn f vs.length (vs++caps))
 |_=>none
def Ay2 {fn:Fns} {η:List PV} (fl:Bool) (c:E) (ar:List E) (m:Nat):W.ev fn η (.clo none fl c ar m)=(c.ev η).bind (Hm0 fn η fl ar m):=by
 rw[Fd7];congr 1;funext q;cases q with
 |f f caps=>rfl
 |_=>cases h:E.evs η ar<;>rfl
def Hl9 {fn:Fns} {η:List PV} (fl:Bool) (ar:List E) (m:Nat) (f:Nat) (caps:List PV):Hm0 fn η fl ar m (.f f caps)=(E.evs η ar).bind fun vs=>results fl m η (fn f vs.length (vs++caps)):=rfl
def Hk5 (f:Nat) (caps:List PV):C2 0 (.f f caps)=some (.f f caps):=rfl
def Gm2 (f:Nat) (caps:List PV):J4 (.f f caps)=some (.f f caps):=rfl
def I3 (ks:List (List UInt8)):PV:= .m (ks.map fun k=>(.s k,.b true))
def Fh8:PV.m []=I3 []:=rfl
def Ec8 (ks:List (List UInt8)):C2 0 (I3 ks)=some (I3 ks):=rfl
def Ez9 (ks:List (List UInt8)):J4 (I3 ks)=some (I3 ks):=rfl
def qn (k:List UInt8):∀ks:List (List UInt8),f7 (.s k) (ks.map fun k=>(.s k,.b true))=some (if k∈ks then some (.b true) else none)
 |[]=>by simp[f7]
 |x::ks=>by
  simp only[G1,f7,rx];by_cases h:k=x
  ·subst h;simp
  ·have h2:(k==x)=false:=by simpa using h
   rw[h2];simp only[qn k ks,Ck,h,false_or]
def Al3 (k:List UInt8):∀ks:List (List UInt8),Fq0 (.s k) (.b true) (ks.map fun k=>(.s k,.b true))=some ((if k∈ks then ks else ks++[k]).map fun k=>(.s k,.b true))
 |[]=>by simp[Fq0]
 |x::ks=>by
  simp only[G1,Fq0,rx];by_cases h:k=x
  ·subst h;simp
  ·have h2:(k==x)=false:=by simpa using h
   rw[h2];simp only[Al3 k ks,Ck,h,false_or,Cb];by_cases h3:k∈ks<;>simp[h3]
def Eg3 (k:List UInt8) (ks:List (List UInt8)):qm (I3 ks) (.s k) (.b false)=some (.b (decide (k∈ks))):=by simp only[qm,I3,Dk4,if_true,qn,Cb];by_cases h:k∈ks<;>simp[h]
def Eg2 (k:List UInt8) (ks:List (List UInt8)):qh (I3 ks) (.s k) (.b true)=some (I3 (if k∈ks then ks else ks++[k])):=by simp only[qh,I3,Dk4,if_true,Al3,Cb]
def qp (a b:List Rec):Lz 1 [B6 a,B6 b]=some (.l 1 ([a,b].map B6)):=rfl
def Er6 (fn:Fns) (η:List PV) (fl:Bool) (c:E) (ar:List E) (m:Nat):PV→Option (List PV)
 | .b true=>(c.ev η).bind (Hm0 fn η fl ar m)
 | .b false=>some (η++List.replicate m .u)
 |_=>none
def Iz {fn:Fns} {η:List PV} (g:E) (fl:Bool) (c:E) (ar:List E) (m:Nat):W.ev fn η (.clo (some g) fl c ar m)=(g.ev η).bind (Er6 fn η fl c ar m):=by
 have h:=Ay2 (fn:=fn) (η:=η) fl c ar m;simp only[W.ev,Gd] at h ⊢;congr 1;funext q;cases q with
 |b x=>cases x with
  |true=>exact h
  |false=>rfl
 |_=>rfl
def N5 (fn:Fns) (η:List PV) (fl:Bool) (c:E) (ar:List E) (m:Nat) (x:Bool):Er6 fn η fl c ar m (.b x)=if x=true then(c.ev η).bind (Hm0 fn η fl ar m) else some (η++List.replicate m .u):=by cases x<;>rfl
def jw {fn:Fns} {η:List PV} (fl:Bool) (c:E) (ar:List E) (m:Nat):Er6 fn η fl c ar m (.b true)=(c.ev η).bind (Hm0 fn η fl ar m):=rfl
def jx {fn:Fns} {η:List PV} (fl:Bool) (c:E) (ar:List E) (m:Nat):Er6 fn η fl c ar m (.b false)=some (η++List.replicate m .u):=rfl
set_option linter.defProp false in
def EVC:=(And.intro @Ay2 (And.intro @Hl9 (And.intro @Hk5 (And.intro @Gm2 (And.intro @Fh8 (And.intro @Ec8 (And.intro @Ez9 (And.intro @Eg3 (And.intro @Eg2 @qp)))))))))
end Go.X
/- What is believed of a response: the plain side. -/
namespace Go.X.G
open Go Go.X
def Av:=And.intro xe<|And.intro EVP EV
def Aq:=And.intro EVC<|And.intro xe<|And.intro EVP EV
def Ak:=And.intro EVM<|And.intro EVC<|And.intro xe<|And.intro EVP EV
def inZ (zone:List UInt8) (r:Rec):Bool:=under r.name zone
def Bd5 (t:Int):Bool:=decide (t=2)||decide (t=15)||decide (t=33)
def Eg5 (l:List Rec) (h:List UInt8):Bool:=l.any fun r=>Bd5 r.typ && decide (r.data.host=h)
def Jw3 (t:Int):Bool:=decide (t=1)||decide (t=28)
def Jq3 (a b:List Rec) (zone:List UInt8) (r:Rec):Bool:=inZ zone r && (Eg5 a r.name||Eg5 b r.name) && Jw3 r.typ
def insideM (m:Msg) (zone:List UInt8):Msg:=
 {m with ans:=m.ans.filter (inZ zone),auth:=m.auth.filter (inZ zone),ext:=m.ext.filter (Jq3 (m.ans.filter (inZ zone)) (m.auth.filter (inZ zone)) zone)}
def Xq (l:List Rec) (n:List UInt8) (t:Int):Bool:=l.any fun r=>decide (r.name=n) && (decide (r.typ=t)||decide (t=255))
def Ul (l:List Rec) (t:Int):Nat→List UInt8→List (List UInt8)×List UInt8
 |0,n=>([],n)
 |k+1,n=>if Xq l n t=true then([],n) else match findR l n 5 with
  |[]=>([],n)
  |r::_=>(n::(Ul l t k r.data.host).1,(Ul l t k r.data.host).2)
def An5 (m:Msg) (t:Int) (zone:List UInt8) (r:Rec):Bool:=decide (r.typ=t) && under m.q.name r.name && (decide (zone=[])||(decide (r.name≠zone) && under r.name zone))
def Lr (m:Msg) (t:Int) (zone:List UInt8):Option Rec:=m.auth.find? (An5 m t zone)
def Ah1 (m:Msg) (zone:List UInt8):Option Rec:=if zone=[] then none else Lr m 2 zone
def kindM (m:Msg) (zone:List UInt8):Int:=
 if(m.resp && decide (m.op=0) && (decide (m.code=0)||decide (m.code=3)) && !m.tc)=true then
  (let p:=Ul m.ans m.q.typ 8 m.q.name
   if Xq m.ans p.2 m.q.typ=true then 1 else if p.1≠[] then 2 else
   if(Lr m 6 []).isSome=true then(if m.code=3 then 5 else 4) else
   if(Ah1 m zone).isSome=true∧m.code=0 then 3 else 0)
 else 0
def dd (out:List (List UInt8)):List Rec→List (List UInt8)
 |[]=>out
 |r::rs=>if r.data.host∈out then dd out rs else dd (out++[r.data.host]) rs
def childN (m:Msg) (zone:List UInt8):List UInt8×List (List UInt8)×Bool:=
 if kindM m zone=3 then(match Ah1 m zone with
  |some r=>(r.name,dd [] (findR m.auth r.name 2),true)
  |none=>([],[],true))
 else([],[],false)
end Go.X.G
/- Inside: what the servers of a zone can know. -/
namespace Go.X.G
open Go Go.X
def zz (l:List Rec) (g:Nat) (caps:List PV) (p:Rec→Bool) (hl:l.length≤1000000) (h:∀r∈l,S g 1 (r.pv::caps)=some [.b (p r)]):S yg 2 [B6 l,.f g caps]=some [B6 (l.filter p)]:=by
 refine Iv8 (N:=l.length+1) rfl ?_;have key:Fv0.ev S (l.length+1) [B6 l,.f g caps]=some (.yld 0 [B6 ([]++l.filter p)]):=by
  refine Fc l (fun i (q:List Rec)=>[B6 q,.i .i64 (i:Int)]) (fun i q r=> .yld 0 [B6 (q++r.filter p)]) (fun i q=>q.length≤i) [] rfl (Dr _) (by omega) (fun i q c r hd hi hc hI=> ?_) (fun q hI=> ?_)
  ·left;have hp:=h c (Cc hc);rcases Bm (p c) with h1|h1
   ·rw[h1] at hp;refine⟨q++[c],?_,by simp;omega,by simp[h1]⟩;simp(disch:=omega)only[Dn6,hc,hp,Aq,simprocAttr]
   ·rw[h1] at hp;refine⟨q,?_,by omega,by simp[h1]⟩;simp(disch:=omega)only[Dn6,hc,hp,Aq,simprocAttr]
  ·simp(disch:=omega)only[Dn6,Av,simprocAttr]
   try simp[Out.goes]
 simp(disch:=omega)only[Dn6,key,Av,simprocAttr]
def Tc (r:Rec) (zone:List UInt8) (hr:r.wf) (hz:Hv zone):S Wn 1 [r.pv,.s zone]=some [.b (inZ zone r)]:=by refine Iv9 (N:=1) rfl ?_;have g1:=hr.name;unfold Hv at g1 hz;unfold inZ;simp(disch:=omega)only[Hr5,Ep,Av,simprocAttr]
def Bl6 (r:Rec) (zone:List UInt8) (ks:List (List UInt8)) (hr:r.wf) (hz:Hv zone):S Bz2 1 [r.pv,.f Wn [.s zone],I3 ks]=some [.b (inZ zone r && decide (r.name∈ks) && Jw3 r.typ)]:=by refine Iv7 (N:=1) rfl ?_;have h1:=Tc r zone hr hz;unfold Jw3;rcases Bm (inZ zone r) with h2|h2<;>rw[h2] at h1<;>by_cases h3:r.name∈ks<;>by_cases h4:r.typ=1<;>simp(disch:=omega)only[Hr4,h1,h3,h4,Aq,simprocAttr]<;>simp[h2,h3,h4]
def Aw2 (ks:List (List UInt8)):List Rec→List (List UInt8)
 |[]=>ks
 |r::rs=>Aw2 (if Bd5 r.typ=true then(if r.data.host∈ks then ks else ks++[r.data.host]) else ks) rs
def Al4 (h:List UInt8):∀(l:List Rec) (ks:List (List UInt8)),h∈Aw2 ks l↔h∈ks∨Eg5 l h=true
 |[],ks=>by simp[Aw2,Eg5]
 |r::rs,ks=>by
  rw[Aw2,Al4 h rs];have hm:Eg5 (r::rs) h=((Bd5 r.typ && decide (r.data.host=h))||Eg5 rs h):=by simp[Eg5]
  rw[hm];rcases Bm (Bd5 r.typ) with h1|h1
  ·rw[h1];by_cases h2:r.data.host∈ks
   ·simp only[h2,if_true,Sw,Cj,decide_eq_true_eq];constructor
    ·rintro (h3|h3)
     ·exact .inl h3
     ·exact .inr (.inr h3)
    ·rintro (h3|h3|h3)
     ·exact .inl h3
     ·exact .inl (h3▸h2)
     ·exact .inr h3
   ·simp only[h2,if_true,if_false,Sw,Cj,decide_eq_true_eq,C4,Dk];constructor
    ·rintro ((h3|h3)|h3)
     ·exact .inl h3
     ·exact .inr (.inl h3.symm)
     ·exact .inr (.inr h3)
    ·rintro (h3|h3|h3)
     ·exact .inl (.inl h3)
     ·exact .inl (.inr h3.symm)
     ·exact .inr h3
  ·rw[h1];simp
def N9 (m:Msg) (zone:List UInt8) (hm:m.wf) (hz:Hv zone) (h1:m.ans.length≤1000) (h2:m.auth.length≤1000) (h3:m.ext.length≤100000):S f5 2 [m.pv,.s zone]=some [(insideM m zone).pv]:=by
 refine Ib8 (N:=2000) rfl ?_;have k1:=zz m.ans Wn [.s zone] (inZ zone) (by omega) (fun r hr=>Tc r zone (hm.ans.2 r hr) hz);have k2:=zz m.auth Wn [.s zone] (inZ zone) (by omega) (fun r hr=>Tc r zone (hm.auth.2 r hr) hz);have a1:(m.ans.filter (inZ zone)).length≤1000:=Dy (D1 _ _) h1;have a2:(m.auth.filter (inZ zone)).length≤1000:=Dy (D1 _ _) h2;unfold insideM;generalize m.ans.filter (inZ zone)=A at*;generalize m.auth.filter (inZ zone)=B at*;have inner:∀(i:Nat) (c:List Rec) (ks:List (List UInt8)),[A,B][i]? =some c→c.length≤1000→Fq7.ev S 2000 [m.pv,.s zone,B6 A,B6 B,.i .i64 (i:Int),I3 ks]=some (.yld 2 [I3 (Aw2 ks c)]):=by
  intro i c ks hc hcl;refine Fc c (fun j (g:List (List UInt8))=>[.i .i64 (j:Int),I3 g]) (fun j g r=> .yld 2 [I3 (Aw2 g r)]) (fun _ _=>True) ks rfl trivial (by omega) (fun j g r rs hd hj hr _=> ?_) (fun g _=> ?_)
  ·left;refine⟨if Bd5 r.typ=true then(if r.data.host∈g then g else g++[r.data.host]) else g,?_,trivial,rfl⟩;unfold Bd5;by_cases t1:r.typ=2
   ·simp(disch:=omega)only[lf,hc,hr,t1,Aq,simprocAttr]
    try simp
   ·by_cases t2:r.typ=15
    ·simp(disch:=omega)only[lf,hc,hr,t2,Aq,simprocAttr]
     try simp
    ·by_cases t3:r.typ=33
     ·simp(disch:=omega)only[lf,hc,hr,t3,Aq,simprocAttr]
      try simp
     ·simp(disch:=omega)only[lf,hc,hr,t1,t2,t3,Aq,simprocAttr]
      try simp[t1,t2,t3]
  ·simp(disch:=omega)only[lf,hc,Aq,simprocAttr]
   try simp[Out.goes,Aw2]
 have outer:Fw8.ev S 2000 [m.pv,.s zone,B6 A,B6 B]=some (.yld 0 [I3 (Aw2 (Aw2 [] A) B)]):=by
  refine Fc [A,B] (fun i (g:List (List UInt8))=>[.i .i64 (i:Int),I3 g]) (fun i g r=> .yld 0 [I3 (r.foldl Aw2 g)]) (fun _ _=>True) [] rfl trivial (by simp) (fun i g c r hd hi hc _=> ?_) (fun g _=> ?_)
  ·left;refine⟨Aw2 g c,?_,trivial,rfl⟩;have hcl:c.length≤1000:=by have:=Cc hc;simp at this;rcases this with rfl|rfl<;>omega
   have hi2:i<2:=hi;have k:=inner i c g hc hcl;simp(disch:=omega)only[lf,hc,k,Aq,simprocAttr]
  ·simp(disch:=omega)only[lf,Aq,simprocAttr]
   try simp[Out.goes]
 have k3:=zz m.ext Bz2 [.f Wn [.s zone],I3 (Aw2 (Aw2 [] A) B)] (Jq3 A B zone) (by omega) (fun r hr=>by
  rw[Bl6 r zone _ (hm.ext.2 r hr) hz];unfold Jq3;have:decide (r.name∈Aw2 (Aw2 [] A) B)=(Eg5 A r.name||Eg5 B r.name):=by rw[D6];simp[Al4]
  rw[this])
 simp(disch:=omega)only[lf,k1,k2,outer,k3,EVC,EVM,Av,simprocAttr]
end Go.X.G
/- Addresses and tasks. -/
namespace Go.X
structure Adr where
 v6:Bool
 hi:Int
 lo:Int
 deriving DecidableEq
structure Tk where
 q:Ques
 name:List UInt8
 zone:List UInt8
 hosts:List (List UInt8)
 addrs:List Adr
 tried:List Adr
 state:Int
 more:Int
 dst:Adr
 asked:Ques
 sent:Int
 chain:List Rec
 last:Msg
 err:Int
def Adr.pv (x:Adr):PV:= .a [.b x.v6,.i .u64 x.hi,.i .u64 x.lo]
def D7 (l:List Adr):PV:= .l 3 (l.map Adr.pv)
def Dat.adr (d:Dat):Adr:=⟨d.v6,d.hi,d.lo⟩
def Tk.cells (t:Tk):List PV:=[.s t.q.name,.i .i64 t.q.typ,.s t.name,.s t.zone,Cs t.hosts,D7 t.addrs,D7 t.tried,.i .i64 t.state,.i .i64 t.more,.b t.dst.v6,.i .u64 t.dst.hi,.i .u64 t.dst.lo,.s t.asked.name,.i .i64 t.asked.typ,.i .i64 t.sent,B6 t.chain,.i .i64 t.last.id,.i .i64 t.last.op,.i .i64 t.last.code,.b t.last.resp,.b t.last.aa,.b t.last.tc,.b t.last.rd,.b t.last.ra,.b t.last.ad,.b t.last.cd,.b t.last.dok,.i .i64 t.last.size,.s t.last.q.name,.i .i64 t.last.q.typ,B6 t.last.ans,B6 t.last.auth,B6 t.last.ext,.i .i64 t.err]
def Tk.pv (t:Tk):PV:= .a t.cells
def Ec7 (t:Tk):C2 0 t.pv=some (.s t.q.name):=rfl
def Ec6 (t:Tk):C2 1 t.pv=some (.i .i64 t.q.typ):=rfl
def Ec5 (t:Tk):C2 2 t.pv=some (.s t.name):=rfl
def Ec4 (t:Tk):C2 3 t.pv=some (.s t.zone):=rfl
def Ec3 (t:Tk):C2 4 t.pv=some (Cs t.hosts):=rfl
def Ec2 (t:Tk):C2 5 t.pv=some (D7 t.addrs):=rfl
def Ec1 (t:Tk):C2 6 t.pv=some (D7 t.tried):=rfl
def Ec0 (t:Tk):C2 7 t.pv=some (.i .i64 t.state):=rfl
def Eb9 (t:Tk):C2 8 t.pv=some (.i .i64 t.more):=rfl
def Eb8 (t:Tk):C2 9 t.pv=some (.b t.dst.v6):=rfl
def Cy5 (t:Tk):C2 10 t.pv=some (.i .u64 t.dst.hi):=rfl
def Cy4 (t:Tk):C2 11 t.pv=some (.i .u64 t.dst.lo):=rfl
def Cy3 (t:Tk):C2 12 t.pv=some (.s t.asked.name):=rfl
def Cy2 (t:Tk):C2 13 t.pv=some (.i .i64 t.asked.typ):=rfl
def Cy1 (t:Tk):C2 14 t.pv=some (.i .i64 t.sent):=rfl
def Cy0 (t:Tk):C2 15 t.pv=some (B6 t.chain):=rfl
def Cx9 (t:Tk):C2 16 t.pv=some (.i .i64 t.last.id):=rfl
def Cx8 (t:Tk):C2 17 t.pv=some (.i .i64 t.last.op):=rfl
def Cx7 (t:Tk):C2 18 t.pv=some (.i .i64 t.last.code):=rfl
def Cx6 (t:Tk):C2 19 t.pv=some (.b t.last.resp):=rfl
def Cx5 (t:Tk):C2 20 t.pv=some (.b t.last.aa):=rfl
def Cx4 (t:Tk):C2 21 t.pv=some (.b t.last.tc):=rfl
def Cx3 (t:Tk):C2 22 t.pv=some (.b t.last.rd):=rfl
def Cx2 (t:Tk):C2 23 t.pv=some (.b t.last.ra):=rfl
def Cx1 (t:Tk):C2 24 t.pv=some (.b t.last.ad):=rfl
def Cx0 (t:Tk):C2 25 t.pv=some (.b t.last.cd):=rfl
def Cw9 (t:Tk):C2 26 t.pv=some (.b t.last.dok):=rfl
def Cw8 (t:Tk):C2 27 t.pv=some (.i .i64 t.last.size):=rfl
def Cw7 (t:Tk):C2 28 t.pv=some (.s t.last.q.name):=rfl
def Cw6 (t:Tk):C2 29 t.pv=some (.i .i64 t.last.q.typ):=rfl
def Cw5 (t:Tk):C2 30 t.pv=some (B6 t.last.ans):=rfl
def Cw4 (t:Tk):C2 31 t.pv=some (B6 t.last.auth):=rfl
def Cw3 (t:Tk):C2 32 t.pv=some (B6 t.last.ext):=rfl
def Cw2 (t:Tk):C2 33 t.pv=some (.i .i64 t.err):=rfl
def Gh8 (t:Tk):Jt 0 34 t.pv=some t.pv:=rfl
def Hf5 (t:Tk):Rx 34 t.pv=some t.pv:=rfl
def Bj0 (t:Tk):Jt 9 3 t.pv=some t.dst.pv:=rfl
def mz (t:Tk):Jt 12 2 t.pv=some t.asked.pv:=rfl
def Ey6 (t:Tk):Jt 0 2 t.pv=some t.q.pv:=rfl
def xw (t:Tk):Jt 16 17 t.pv=some t.last.pv:=rfl
def Fs0 (x0:List UInt8) (x1:Int) (x2:List UInt8) (x3:List UInt8) (x4:List (List UInt8)) (x5:List Adr) (x6:List Adr) (x7:Int) (x8:Int) (x9:Bool) (x10:Int) (x11:Int) (x12:List UInt8) (x13:Int) (x14:Int) (x15:List Rec) (x16:Int) (x17:Int) (x18:Int) (x19:Bool) (x20:Bool) (x21:Bool) (x22:Bool) (x23:Bool) (x24:Bool) (x25:Bool) (x26:Bool) (x27:Int) (x28:List UInt8) (x29:Int) (x30:List Rec) (x31:List Rec) (x32:List Rec) (x33:Int):PV.a [.s x0,.i .i64 x1,.s x2,.s x3,Cs x4,D7 x5,D7 x6,.i .i64 x7,.i .i64 x8,.b x9,.i .u64 x10,.i .u64 x11,.s x12,.i .i64 x13,.i .i64 x14,B6 x15,.i .i64 x16,.i .i64 x17,.i .i64 x18,.b x19,.b x20,.b x21,.b x22,.b x23,.b x24,.b x25,.b x26,.i .i64 x27,.s x28,.i .i64 x29,B6 x30,B6 x31,B6 x32,.i .i64 x33]=Tk.pv ⟨⟨x0,x1⟩,x2,x3,x4,x5,x6,x7,x8,⟨x9,x10,x11⟩,⟨x12,x13⟩,x14,x15,⟨x16,x17,x18,x19,x20,x21,x22,x23,x24,x25,x26,x27,⟨x28,x29⟩,x30,x31,x32⟩,x33⟩:=rfl
def Hh4 (t:Tk):(⟨t.q,t.name,t.zone,t.hosts,t.addrs,t.tried,t.state,t.more,t.dst,t.asked,t.sent,t.chain,t.last,t.err⟩:Tk)=t:=rfl
def Gj2 (m:Msg):(⟨m.id,m.op,m.code,m.resp,m.aa,m.tc,m.rd,m.ra,m.ad,m.cd,m.dok,m.size,m.q,m.ans,m.auth,m.ext⟩:Msg)=m:=rfl
def Gj3 (x:Adr):(⟨x.v6,x.hi,x.lo⟩:Adr)=x:=rfl
def Hm9 (d:Dat):L2 d=d.adr.pv:=rfl
def En0 (v:Bool) (h l:Int):PV.a [.b v,.i .u64 h,.i .u64 l]=Adr.pv ⟨v,h,l⟩:=rfl
def Gx9 (d:Dat):(⟨d.v6,d.hi,d.lo⟩:Adr)=d.adr:=rfl
def Fg6 (x:Adr):Jt 0 3 x.pv=some x.pv:=rfl
def Fs7 (x:Adr):Rx 3 x.pv=some x.pv:=rfl
def Cf2 (x:Adr):C2 0 x.pv=some (.b x.v6):=rfl
def Cf1 (x:Adr):C2 1 x.pv=some (.i .u64 x.hi):=rfl
def Cf0 (x:Adr):C2 2 x.pv=some (.i .u64 x.lo):=rfl
def En3 (x:Adr):PV.flat x.pv=true:=rfl
def Es9:PV.l 3 []=D7 []:=rfl
def Fr1 (x:Adr):Lz 3 [x.pv]=some (D7 [x]):=rfl
def Ck7 (l:List Adr):J4 (D7 l)=some (D7 l):=rfl
def Cd9 (l:List Adr):C2 0 (D7 l)=some (D7 l):=rfl
def Hf2 (x:Ques):PV.flat x.pv=true:=rfl
def Gl8 (n:Int):J4 (.i .u64 n)=some (.i .u64 n):=rfl
def Hk2 (n:Int):C2 0 (.i .u64 n)=some (.i .u64 n):=rfl
def Eh1 (l:List Adr):G8 (D7 l)=some (.i .i64 (l.length:Int)):=by simp[D7,G8]
def Em0 (l:List Adr) (k:IntKind) (z:Int) (h:0≤z):Hy 3 (D7 l) (.i k z)=(l[z.toNat]?).map Adr.pv:=by simp[D7,Xj _ _ _ _ h]
def ul (l:List Adr) (x:Adr) (h:l.length+1≤1073741824):Ip 3 (D7 l) (D7 [x])=some (D7 (l++[x])):=by have:=X6 3 (l.map Adr.pv) ([x].map Adr.pv) (by simpa using h);simpa [D7] using this
def As0 (l m:List Adr) (h:l.length+m.length≤1073741824):Ip 3 (D7 l) (D7 m)=some (D7 (l++m)):=by have:=X6 3 (l.map Adr.pv) (m.map Adr.pv) (by simpa using h);simpa [D7] using this
def f9 (l:List Adr) (k k':IntKind) (a b:Int) (h1:0≤a) (h2:a≤b) (h3:b≤(l.length:Int)):Ix 3 (D7 l) (.i k a) (.i k' b)=some (D7 ((l.take b.toNat).drop a.toNat)):=by have:=Cr2 3 (l.map Adr.pv) k k' a b h1 h2 (by simpa using h3);simpa [D7,List.map_take,List.map_drop] using this
def Hh8 (neg:Bool) (x y:Adr):M9 neg true [.b,(.i .u64),(.i .u64)] x.pv y.pv=some (.b (if neg then decide (x≠y) else decide (x=y))):=by
 have:H5 [.b,(.i .u64),(.i .u64)] [.b x.v6,.i .u64 x.hi,.i .u64 x.lo] [.b y.v6,.i .u64 y.hi,.i .u64 y.lo]=some (decide (x=y)):=by simp only[H5,Dm6,if_true,Bn];rw[D6];cases x;cases y;simp
 simp only[M9,Adr.pv,this,Cb];cases neg<;>simp
set_option linter.defProp false in
def EVT:=(And.intro @Ec7 (And.intro @Ec6 (And.intro @Ec5 (And.intro @Ec4 (And.intro @Ec3 (And.intro @Ec2 (And.intro @Ec1 (And.intro @Ec0 (And.intro @Eb9 (And.intro @Eb8 (And.intro @Cy5 (And.intro @Cy4 (And.intro @Cy3 (And.intro @Cy2 (And.intro @Cy1 (And.intro @Cy0 (And.intro @Cx9 (And.intro @Cx8 (And.intro @Cx7 (And.intro @Cx6 (And.intro @Cx5 (And.intro @Cx4 (And.intro @Cx3 (And.intro @Cx2 (And.intro @Cx1 (And.intro @Cx0 (And.intro @Cw9 (And.intro @Cw8 (And.intro @Cw7 (And.intro @Cw6 (And.intro @Cw5 (And.intro @Cw4 (And.intro @Cw3 (And.intro @Cw2 (And.intro @Gh8 (And.intro @Hf5 (And.intro @Bj0 (And.intro @mz (And.intro @Ey6 (And.intro @xw (And.intro @Fs0 (And.intro @Hh4 (And.intro @Gj2 (And.intro @Gj3 (And.intro @Hm9 (And.intro @En0 (And.intro @Gx9 (And.intro @Fg6 (And.intro @Fs7 (And.intro @Cf2 (And.intro @Cf1 (And.intro @Cf0 (And.intro @En3 (And.intro @Es9 (And.intro @Fr1 (And.intro @Ck7 (And.intro @Cd9 (And.intro @Hf2 (And.intro @Gl8 (And.intro @Hk2 (And.intro @Eh1 (And.intro @Em0 (And.intro @ul (And.intro @As0 (And.intro @f9 @Hh8)))))))))))))))))))))))))))))))))))))))))))))))))))))))))))))))))
end Go.X
/- Functions of the package slices, for texts, records and addresses. -/
namespace Go.X.G
open Go Go.X
def Dl3 (l:List (List UInt8)) (x:List UInt8) (hl:l.length≤1000000):∃k:Int,(0≤k↔x∈l)∧S qj 2 [Cs l,.s x]=some [.i .i64 k]:=by
 have go:∀(i:Nat) (l:List (List UInt8)),∃k:Int,k=(match l.findIdx? (·=x) with|some j=>((i+j:Nat):Int)|none=> -1)∧(0≤k↔x∈l):=by
  intro i l;refine⟨_,rfl,?_⟩;cases h:l.findIdx? (·=x) with
  |none=>
   rw[List.findIdx?_eq_none_iff] at h;simp only;constructor
   ·intro h2;omega
   ·intro h2;have:=h x h2;simp at this
  |some j=>
   simp only;constructor
   ·intro _;rw[List.findIdx?_eq_some_iff_getElem] at h;obtain⟨h1,h2,_⟩:=h;simp at h2;rw[←h2];exact Em _
   ·intro _;omega
 obtain⟨k,hk,hk2⟩:=go 0 l;refine⟨k,hk2,?_⟩;refine Gs5 (N:=l.length+1) rfl ?_;have key:Dj9.ev S (l.length+1) [Cs l,.s x]=some (match l.findIdx? (·=x) with|some j=> .ret [.i .i64 ((0+j:Nat):Int)]|none=> .yld 0 []):=by
  refine F2 l (fun i=>[.i .i64 (i:Int)]) (fun i r=>match r.findIdx? (·=x) with|some j=> .ret [.i .i64 ((i+j:Nat):Int)]|none=> .yld 0 []) rfl (by omega) (fun i c r hd hi hc=> ?_) ?_
  ·by_cases h:x=c
   ·right;simp(disch:=omega)only[lr,hc,h,Ak,simprocAttr];simp[Nv,Out.goes]
   ·left;have h':¬c=x:=fun e=>h e.symm;simp(disch:=omega)only[lr,hc,h,Ak,simprocAttr];refine⟨trivial,?_⟩;simp only[Nv,h',decide_false,B5,if_false];cases r.findIdx? (·=x) with
    |none=>rfl
    |some j=>simp;omega
  ·simp(disch:=omega)only[lr,Ak,simprocAttr];simp[Out.goes]
 rw[hk];cases h:l.findIdx? (·=x) with
 |none=>
  rw[h] at key;simp(disch:=omega)only[lr,key,Ak,simprocAttr]
 |some j=>
  rw[h] at key;simp(disch:=omega)only[lr,key,Ak,simprocAttr]
def Ih (l:List (List UInt8)) (x:List UInt8) (hl:l.length≤1000000):S Ym 2 [Cs l,.s x]=some [.b (decide (x∈l))]:=by refine Iy2 (N:=1) rfl ?_;obtain⟨k,h1,h2⟩:=Dl3 l x hl;simp(disch:=omega)only[Hs5,h2,Ak,simprocAttr];simp[h1]
def Dl5 (l:List Adr) (x:Adr) (hl:l.length≤1000000):∃k:Int,(0≤k↔x∈l)∧S Cl7 2 [D7 l,x.pv]=some [.i .i64 k]:=by
 have go:∀(i:Nat) (l:List Adr),∃k:Int,k=(match l.findIdx? (·=x) with|some j=>((i+j:Nat):Int)|none=> -1)∧(0≤k↔x∈l):=by
  intro i l;refine⟨_,rfl,?_⟩;cases h:l.findIdx? (·=x) with
  |none=>
   rw[List.findIdx?_eq_none_iff] at h;simp only;constructor
   ·intro h2;omega
   ·intro h2;have:=h x h2;simp at this
  |some j=>
   simp only;constructor
   ·intro _;rw[List.findIdx?_eq_some_iff_getElem] at h;obtain⟨h1,h2,_⟩:=h;simp at h2;rw[←h2];exact Em _
   ·intro _;omega
 obtain⟨k,hk,hk2⟩:=go 0 l;refine⟨k,hk2,?_⟩;refine Iw9 (N:=l.length+1) rfl ?_;have key:Fv4.ev S (l.length+1) [D7 l,x.pv]=some (match l.findIdx? (·=x) with|some j=> .ret [.i .i64 ((0+j:Nat):Int)]|none=> .yld 0 []):=by
  refine F2 l (fun i=>[.i .i64 (i:Int)]) (fun i r=>match r.findIdx? (·=x) with|some j=> .ret [.i .i64 ((i+j:Nat):Int)]|none=> .yld 0 []) rfl (by omega) (fun i c r hd hi hc=> ?_) ?_
  ·by_cases h:x=c
   ·right;subst h;simp(disch:=omega)only[Bn9,hc,EVT,Ak,simprocAttr];simp[Nv,Out.goes]
   ·left;have h':¬c=x:=fun e=>h e.symm;simp(disch:=omega)only[Bn9,hc,h,EVT,Ak,simprocAttr];refine⟨trivial,?_⟩;simp only[Nv,h',decide_false,B5,if_false];cases r.findIdx? (·=x) with
    |none=>rfl
    |some j=>simp;omega
  ·simp(disch:=omega)only[Bn9,EVT,Ak,simprocAttr];simp[Out.goes]
 rw[hk];cases h:l.findIdx? (·=x) with
 |none=>
  rw[h] at key;simp(disch:=omega)only[Bn9,key,EVT,Ak,simprocAttr]
 |some j=>
  rw[h] at key;simp(disch:=omega)only[Bn9,key,EVT,Ak,simprocAttr]
def Lv (l:List Adr) (x:Adr) (hl:l.length≤1000000):S om 2 [D7 l,x.pv]=some [.b (decide (x∈l))]:=by refine Ic6 (N:=1) rfl ?_;obtain⟨k,h1,h2⟩:=Dl5 l x hl;simp(disch:=omega)only[Ht8,h2,EVT,Ak,simprocAttr];simp[h1]
def ixG {α:Type} (p:α→Bool) (k:Nat):List α→Int
 |[]=> -1
 |r::rs=>if p r=true then(k:Int) else ixG p (k+1) rs
def gx {α:Type} (p:α→Bool):∀(l:List α) (k:Nat),(0≤ixG p k l↔l.any p=true)∧ixG p k l≤k+l.length∧ -1≤ixG p k l
 |[],k=>by simp[ixG]
 |r::rs,k=>by
  have ih:=gx p rs (k+1);rcases Bm (p r) with h|h
  ·simp[ixG,h];omega
  ·simp only[ixG,h,List.any_cons,J6,Cw];refine⟨by simpa using ih.1,?_,by simpa using ih.2.2⟩;have:=ih.2.1;simp only[B5,if_false] at this ⊢;omega
def j9 (l:List Adr) (g:Nat) (caps:List PV) (p:Adr→Bool) (hl:l.length≤1000000) (h:∀r∈l,S g 1 (r.pv::caps)=some [.b (p r)]):S pd 2 [D7 l,.f g caps]=some [.i .i64 (ixG p 0 l)]:=by
 refine Gr7 (N:=l.length+1) rfl ?_;have key:Dj4.ev S (l.length+1) [D7 l,.f g caps]=some (if ixG p 0 l= -1 then .yld 0 [] else .ret [.i .i64 (ixG p 0 l)]):=by
  refine F2 l (fun i=>[.i .i64 (i:Int)]) (fun i r=>if ixG p i r= -1 then .yld 0 [] else .ret [.i .i64 (ixG p i r)]) rfl (by omega) (fun i c r hd hi hc=> ?_) ?_
  ·have hp:=h c (Cc hc);rcases Bm (p c) with h1|h1
   ·rw[h1] at hp;right;have h2:¬((i:Int)= -1):=by omega
    simp(disch:=omega)only[ln,hc,hp,EVT,Aq,simprocAttr];simp[ixG,h1,h2,Out.goes]
   ·rw[h1] at hp;left;simp(disch:=omega)only[ln,hc,hp,EVT,Aq,simprocAttr];simp[ixG,h1]
  ·simp(disch:=omega)only[ln,EVT,Aq,simprocAttr];simp[ixG,Out.goes]
 by_cases h1:ixG p 0 l= -1
 ·rw[if_pos h1] at key;simp(disch:=omega)only[ln,key,h1,EVT,Aq,simprocAttr]
 ·rw[if_neg h1] at key;simp(disch:=omega)only[ln,key,EVT,Aq,simprocAttr]
def U1 (l:List Adr) (g:Nat) (caps:List PV) (p:Adr→Bool) (hl:l.length≤1000000) (h:∀r∈l,S g 1 (r.pv::caps)=some [.b (p r)]):S Cl8 2 [D7 l,.f g caps]=some [.b (l.any p)]:=by
 refine Ix3 (N:=1) rfl ?_;simp(disch:=omega)only[Hs2,j9 l g caps p hl h,Aq,simprocAttr];have:=(gx p l 0).1;rcases Bm (l.any p) with h1|h1
 ·rw[h1] at this ⊢;simp[this.2 rfl]
 ·rw[h1] at this ⊢;have h2:¬(0≤ixG p 0 l):=fun h=>by simpa using this.1 h
  simp[h2]
def j8 (l:List (List UInt8)) (g:Nat) (caps:List PV) (p:List UInt8→Bool) (hl:l.length≤1000000) (h:∀r∈l,S g 1 (.s r::caps)=some [.b (p r)]):S pw 2 [Cs l,.f g caps]=some [.i .i64 (ixG p 0 l)]:=by
 refine Gr6 (N:=l.length+1) rfl ?_;have key:Dj3.ev S (l.length+1) [Cs l,.f g caps]=some (if ixG p 0 l= -1 then .yld 0 [] else .ret [.i .i64 (ixG p 0 l)]):=by
  refine F2 l (fun i=>[.i .i64 (i:Int)]) (fun i r=>if ixG p i r= -1 then .yld 0 [] else .ret [.i .i64 (ixG p i r)]) rfl (by omega) (fun i c r hd hi hc=> ?_) ?_
  ·have hp:=h c (Cc hc);rcases Bm (p c) with h1|h1
   ·rw[h1] at hp;right;have h2:¬((i:Int)= -1):=by omega
    simp(disch:=omega)only[lm,hc,hp,EVT,Aq,simprocAttr];simp[ixG,h1,h2,Out.goes]
   ·rw[h1] at hp;left;simp(disch:=omega)only[lm,hc,hp,EVT,Aq,simprocAttr];simp[ixG,h1]
  ·simp(disch:=omega)only[lm,EVT,Aq,simprocAttr];simp[ixG,Out.goes]
 by_cases h1:ixG p 0 l= -1
 ·rw[if_pos h1] at key;simp(disch:=omega)only[lm,key,h1,EVT,Aq,simprocAttr]
 ·rw[if_neg h1] at key;simp(disch:=omega)only[lm,key,EVT,Aq,simprocAttr]
def M5 (l:List (List UInt8)) (g:Nat) (caps:List PV) (p:List UInt8→Bool) (hl:l.length≤1000000) (h:∀r∈l,S g 1 (.s r::caps)=some [.b (p r)]):S Bz7 2 [Cs l,.f g caps]=some [.b (l.any p)]:=by
 refine Ix1 (N:=1) rfl ?_;simp(disch:=omega)only[Hs0,j8 l g caps p hl h,Aq,simprocAttr];have:=(gx p l 0).1;rcases Bm (l.any p) with h1|h1
 ·rw[h1] at this ⊢;simp[this.2 rfl]
 ·rw[h1] at this ⊢;have h2:¬(0≤ixG p 0 l):=fun h=>by simpa using this.1 h
  simp[h2]
def vq (l:List (List UInt8)) (hl:l.length≤1000000):S Cl9 1 [Cs l]=some [Cs l]:=by
 refine Ix5 (N:=1) rfl ?_;have h0:Ip 1 (Cs []) (Cs l)=some (Cs l):=by simpa using jm [] l (by simp;omega)
 simp(disch:=omega)only[Hs4,h0,EVT,Aq,simprocAttr]
def X9 (l:List Adr) (hl:l.length≤1000000):S Bz9 1 [D7 l]=some [D7 l]:=by
 refine Ix4 (N:=1) rfl ?_;have h0:Ip 3 (D7 []) (D7 l)=some (D7 l):=by simpa using As0 [] l (by simp;omega)
 simp(disch:=omega)only[Hs3,h0,EVT,Aq,simprocAttr]
def Oq (l:List Rec) (hl:l.length≤1000000):S f4 1 [B6 l]=some [B6 l]:=by
 refine Ib0 (N:=1) rfl ?_;have h0:Ip 16 (B6 []) (B6 l)=some (B6 l):=by simpa using Ic [] l (by simp;omega)
 simp(disch:=omega)only[Ht3,h0,EVT,Aq,simprocAttr]
def ry {α:Type} (p:α→Bool):∀(l:List α) (k:Nat),0≤ixG p k l→∃j,ixG p k l=((k+j:Nat):Int)∧j<l.length∧(∀x∈l.take j,p x=false)∧∃x,l[j]? =some x∧p x=true
 |[],k,h=>by simp[ixG] at h
 |r::rs,k,h=>by
  rcases Bm (p r) with h1|h1
  ·exact⟨0,by simp[ixG,h1],by simp,by simp,r,rfl,h1⟩
  ·have e:ixG p k (r::rs)=ixG p (k+1) rs:=by simp[ixG,h1]
   rw[e] at h ⊢;obtain⟨j,g1,g2,g3,x,g4,g5⟩:=ry p rs (k+1) h;refine⟨j+1,by rw[g1];congr 1;omega,by simp;omega,fun y hy=> ?_,x,by simpa using g4,g5⟩;simp only[List.take_succ_cons,Ck] at hy;rcases hy with rfl|hy
   ·exact h1
   ·exact g3 y hy
def Ls {α:Type} (p:α→Bool) {l:List α} (h:∀x∈l,p x=false):l.filter (fun x=> !p x)=l:=by rw[U3];intro x hx;simp[h x hx]
def ixF (p:Rec→Bool) (k:Nat):List Rec→Int
 |[]=> -1
 |r::rs=>if p r=true then(k:Int) else ixF p (k+1) rs
def Dk5 (p:Rec→Bool):∀(l:List Rec) (k:Nat),(0≤ixF p k l↔l.any p=true)∧ixF p k l≤k+l.length∧ -1≤ixF p k l
 |[],k=>by simp[ixF]
 |r::rs,k=>by
  have ih:=Dk5 p rs (k+1);rcases Bm (p r) with h|h
  ·simp[ixF,h];omega
  ·simp only[ixF,h,List.any_cons,J6,Cw];refine⟨by simpa using ih.1,?_,by simpa using ih.2.2⟩;have:=ih.2.1;simp only[B5,if_false] at this ⊢;omega
def R6 (l:List Rec) (g:Nat) (caps:List PV) (p:Rec→Bool) (hl:l.length≤1000000) (h:∀r∈l,S g 1 (r.pv::caps)=some [.b (p r)]):S yl 2 [B6 l,.f g caps]=some [.i .i64 (ixF p 0 l)]:=by
 refine Iz5 (N:=l.length+1) rfl ?_;have key:Fw1.ev S (l.length+1) [B6 l,.f g caps]=some (if ixF p 0 l= -1 then .yld 0 [] else .ret [.i .i64 (ixF p 0 l)]):=by
  refine F2 l (fun i=>[.i .i64 (i:Int)]) (fun i r=>if ixF p i r= -1 then .yld 0 [] else .ret [.i .i64 (ixF p i r)]) rfl (by omega) (fun i c r hd hi hc=> ?_) ?_
  ·have hp:=h c (Cc hc);rcases Bm (p c) with h1|h1
   ·rw[h1] at hp;right;have h2:¬((i:Int)= -1):=by omega
    simp(disch:=omega)only[Bp3,hc,hp,Aq,simprocAttr];simp[ixF,h1,h2,Out.goes]
   ·rw[h1] at hp;left;simp(disch:=omega)only[Bp3,hc,hp,Aq,simprocAttr];simp[ixF,h1]
  ·simp(disch:=omega)only[Bp3,Aq,simprocAttr];simp[ixF,Out.goes]
 by_cases h1:ixF p 0 l= -1
 ·rw[if_pos h1] at key;simp(disch:=omega)only[Bp3,key,h1,Aq,simprocAttr]
 ·rw[if_neg h1] at key;simp(disch:=omega)only[Bp3,key,Aq,simprocAttr]
def F6 (l:List Rec) (g:Nat) (caps:List PV) (p:Rec→Bool) (hl:l.length≤1000000) (h:∀r∈l,S g 1 (r.pv::caps)=some [.b (p r)]):S Wr 2 [B6 l,.f g caps]=some [.b (l.any p)]:=by
 refine If5 (N:=1) rfl ?_;simp(disch:=omega)only[Ij4,R6 l g caps p hl h,Aq,simprocAttr];have:=(Dk5 p l 0).1;rcases Bm (l.any p) with h1|h1
 ·rw[h1] at this ⊢;simp[this.2 rfl]
 ·rw[h1] at this ⊢;have h2:¬(0≤ixF p 0 l):=fun h=>by simpa using this.1 h
  simp[h2]
end Go.X.G
/- The kind of a response. -/
namespace Go.X.G
open Go Go.X
def Fr8 (r:Rec) (q:Ques):S Z3 1 [r.pv,q.pv]=some [.b (decide (r.name=q.name) && (decide (r.typ=q.typ)||decide (q.typ=255)))]:=by refine Gp0 (N:=1) rfl ?_;by_cases h1:r.name=q.name<;>by_cases h2:r.typ=q.typ<;>by_cases h3:q.typ=255<;>simp(disch:=omega)only[Gc7,h1,h2,h3,Ak,simprocAttr]<;>simp[h1,h2,h3]
def Xk (l:List Rec) (q:Ques) (hl:l.length≤1000000):S aj 2 [B6 l,q.pv]=some [.b (Xq l q.name q.typ)]:=by refine Gr2 (N:=1) rfl ?_;have h1:=F6 l Z3 [q.pv] _ hl (fun r _=>Fr8 r q);unfold Xq;simp(disch:=omega)only[Gd5,h1,Ak,simprocAttr]
def Nt (l:List Rec) (n:List UInt8) (t:Int):(findR l n t).length≤l.length:=D1 _ _
def Bf1 (m:Msg) (hl:m.ans.length≤1000000):S pq 1 [m.pv]=some [Cs (Ul m.ans m.q.typ 8 m.q.name).1,.s (Ul m.ans m.q.typ 8 m.q.name).2]:=by
 refine Gr5 (N:=100) rfl ?_;have key:Dj2.ev S 100 [m.pv]=some (.yld 0 [Cs ([]++(Ul m.ans m.q.typ (8 - ([]:List (List UInt8)).length) m.q.name).1),.s (Ul m.ans m.q.typ (8 - ([]:List (List UInt8)).length) m.q.name).2]):=by
  refine Jc (fun (a:List (List UInt8)×List UInt8)=>[Cs a.1,.s a.2]) (fun a=> .yld 0 [Cs (a.1++(Ul m.ans m.q.typ (8 - a.1.length) a.2).1),.s (Ul m.ans m.q.typ (8 - a.1.length) a.2).2]) (fun a=>a.1.length≤8) (fun a=>8 - a.1.length) ([],m.q.name) rfl (by simp) (by simp) (fun a ha=> ?_);obtain⟨ns,n⟩:=a;simp only at ha ⊢;by_cases h8:ns.length=8
  ·right;have e:8 - ns.length=0:=by omega
   rw[e];simp(disch:=omega)only[lh,Xk,Lq,h8,Ak,simprocAttr]
   try simp[Ul,Out.goes]
  ·obtain⟨k,hk⟩:∃k,8 - ns.length=k+1:=⟨7 - ns.length,by omega⟩;have hlt:ns.length<8:=by omega
   rw[hk];rcases Bm (Xq m.ans n m.q.typ) with h1|h1
   ·right;have e:Ul m.ans m.q.typ (k+1) n=([],n):=by unfold Ul;rw[if_pos h1]
    rw[e];simp(disch:=omega)only[lh,Xk,h1,Ak,simprocAttr]
    try simp[Out.goes]
   ·cases hf:findR m.ans n 5 with
    |nil=>
     right;have e:Ul m.ans m.q.typ (k+1) n=([],n):=by unfold Ul;rw[if_neg (by simp[h1]),hf]
     rw[e];simp(disch:=first|omega|(simp;omega))only[lh,Xk,Lq,hf,h1,Ak,simprocAttr]
     try simp[Out.goes]
    |cons r rs=>
     left;have e:Ul m.ans m.q.typ (k+1) n=(n::(Ul m.ans m.q.typ k r.data.host).1,(Ul m.ans m.q.typ k r.data.host).2):=by unfold Ul;rw[if_neg (by simp[h1]),hf];simp only;cases k<;>rfl
     have hne:¬(((rs.length+1:Nat):Int)=0):=by omega
     refine⟨(ns++[n],r.data.host),?_,by simp;omega,by simp;omega,?_⟩
     ·simp(disch:=first|omega|(simp;omega))only[lh,Xk,Lq,hf,h1,Ak,simprocAttr]
     ·have e2:8 - (ns++[n]).length=k:=by simp;omega
      simp only[e2,e];simp
 simp only[Dp,Cl,Nat.sub_zero] at key;simp(disch:=omega)only[lh,key,EVM,Av,simprocAttr]
end Go.X.G
/- What a response says, by the program and by the reference. -/
namespace Go.X.G
open Go Go.X
def Gb1:Rec:=⟨[],0,0,⟨false,0,0,[],[],[],0,0,0,0,0,0,0⟩⟩
def Hq1:Option Rec→List PV
 |some r=>[r.pv,.b true]
 |none=>[Gb1.pv,.b false]
def zst (i:Nat):List PV:= .i .i64 (i:Int)::Gb1.cells
def Ax2 (i:Nat):zst i=[.i .i64 (i:Int),.s [],.i .i64 0,.i .i64 0,.b false,.i .u64 0,.i .u64 0,.s [],.s [],.s [],.i .i64 0,.i .i64 0,.i .i64 0,.i .i64 0,.i .i64 0,.i .i64 0,.i .u64 0]:=rfl
def lj:Gb1.cells=[.s [],.i .i64 0,.i .i64 0,.b false,.i .u64 0,.i .u64 0,.s [],.s [],.s [],.i .i64 0,.i .i64 0,.i .i64 0,.i .i64 0,.i .i64 0,.i .i64 0,.i .u64 0]:=rfl
def Hp1 (id:Nat):Option Rec→Out
 |some r=> .ret [r.pv,.b true]
 |none=> .yld id Gb1.cells
def oq (id:Nat) (r:Rec):Hp1 id (some r)= .ret [r.pv,.b true]:=rfl
def ov (id:Nat):Hp1 id none= .yld id Gb1.cells:=rfl
def An4 (m:Msg) (t:Int) (zone:List UInt8) (hm:m.wf) (hz:Hv zone) (hl:m.auth.length≤1000000):S aw 3 [m.pv,.i .i64 t,.s zone]=some (Hq1 (Lr m t zone)):=by
 refine Gr4 (N:=m.auth.length+1) rfl ?_;have gq:=hm.q.name;unfold Hv at hz gq;have key:Dj1.ev S (m.auth.length+1) [m.pv,.i .i64 t,.s zone]=some (Hp1 0 (m.auth.find? (An5 m t zone))):=by
  refine F2 m.auth zst (fun i r=>Hp1 0 (r.find? (An5 m t zone))) rfl (by omega) (fun i c r hd hi hc=> ?_) ?_
  ·have hp:=(hm.auth.2 c (Cc hc)).name;unfold Hv at hp;have hb:An5 m t zone c=(decide (c.typ=t) && under m.q.name c.name && (decide (zone=[])||(decide (c.name≠zone) && under c.name zone))):=rfl;rcases Bm (An5 m t zone c) with h|h
   ·right;have e:(c::r).find? (An5 m t zone)=some c:=by simp[h]
    rw[e,oq];rw[hb] at h;rw[Ax2];by_cases t1:c.typ=t
    ·rcases Bm (under m.q.name c.name) with t2|t2
     ·by_cases t3:zone=[]
      ·simp(disch:=omega)only[Qz,hc,Ep,t1,t2,t3,Ak,simprocAttr]
       try simp[Out.goes]
      ·by_cases t4:c.name=zone
       ·exfalso;simp[t3,t4] at h
       ·rcases Bm (under c.name zone) with t5|t5
        ·simp(disch:=omega)only[Qz,hc,Ep,t1,t2,t3,t4,t5,Ak,simprocAttr]
         try simp[Out.goes]
        ·exfalso;simp[t3,t4,t5] at h
     ·exfalso;simp[t2] at h
    ·exfalso;simp[t1] at h
   ·left;have e:(c::r).find? (An5 m t zone)=r.find? (An5 m t zone):=by simp[h]
    rw[e];refine⟨?_,rfl⟩;rw[hb] at h;rw[Ax2,Ax2];by_cases t1:c.typ=t
    ·rcases Bm (under m.q.name c.name) with t2|t2
     ·by_cases t3:zone=[]
      ·exfalso;simp[t1,t2,t3] at h
      ·by_cases t4:c.name=zone
       ·simp(disch:=omega)only[Qz,hc,Ep,t1,t2,t3,t4,Ak,simprocAttr]
        try simp
       ·rcases Bm (under c.name zone) with t5|t5
        ·exfalso;simp[t1,t2,t4,t5] at h
        ·simp(disch:=omega)only[Qz,hc,Ep,t1,t2,t3,t4,t5,Ak,simprocAttr]
     ·simp(disch:=omega)only[Qz,hc,Ep,t1,t2,Ak,simprocAttr]
    ·simp(disch:=omega)only[Qz,hc,Ep,t1,Ak,simprocAttr]
  ·rw[Ax2];simp(disch:=omega)only[Qz,Ak,simprocAttr]
   try simp[ov,lj,Out.goes]
 unfold Lr;cases h:m.auth.find? (An5 m t zone) with
 |none=>
  rw[h,ov,lj] at key;simp(disch:=omega)only[Qz,key,Ak,simprocAttr]
  try rfl
 |some r=>
  rw[h,oq] at key;simp(disch:=omega)only[Qz,key,Ak,simprocAttr]
  try rfl
def Zl (m:Msg) (zone:List UInt8) (hm:m.wf) (hz:Hv zone) (hl:m.auth.length≤1000000):S av 2 [m.pv,.s zone]=some (match Ah1 m zone with|some r=>[.s r.name,.b true]|none=>[.s [],.b false]):=by
 refine Gr3 (N:=1) rfl ?_;unfold Ah1;by_cases h:zone=[]
 ·simp(disch:=omega)only[Br5,h,Ak,simprocAttr]
 ·have k:=An4 m 2 zone hm hz hl;rw[if_neg h];cases h2:Lr m 2 zone with
  |none=>
   rw[h2] at k;unfold Hq1 at k;simp(disch:=omega)only[Br5,h,k,Ak,simprocAttr]
   try rfl
  |some r=>
   rw[h2] at k;unfold Hq1 at k;simp(disch:=omega)only[Br5,h,k,Ak,simprocAttr]
end Go.X.G
/- Kinds, children and negative answers. -/
namespace Go.X.G
open Go Go.X
def El1 {m:Msg} {zone:List UInt8} (h:(m.resp && decide (m.op=0) && (decide (m.code=0)||decide (m.code=3)) && !m.tc)=false):kindM m zone=0:=by unfold kindM;rw[if_neg (by simp[h])]
def Am3 (m:Msg) (zone:List UInt8) (hm:m.wf) (hz:Hv zone) (h1:m.ans.length≤1000) (h2:m.auth.length≤1000):S Bz5 2 [m.pv,.s zone]=some [.i .i64 (kindM m zone)]:=by
 refine Iw5 (N:=1) rfl ?_;rcases Bm (m.resp && decide (m.op=0) && (decide (m.code=0)||decide (m.code=3)) && !m.tc) with hg|hg
 ·have k1:=Bf1 m (by omega);have k2:=An4 m 6 [] hm (by unfold Hv;simp) (by omega);have k3:=Zl m zone hm hz (by omega);have k4:=Xk m.ans ⟨(Ul m.ans m.q.typ 8 m.q.name).2,m.q.typ⟩ (by omega);unfold kindM;rw[if_pos hg];have g3:Hv (Ul m.ans m.q.typ 8 m.q.name).2:=by
   have go:∀(k:Nat) (n:List UInt8),Hv n→Hv (Ul m.ans m.q.typ k n).2:=by
    intro k
    induction k with
    |zero=>intro n hn;exact hn
    |succ k ih=>
     intro n hn;unfold Ul;split
     ·exact hn
     ·split
      ·exact hn
      ·rename_i r rs hf;have:r∈findR m.ans n 5:=by rw[hf];simp
       exact ih _ (hm.ans.2 r (C0.1 this).1).data.host
   exact go 8 _ hm.q.name
  simp only at k4 ⊢;generalize hp:Ul m.ans m.q.typ 8 m.q.name=p at*;obtain⟨ns,last⟩:=p;simp only at k1 k4 g3 ⊢;simp only[Br,Cj,decide_eq_true_eq,Cm] at hg;obtain⟨⟨⟨e1,e2⟩,e3⟩,e4⟩:=hg;have hns:(ns=[]∧ns.length=0)∨(ns≠[]∧¬ns.length=0∧(0:Int)<(ns.length:Int)):=by
   cases ns with
   |nil=>exact .inl ⟨rfl,rfl⟩
   |cons a b=>exact .inr ⟨by simp,by simp,by simp⟩
  cases q2:Lr m 6 [] with
  |none=>
   rw[q2] at k2;unfold Hq1 at k2;cases q3:Ah1 m zone with
   |none=>
    rw[q3] at k3;simp only at k3;rcases Bm (Xq m.ans last m.q.typ) with e5|e5<;>rcases hns with⟨n1,n2⟩|⟨n1,n2,n3⟩<;>rcases e3 with e3|e3<;>simp(disch:=omega)only[dj,k1,k2,k3,k4,e1,e2,e3,e4,e5,n2,Ak,simprocAttr]<;>simp[n1]
   |some r3=>
    rw[q3] at k3;simp only at k3;rcases Bm (Xq m.ans last m.q.typ) with e5|e5<;>rcases hns with⟨n1,n2⟩|⟨n1,n2,n3⟩<;>rcases e3 with e3|e3<;>simp(disch:=omega)only[dj,k1,k2,k3,k4,e1,e2,e3,e4,e5,n2,Ak,simprocAttr]<;>simp[n1]
  |some r2=>
   rw[q2] at k2;unfold Hq1 at k2;cases q3:Ah1 m zone with
   |none=>
    rw[q3] at k3;simp only at k3;rcases Bm (Xq m.ans last m.q.typ) with e5|e5<;>rcases hns with⟨n1,n2⟩|⟨n1,n2,n3⟩<;>rcases e3 with e3|e3<;>simp(disch:=omega)only[dj,k1,k2,k3,k4,e1,e2,e3,e4,e5,n2,Ak,simprocAttr]<;>simp[n1]
   |some r3=>
    rw[q3] at k3;simp only at k3;rcases Bm (Xq m.ans last m.q.typ) with e5|e5<;>rcases hns with⟨n1,n2⟩|⟨n1,n2,n3⟩<;>rcases e3 with e3|e3<;>simp(disch:=omega)only[dj,k1,k2,k3,k4,e1,e2,e3,e4,e5,n2,Ak,simprocAttr]<;>simp[n1]
 ·rw[El1 hg];rcases Bm m.resp with e1|e1
  ·by_cases e2:m.op=0
   ·by_cases e3:m.code=0
    ·have e4:m.tc=true:=by simpa [e1,e2,e3] using hg
     simp(disch:=omega)only[dj,e1,e2,e3,e4,Ak,simprocAttr]
    ·by_cases e5:m.code=3
     ·have e4:m.tc=true:=by simpa [e1,e2,e5] using hg
      simp(disch:=omega)only[dj,e1,e2,e5,e4,Ak,simprocAttr]
     ·simp(disch:=omega)only[dj,e1,e2,e3,e5,Ak,simprocAttr]
   ·simp(disch:=omega)only[dj,e1,e2,Ak,simprocAttr]
  ·simp(disch:=omega)only[dj,e1,Ak,simprocAttr]
structure MOk (m:Msg):Prop where
 wf:m.wf
 ans:m.ans.length≤1000
 auth:m.auth.length≤1000
 ext:m.ext.length≤10000
def Nc {l:List Rec} (p:Rec→Bool) (h:Qs l):Qs (l.filter p):=⟨Dy (D1 _ _) h.1,fun r hr=>h.2 r (C0.1 hr).1⟩
def MOk.inside {m:Msg} (h:MOk m) (zone:List UInt8):MOk (insideM m zone):=
 ⟨⟨h.wf.id,h.wf.op,h.wf.code,h.wf.size,h.wf.q,Nc _ h.wf.ans,Nc _ h.wf.auth,Nc _ h.wf.ext⟩,
  Dy (D1 _ _) h.ans,Dy (D1 _ _) h.auth,Dy (D1 _ _) h.ext⟩
def vv (m:Msg) (zone:List UInt8) (hm:MOk m) (hz:Hv zone):S Cn4 2 [m.pv,.s zone]=some [.i .i64 (kindM (insideM m zone) zone)]:=by refine Ic3 (N:=1) rfl ?_;have k1:=N9 m zone hm.wf hz hm.ans hm.auth (Dy hm.ext (by decide));have hi:=hm.inside zone;have k2:=Am3 (insideM m zone) zone hi.wf hz hi.ans hi.auth;simp(disch:=omega)only[Ht6,k1,k2,Ak,simprocAttr]
def Dx7:∀(l:List Rec) (out:List (List UInt8)),(dd out l).length≤out.length+l.length
 |[],out=>by simp[dd]
 |r::rs,out=>by
  unfold dd;split
  ·have:=Dx7 rs out;simp;omega
  ·have:=Dx7 rs (out++[r.data.host]);simp at this ⊢;omega
def Dy5 (c:List UInt8×List (List UInt8)×Bool):List PV:=[.s c.1,Cs c.2.1,.b c.2.2]
def Il0 {m:Msg} {zone:List UInt8} (h:kindM m zone=3):∃r,Ah1 m zone=some r:=by
 cases hr:Ah1 m zone with
 |some r=>exact⟨r,rfl⟩
 |none=>
  exfalso;unfold kindM at h;simp only[hr,Nk,B5,false_and,if_false] at h;split at h
  ·split at h
   ·cases h
   ·split at h
    ·cases h
    ·split at h
     ·split at h<;>cases h
     ·cases h
  ·cases h
def Dl9 (m:Msg) (zone:List UInt8) (hm:MOk m) (hz:Hv zone):S Cl4 2 [m.pv,.s zone]=some (Dy5 (childN (insideM m zone) zone)):=by
 refine Iw4 (N:=2000) rfl ?_;have k1:=N9 m zone hm.wf hz hm.ans hm.auth (Dy hm.ext (by decide));have hi:=hm.inside zone;generalize insideM m zone=x at*;have k2:=Am3 x zone hi.wf hz hi.ans hi.auth;have k3:=Zl x zone hi.wf hz (by have:=hi.auth;omega);have ha:=hi.auth;unfold childN;by_cases e:kindM x zone=3
 ·rw[if_pos e];obtain⟨r,hr⟩:=Il0 e;rw[hr] at k3;simp only[hr] at k3 ⊢;have hfl:=Nt x.auth r.name 2;have key:Fv2.ev S 2000 [m.pv,.s zone,x.pv,.i .i64 3,.s r.name,.b true,B6 (findR x.auth r.name 2)]=some (.yld 0 [Cs (dd [] (findR x.auth r.name 2))]):=by
   generalize findR x.auth r.name 2=F at*;refine Fc F (fun i (g:List (List UInt8))=>[Cs g,.i .i64 (i:Int)]) (fun i g r=> .yld 0 [Cs (dd g r)]) (fun i g=>g.length≤i) [] rfl (Dr _) (by omega) (fun i g c r hd hi hc hI=> ?_) (fun g _=> ?_)
   ·left;by_cases hin:c.data.host∈g
    ·refine⟨g,?_,by omega,by rw[dd,if_pos hin]⟩;simp(disch:=omega)only[Bn8,hc,Ih,hin,Ak,simprocAttr]
    ·refine⟨g++[c.data.host],?_,by simp;omega,by rw[dd,if_neg hin]⟩;simp(disch:=omega)only[Bn8,hc,Ih,hin,Ak,simprocAttr]
   ·simp(disch:=omega)only[Bn8,Ak,simprocAttr]
    try simp[Out.goes,dd]
  rw[e] at k2;simp(disch:=omega)only[Bn8,k1,k2,k3,Lq,key,Ak,simprocAttr]
  try rfl
 ·rw[if_neg e];simp(disch:=omega)only[Bn8,k1,k2,e,Ak,simprocAttr]
  try rfl
end Go.X.G
/- Lists of addresses and of names: what the library's functions give. -/
namespace Go.X.G
open Go Go.X
def Dv4 (l:List (List UInt8)) (hl:l.length≤1000000):S Bc5 1 [Cs l]=some [Cs (l.take 16)]:=by
 refine Ic9 (N:=1) rfl ?_;have hlen:(l.take 16).length≤1000000:=by simp;omega
 by_cases h:l.length≤16
 ·have e:l.take 16=l:=Ef h;have e3:(List.drop 0 (List.take l.length l))=l:=by simp
  simp(disch:=omega)only[Gc3,J8,vq,e3,e,EVT,Aq,simprocAttr]
 ·have e3:(List.drop 0 (List.take 16 l))=l.take 16:=by simp
  simp(disch:=omega)only[Gc3,J8,vq (l.take 16) hlen,e3,EVT,Aq,simprocAttr]
def Dv5 (l:List Adr) (hl:l.length≤1000000):S Bc4 1 [D7 l]=some [D7 (l.take 16)]:=by
 refine Ic8 (N:=1) rfl ?_;have hlen:(l.take 16).length≤1000000:=by simp;omega
 by_cases h:l.length≤16
 ·have e:l.take 16=l:=Ef h;have e3:(List.drop 0 (List.take l.length l))=l:=by simp
  simp(disch:=omega)only[Gc2,f9,X9,e3,e,EVT,Aq,simprocAttr]
 ·have e3:(List.drop 0 (List.take 16 l))=l.take 16:=by simp
  simp(disch:=omega)only[Gc2,f9,X9 (l.take 16) hlen,e3,EVT,Aq,simprocAttr]
end Go.X.G
/- Names that tell little: what minimize gives. -/
namespace Go.X.G
open Go Go.X
def Dq9 (l:List (List UInt8)) (i:Nat) (c:List UInt8) (h:l[i]? =some c):flat (l.take (i+1))=flat (l.take i)++c++[46]:=by rw[Dm,h];simp[flat]
def Dv0 (l:List (List UInt8)) (i:Nat):(flat (l.take i)).length≤(flat l).length:=by
 have:flat l=flat (l.take i)++flat (l.drop i):=by rw[←Mm,C9]
 rw[this];simp
def Gy3 (l:List (List UInt8)) (hl:l.length≤255) (hw:∀x∈l,Ln x=true) (hf:(flat l).length≤254) (N:Nat) (hN:l.length<N):
  Fv3.ev S N [Cs l]=some (.yld 0 [.l 1 (Df (flat l))]):=by
 refine F2 l (fun i=>[.i .i64 (i:Int),.l 1 (Df (flat (l.take i)))]) (fun i r=> .yld 0 [.l 1 (Df (flat l))]) rfl hN (fun i c r hd hi hc=> ?_) ?_
 ·left;refine⟨?_,rfl⟩;have hlab:=hw c (Cc hc);have hc63:=Bd4 hlab;have hfl:=Dv0 l i;have hfl2:=Dv0 l (i+1);have e1:=Dq9 l i c hc;have g1:(Df (flat (l.take i))).length≤254:=by rw[X2];omega
  have g2:(Df c).length≤63:=by rw[X2];omega
  have g3:(Df (flat (l.take i))++Df c).length≤400:=by rw[B0];omega
  have hord:=Kg c (by omega);have e2:Df (flat (l.take i))++Df c++[.i .u8 46]=Df (flat (l.take (i+1))):=by rw[e1];simp[Df]
  have hb:uz (.l 1 [.i .u8 46])=some (.s [46]):=L1 [46];rw[rz] at hlab;by_cases h42:c=[42]
  ·subst h42;simp(disch:=omega)only[Dn8,hc,hord,Ah4,hb,e2,EVT,Ak,simprocAttr]
  ·have h1:ord c=true:=by simpa [h42] using hlab
   rw[h1] at hord;simp(disch:=omega)only[Dn8,hc,hord,hb,e2,EVT,Ak,simprocAttr]
 ·have e:l.take l.length=l:=Ex;simp(disch:=omega)only[Dn8,e,EVT,Ak,simprocAttr]
  try simp[Out.goes]
def Gy2 {n:List UInt8} (hn:vld n=true) (k:Nat) (hk:k<(lbl n).length):S Cl5 1 [Cs ((lbl n).drop k)]=some [.s (jn ((lbl n).drop k)),.i .i64 0]:=by
 refine Iw6 (N:=300) rfl ?_;have hlen:=Kl n;have hne:(lbl n).drop k≠[]:=by simp;omega
 have hd1:((lbl n).drop k).length≤254:=by simp;omega
 have hd0:0<((lbl n).drop k).length:=Cr.2 hne;have hj:jn ((lbl n).drop k)=flat ((lbl n).drop k):=by unfold jn;rw[if_neg hne]
 have hv:=(Jw hn k).1;rw[hj] at hv ⊢;have hfl:=Js hv;have key:=Gy3 ((lbl n).drop k) (by omega) (fun x hx=>Cr9 n x (H8 hx)) hfl 300 (by omega);have hval:=Dx (flat ((lbl n).drop k)) (by omega);rw[hv] at hval;have hp:=Oy hv;obtain⟨c,hc⟩:∃c,(flat ((lbl n).drop k))[0]? =some c:=⟨_,B3 hp⟩;generalize (lbl n).drop k=l at*;have e0:¬((l.length:Int)=0):=by omega
 have e1:¬(255<(l.length:Int)):=by omega
 simp(disch:=omega)only[Dn8,key,hval,hc,e0,e1,EVT,Ak,simprocAttr]
def Ux (n z:List UInt8):Bool:= !decide (n=z) && under n z
def Es7 (n z:List UInt8) (hn:Hv n) (hz:Hv z):S Cl6 2 [.s n,.s z]=some [.b (Ux n z)]:=by
 refine Iw8 (N:=1) rfl ?_;have hu:=Ep n z hn hz;unfold Ux;by_cases h:n=z
 ·simp(disch:=omega)only[Gb6,h,EVT,Ak,simprocAttr]
  try simp
 ·simp(disch:=omega)only[Gb6,h,hu,EVT,Ak,simprocAttr]
  try simp
def nextQ (q:Ques) (zone:List UInt8) (more:Int):Ques×Bool:=
 if Ux q.name zone=false∨more<0∨10≤more then(q,true)
 else if(lbl q.name).length≤(lbl zone).length+1+more.toNat then(q,true)
 else(⟨jn ((lbl q.name).drop ((lbl q.name).length - ((lbl zone).length+1+more.toNat))),2⟩,false)
def Ty {n z:List UInt8} (h:Ux n z=true):vld n=true:=by simp only[Ux,Br] at h;exact(C8.1 h.2).1
def Gy1 (q:Ques) (zone:List UInt8) (more:Int) (hq:q.wf) (hz:Hv zone) (hm:Im more):S Cn5 3 [q.pv,.s zone,.i .i64 more]=some [(nextQ q zone more).1.pv,.b (nextQ q zone more).2]:=by
 refine Ic5 (N:=1) rfl ?_;have hb:=Es7 q.name zone hq.1 hz;have h1:=L3 q.name hq.1;have h2:=L3 zone hz;have hl1:=Kl q.name;have hl2:=Kl zone;obtain⟨m1,m2⟩:=hm;unfold nextQ;rcases Bm (Ux q.name zone) with hB|hB
 ·rw[hB] at hb;by_cases c1:more<0
  ·simp(disch:=omega)only[Bp7,hb,c1,EVT,Ak,simprocAttr]
   try simp
  ·by_cases c2:10≤more
   ·have c2':more≥10:=c2;simp(disch:=omega)only[Bp7,hb,c1,c2',EVT,Ak,simprocAttr]
    try simp[c2]
   ·obtain⟨k,rfl⟩:∃k:Nat,more=k:=⟨more.toNat,by omega⟩;have c2':¬((k:Int)≥10):=c2;by_cases c3:(lbl q.name).length≤(lbl zone).length+1+k
    ·have c3':((lbl q.name).length:Int)≤((lbl zone).length:Int)+1+k:=by omega
     simp(disch:=omega)only[Bp7,hb,h1,h2,c1,c2',c3',EVT,Ak,simprocAttr]
     try simp[hB,c2,c3,c1]
    ·have c3':¬((lbl q.name).length:Int)≤((lbl zone).length:Int)+1+k:=by omega
     have hk:(lbl q.name).length - ((lbl zone).length+1+k)<(lbl q.name).length:=by omega
     have hj:=Gy2 (Ty hB) _ hk;have hsl:Ix 1 (Cs (lbl q.name)) (.i .i64 (((lbl q.name).length:Int) - (((lbl zone).length:Int)+1+k))) (.i .i64 ((lbl q.name).length:Int))=some (Cs ((lbl q.name).drop ((lbl q.name).length - ((lbl zone).length+1+k)))):=by
      rw[J8 _ _ _ _ _ (by omega) (by omega) (by omega)];have e1:(((lbl q.name).length:Int)).toNat=(lbl q.name).length:=by omega
      have e2:(((lbl q.name).length:Int) - (((lbl zone).length:Int)+1+k)).toNat=(lbl q.name).length - ((lbl zone).length+1+k):=by omega
      rw[e1,e2,Ex]
     simp(disch:=omega)only[Bp7,hb,h1,h2,c1,c2',c3',hsl,hj,EVT,Ak,simprocAttr]
     try simp[hB,c2,c3,c1]
 ·rw[hB] at hb;simp(disch:=omega)only[Bp7,hb,EVT,Ak,simprocAttr]
  try simp[hB]
end Go.X.G
/- The canonical order of names is a total order. -/
namespace Go.X.G
open Go Go.X
structure TO {α:Type} (lt:α→α→Prop):Prop where
 irr:∀a,¬lt a a
 tr:∀a b c,lt a b→lt b c→lt a c
 tri:∀a b,lt a b∨a=b∨lt b a
def TO.asym {α:Type} {lt:α→α→Prop} (h:TO lt) {a b:α} (h1:lt a b):¬lt b a:=fun h2=>h.irr a (h.tr _ _ _ h1 h2)
def TO.ntr {α:Type} {lt:α→α→Prop} (h:TO lt) {a b c:α} (h1:¬lt a b) (h2:¬lt b c):¬lt a c:=by
 intro h3;rcases h.tri b a with h4|h4|h4
 ·exact h2 (h.tr _ _ _ h4 h3)
 ·subst h4;exact h2 h3
 ·exact h1 h4
def lex {α:Type} (lt:α→α→Prop):List α→List α→Prop
 |[],[]=>False
 |[],_::_=>True
 |_::_,[]=>False
 |a::x,b::y=>lt a b∨(a=b∧lex lt x y)
def Cr8 {α:Type} {lt:α→α→Prop} (h:TO lt):∀x:List α,¬lex lt x x
 |[]=>by simp[lex]
 |a::x=>by simp only[lex,true_and,not_or];exact⟨h.irr a,Cr8 h x⟩
def Fq3 {α:Type} {lt:α→α→Prop} (h:TO lt):∀x y z:List α,lex lt x y→lex lt y z→lex lt x z
 |[],[],_,h1,_=>by simp[lex] at h1
 |[],_::_,[],_,h2=>by simp[lex] at h2
 |[],_::_,_::_,_,_=>by simp[lex]
 |_::_,[],_,h1,_=>by simp[lex] at h1
 |_::_,_::_,[],_,h2=>by simp[lex] at h2
 |a::x,b::y,c::z,h1,h2=>by
  simp only[lex] at h1 h2 ⊢;rcases h1 with h1|⟨rfl,h1⟩
  ·rcases h2 with h2|⟨rfl,h2⟩
   ·exact .inl (h.tr _ _ _ h1 h2)
   ·exact .inl h1
  ·rcases h2 with h2|⟨rfl,h2⟩
   ·exact .inl h2
   ·exact .inr ⟨rfl,Fq3 h x y z h1 h2⟩
def lex_tri {α:Type} {lt:α→α→Prop} (h:TO lt):∀x y:List α,lex lt x y∨x=y∨lex lt y x
 |[],[]=> .inr (.inl rfl)
 |[],_::_=> .inl (by simp[lex])
 |_::_,[]=> .inr (.inr (by simp[lex]))
 |a::x,b::y=>by
  simp only[lex];rcases h.tri a b with h1|rfl|h1
  ·exact .inl (.inl h1)
  ·rcases lex_tri h x y with h2|rfl|h2
   ·exact .inl (.inr ⟨rfl,h2⟩)
   ·exact .inr (.inl rfl)
   ·exact .inr (.inr (.inr ⟨rfl,h2⟩))
  ·exact .inr (.inr (.inl h1))
def TO.lex {α:Type} {lt:α→α→Prop} (h:TO lt):TO (G.lex lt):=⟨Cr8 h,Fq3 h,lex_tri h⟩
def Iq1:TO (fun a b:UInt8=>a<b):=⟨fun a=>UInt8.lt_irrefl a,fun a b c h1 h2=>UInt8.lt_trans h1 h2,fun a b=>by
 rcases UInt8.lt_or_le a b with h|h
 ·exact .inl h
 ·rcases UInt8.lt_or_le b a with h2|h2
  ·exact .inr (.inr h2)
  ·exact .inr (.inl (UInt8.le_antisymm h2 h))⟩
abbrev ltB:List UInt8→List UInt8→Prop:=lex fun a b:UInt8=>a<b
def Dm3:TO ltB:=Iq1.lex
def X3:∀a b:List UInt8,Op.bytesLess a b=true↔ltB a b
 |[],[]=>by simp[Op.bytesLess,lex]
 |[],_::_=>by simp[Op.bytesLess,lex]
 |_::_,[]=>by simp[Op.bytesLess,lex]
 |a::x,b::y=>by have ih:=X3 x y;simp only[Op.bytesLess,Cj,decide_eq_true_eq,Br,beq_iff_eq,lex];rw[ih]
def Vh (a b:List UInt8):cmpS a b<0↔ltB a b:=by
 rw[←X3];unfold cmpS;cases h:Op.bytesLess a b
 ·simp only[B5,if_false,iff_false];split<;>omega
 ·simp
abbrev ltL:List (List UInt8)→List (List UInt8)→Prop:=lex ltB
def to_L:TO ltL:=Dm3.lex
def Bh1 (a b:List (List UInt8)):Int:=match Yq a b with
 |some c=>c
 |none=>if a.length<b.length then -1 else if b.length<a.length then 1 else 0
def Ap8:∀a b:List (List UInt8),Bh1 a b<0↔ltL a b
 |[],[]=>by simp[Bh1,Yq,lex]
 |[],_::_=>by simp[Bh1,Yq,lex]
 |_::_,[]=>by simp[Bh1,Yq,lex]
 |x::xs,y::ys=>by
  have ih:=Ap8 xs ys;simp only[Bh1,Yq,lex] at ih ⊢;by_cases h:x=y
  ·subst h;rw[if_pos rfl];simp only[Cw,Nat.add_lt_add_iff_right,true_and];rw[ih];constructor
   ·exact fun h=> .inr h
   ·rintro (h|h)
    ·exact absurd h (Dm3.irr x)
    ·exact h
  ·rw[if_neg h];simp only;rw[Vh];simp[h]
def Ak0 (a b:List (List UInt8)):Bh0 a b=Bh1 a.reverse b.reverse:=by unfold Bh0 Bh1;cases Yq a.reverse b.reverse<;>simp
def Dy0 (a b:List (List UInt8)):Bh0 a b<0↔ltL a.reverse b.reverse:=by rw[←Ap8,Ak0]
def ltN (a b:List UInt8):Prop:=if vld a=true then(if vld b=true then ltL (lbl a).reverse (lbl b).reverse else True) else(if vld b=true then False else ltB a b)
def G5 (a b:List UInt8):Ld a b<0↔ltN a b:=by
 unfold ltN;rcases Bm (vld a) with ha|ha
 ·rcases Bm (vld b) with hb|hb
  ·rw[jj ha hb,Dy0,if_pos ha,if_pos hb]
  ·unfold Ld;simp[ha,hb]
 ·rcases Bm (vld b) with hb|hb
  ·unfold Ld;simp[ha,hb]
  ·have e:Ld a b=cmpS a b:=by unfold Ld;simp[ha,hb]
   rw[e,Vh];simp[ha,hb]
def to_N:TO ltN:=by
 refine⟨fun a h=> ?_,fun a b c h1 h2=> ?_,fun a b=> ?_⟩
 ·unfold ltN at h;split at h
  ·exact to_L.irr _ h
  ·exact Dm3.irr _ h
 ·unfold ltN at*;rcases Bm (vld a) with ha|ha<;>rcases Bm (vld b) with hb|hb<;>rcases Bm (vld c) with hc|hc<;>
   simp only[ha,hb,hc,if_true,B5,if_false] at h1 h2 ⊢
  ·exact to_L.tr _ _ _ h1 h2
  ·exact Dm3.tr _ _ _ h1 h2
 ·unfold ltN;rcases Bm (vld a) with ha|ha<;>rcases Bm (vld b) with hb|hb<;>simp only[ha,hb,if_true,B5,if_false]
  ·rcases to_L.tri (lbl a).reverse (lbl b).reverse with h|h|h
   ·exact .inl h
   ·exact .inr (.inl (Nm ha hb (List.reverse_inj.1 h)))
   ·exact .inr (.inr h)
  ·simp
  ·simp
  ·exact Dm3.tri a b
def Jn {a b:List UInt8}:Ld a b=0↔a=b:=by
 constructor
 ·intro h;rcases Bm (vld a) with ha|ha
  ·rcases Bm (vld b) with hb|hb
   ·rw[jj ha hb] at h;have key:∀x y:List (List UInt8),Bh1 x y=0→x=y:=by
     intro x
     induction x with
     |nil=>intro y hy;cases y with
      |nil=>rfl
      |cons=>simp[Bh1,Yq] at hy
     |cons x xs ih=>intro y hy;cases y with
      |nil=>simp[Bh1,Yq] at hy
      |cons y ys=>
       simp only[Bh1,Yq] at hy ih;by_cases e:x=y
       ·subst e;rw[if_pos rfl] at hy;simp only[Cw,Nat.add_lt_add_iff_right] at hy;rw[ih ys hy]
       ·rw[if_neg e] at hy;exact absurd (Kp.1 hy) e
    rw[Ak0] at h;exact Nm ha hb (List.reverse_inj.1 (key _ _ h))
   ·unfold Ld at h;simp[ha,hb] at h
  ·rcases Bm (vld b) with hb|hb
   ·unfold Ld at h;simp[ha,hb] at h
   ·have e:Ld a b=cmpS a b:=by unfold Ld;simp[ha,hb]
    rw[e] at h;exact Kp.1 h
 ·rintro rfl;have h1:=G5 a a;have h2:¬Ld a a<0:=fun h=>to_N.irr a (h1.1 h);have key:∀x:List (List UInt8),Bh1 x x=0:=by
   intro x
   induction x with
   |nil=>rfl
   |cons x xs ih=>
    simp only[Bh1,Yq] at ih ⊢;simp only[if_true,Cw,Nat.add_lt_add_iff_right];exact ih
  rcases Bm (vld a) with ha|ha
  ·rw[jj ha ha];rw[Ak0];exact key _
  ·have e:Ld a a=cmpS a a:=by unfold Ld;simp[ha]
   rw[e];exact Kp.2 rfl
end Go.X.G
/- Sorted lists of names, each once. -/
namespace Go.X.G
open Go Go.X
def U0 {α:Type} (e:α→α→Bool):α→List α→List α
 |_,[]=>[]
 |p,c::r=>if e c p=true then U0 e c r else c::U0 e c r
def cpt {α:Type} (e:α→α→Bool):List α→List α
 |[]=>[]
 |x::r=>x::U0 e x r
def tp {α:Type} (e:α→α→Bool) (c:α):∀(r:List α) (p:α),U0 e p (r++[c])=U0 e p r++(if e c ((p::r).getLast (by simp))=true then [] else [c])
 |[],p=>by simp only[Dp,U0,List.getLast_singleton];rfl
 |x::r,p=>by
  have ih:=tp e c r x;simp only[Dh,U0,List.getLast_cons_cons];split
  ·exact ih
  ·rw[ih];rfl
def O0 {α:Type} (e:α→α→Bool) (c:α) (l:List α) (h:l≠[]):cpt e (l++[c])=cpt e l++(if e c (l.getLast h)=true then [] else [c]):=by
 cases l with
 |nil=>exact absurd rfl h
 |cons x r=>
  show x::U0 e x (r++[c])=_;rw[tp];rfl
def Ap1 {α:Type} (e:α→α→Bool):∀(r:List α) (p:α),(U0 e p r).length≤r.length
 |[],_=>by simp[U0]
 |c::r,p=>by have:=Ap1 e r c;simp only[U0];split<;>simp<;>omega
def i7 {α:Type} (e:α→α→Bool) (l:List α):(cpt e l).length≤l.length:=by
 cases l with
 |nil=>simp[cpt]
 |cons x r=>have:=Ap1 e r x;simp[cpt];exact this
def i8 {α:Type} (e:α→α→Bool):∀(r:List α) (p:α),∀x∈U0 e p r,x∈r
 |[],_,x,h=>by simp[U0] at h
 |c::r,p,x,h=>by
  simp only[U0] at h;split at h
  ·exact .tail _ (i8 e r c x h)
  ·rcases Ck.1 h with rfl|h
   ·exact .head _
   ·exact .tail _ (i8 e r c x h)
def Gq4 {α:Type} (e:α→α→Bool) (l:List α):∀x∈cpt e l,x∈l:=by
 cases l with
 |nil=>intro x h;simp[cpt] at h
 |cons y r=>
  intro x h;rcases Ck.1 (show x∈y::U0 e y r from h) with rfl|h
  ·exact .head _
  ·exact .tail _ (i8 e r y x h)
abbrev eqs {α:Type} [DecidableEq α]:α→α→Bool:=fun a b=>decide (a=b)
def cptG_mem {α:Type} [DecidableEq α]:∀(r:List α) (p x:α),x∈r→x=p∨x∈U0 eqs p r
 |[],_,x,h=>by simp at h
 |c::r,p,x,h=>by
  simp only[U0];by_cases hc:c=p
  ·subst hc;rw[if_pos (by simp[eqs])];rcases Ck.1 h with rfl|h
   ·exact .inl rfl
   ·exact cptG_mem r c x h
  ·rw[if_neg (by simp[eqs,hc])];right;rcases Ck.1 h with rfl|h
   ·exact .head _
   ·rcases cptG_mem r c x h with rfl|h
    ·exact .head _
    ·exact .tail _ h
def Gq5 {α:Type} [DecidableEq α] (l:List α) (x:α):x∈cpt eqs l↔x∈l:=by
 refine⟨Gq4 _ l x,fun h=> ?_⟩;cases l with
 |nil=>simp at h
 |cons y r=>
  rcases Ck.1 h with rfl|h
  ·exact .head _
  ·rcases cptG_mem r y x h with rfl|h
   ·exact .head _
   ·exact .tail _ h
def X0 {α:Type} [DecidableEq α] {lt:α→α→Prop} (ht:TO lt):∀(r:List α) (p:α),(p::r).Pairwise (fun a b=>¬lt b a)→(p::U0 eqs p r).Pairwise lt
 |[],p,_=>by simp[U0]
 |c::r,p,h=>by
  rw[Cf] at h;have ih:=X0 ht r c h.2;simp only[U0];by_cases hc:c=p
  ·subst hc;rw[if_pos (by simp[eqs])];exact ih
  ·rw[if_neg (by simp[eqs,hc])];rw[Cf];refine⟨fun x hx=> ?_,ih⟩;have hpc:lt p c:=by
    rcases ht.tri p c with h1|h1|h1
    ·exact h1
    ·exact absurd h1.symm hc
    ·exact absurd h1 (h.1 c (.head _))
   rcases Ck.1 hx with rfl|hx
   ·exact hpc
   ·exact ht.tr _ _ _ hpc ((Cf.1 ih).1 x hx)
def Bg7 {α:Type} [DecidableEq α] {lt:α→α→Prop} (ht:TO lt) (l:List α) (h:l.Pairwise (fun a b=>¬lt b a)):(cpt eqs l).Pairwise lt:=by
 cases l with
 |nil=>simp[cpt]
 |cons x r=>exact X0 ht r x h
def nb {α:Type} {lt:α→α→Prop} (ht:TO lt):∀(a b:List α),a.Pairwise lt→b.Pairwise lt→(∀x,x∈a↔x∈b)→a=b
 |[],[],_,_,_=>rfl
 |[],y::b,_,_,h=>absurd ((h y).2 (.head _)) (by simp)
 |x::a,[],_,_,h=>absurd ((h x).1 (.head _)) (by simp)
 |x::a,y::b,ha,hb,h=>by
  rw[Cf] at ha hb;have hxy:x=y:=by
   rcases Ck.1 ((h x).1 (.head _)) with h1|h1
   ·exact h1
   ·rcases Ck.1 ((h y).2 (.head _)) with h2|h2
    ·exact h2.symm
    ·exact absurd (hb.1 x h1) (ht.asym (ha.1 y h2))
  subst hxy;rw[nb ht a b ha.2 hb.2 fun z=> ?_];constructor
  ·intro hz;rcases Ck.1 ((h z).1 (.tail _ hz)) with rfl|h1
   ·exact absurd (ha.1 z hz) (ht.irr z)
   ·exact h1
  ·intro hz;rcases Ck.1 ((h z).2 (.tail _ hz)) with rfl|h1
   ·exact absurd (hb.1 z hz) (ht.irr z)
   ·exact h1
def setN (l:List (List UInt8)):List (List UInt8):=cpt eqs (l.mergeSort fun x y=> !decide (Ld y x<0))
def Fn9 (l:List (List UInt8)):(l.mergeSort fun x y=> !decide (Ld y x<0)).Pairwise (fun a b=>¬ltN b a):=by
 have:=List.pairwise_mergeSort (le:=fun x y:List UInt8=> !decide (Ld y x<0)) (fun a b c h1 h2=>by
  simp only[Cm,decide_eq_false_iff_not,G5] at h1 h2 ⊢;exact to_N.ntr h2 h1) (fun a b=>by
  simp only[Cj,Cm,decide_eq_false_iff_not,G5];rcases to_N.tri a b with h|h|h
  ·exact .inl (to_N.asym h)
  ·subst h;exact .inl (to_N.irr a)
  ·exact .inr (to_N.asym h)) l
 refine this.imp fun {a b} h=> ?_;simpa only[Cm,decide_eq_false_iff_not,G5] using h
def Wj (l:List (List UInt8)):(setN l).Pairwise ltN:=Bg7 to_N _ (Fn9 l)
def Oc (l:List (List UInt8)) (x:List UInt8):x∈setN l↔x∈l:=by unfold setN;rw[Gq5];exact(List.mergeSort_perm _ _).mem_iff
def dr (l:List (List UInt8)):(setN l).length≤l.length:=by have:=i7 eqs (l.mergeSort fun x y=> !decide (Ld y x<0));rw[wq] at this;exact this
end Go.X.G
/- Records that go out of a list. -/
namespace Go.X.G
open Go Go.X
def nw {step:List PV→Option Out} {id:Nat} {α:Type} (st:α→List PV) (Q:Out→Prop) (I:α→Prop) (μ:α→Nat)
  (h:∀a,I a→(∃b,step (st a)=some (.yld id (st b))∧I b∧μ b<μ a)∨∃o,step (st a)=some o∧o.goes id=false∧Q o):
  ∀(n:Nat) (a:α),I a→μ a<n→∃o,Ht step id n (st a)=some o∧Q o
 |0,a,_,hn=>by omega
 |n+1,a,ha,hn=>by
  simp only[Ht];rcases h a ha with⟨b,h1,h2,h3⟩|⟨o,h1,h2,h3⟩
  ·rw[h1];simp only[Bt,if_true];exact nw st Q I μ h n b h2 (by omega)
  ·rw[h1];refine⟨o,?_,h3⟩;simp only[Bt];cases o with
   |ret vs=>rfl
   |yld j vs=>
    simp only[Out.goes,beq_eq_false_iff_ne,ne_eq] at h2;simp only[];rw[if_neg h2]
def I4 {fn:Fns} {N:Nat} {η:List PV} {id:Nat} {init:List E} {body:T} {α:Type} (st:α→List PV) (Q:Out→Prop) (I:α→Prop) (μ:α→Nat) (a0:α)
  (h0:E.evs η init=some (st a0)) (hI:I a0) (hN:μ a0<N)
  (h:∀a,I a→(∃b,body.ev fn N (η++st a)=some (.yld id (st b))∧I b∧μ b<μ a)∨∃o,body.ev fn N (η++st a)=some o∧o.goes id=false∧Q o):
  ∃o,(T.loop id init body).ev fn N η=some o∧Q o:=by
 simp only[T.ev,h0,Bt];exact nw st Q I μ h N a0 hI hN
abbrev zr:Rec:=⟨[],0,0,⟨false,0,0,[],[],[],0,0,0,0,0,0,0⟩⟩
abbrev Ax3:PV:=Rec.pv ⟨[],0,0,⟨false,0,0,[],[],[],0,0,0,0,0,0,0⟩⟩
def Hd4 (p:Rec→Bool):∀(l:List Rec) (k:Nat),ixF p k l=ixG p k l
 |[],_=>rfl
 |r::rs,k=>by simp only[ixF,ixG,Hd4 p rs]
def Zk (l:List Rec) (g:Nat) (caps:List PV) (p:Rec→Bool) (hl:l.length≤1000000) (h:∀r∈l,S g 1 (r.pv::caps)=some [.b (p r)]):S yl 2 [B6 l,.f g caps]=some [.i .i64 (ixG p 0 l)]:=by rw[←Hd4];exact R6 l g caps p hl h
def Ah0 (n:Int) (h0:0≤n) (h1:n≤1073741824):Lg 16 (.i .i64 n) Ax3=some (B6 (List.replicate n.toNat zr)):=by
 have h2:n≤(LIM:Int):=by simp only[LIM];omega
 have h3:Ax3.cells.length=16:=rfl;simp only[Lg,h0,h2,h3,and_self,if_true];simp[B6,Rec.pv,Rec.cells,Dat.cells]
def Bl8 (l:List Rec) (g:Nat) (caps:List PV) (p:Rec→Bool) (hl:l.length≤1000000) (h:∀r∈l,S g 1 (r.pv::caps)=some [.b (p r)]):S pf 1048578 [B6 l,.f g caps]=some [B6 (l.filter fun x=> !p x)]:=by
 refine Gs0 (N:=l.length+1) rfl ?_;have h0:=Zk l g caps p hl h;have hany:=(gx p l 0);by_cases hneg:ixG p 0 l= -1
 ·have hf:l.any p=false:=by
   rcases Bm (l.any p) with h1|h1
   ·have:=hany.1.2 h1;omega
   ·exact h1
  have e:l.filter (fun x=> !p x)=l:=Ls p (fun x hx=>by rw[List.any_eq_false] at hf;simpa using hf x hx);rw[hneg] at h0;rw[e];simp(disch:=omega)only[lp,h0,EVT,Ak,simprocAttr]
 ·obtain⟨j0,g1,g2,g3,x0,g4,g5⟩:=ry p l 0 (by have:=hany.2.2;omega);rw[g1] at h0;simp only[Fs] at h0;have key:∃s:List Rec,s.length=l.length∧s.take (l.filter fun x=> !p x).length=l.filter (fun x=> !p x)∧Dj5.ev S (l.length+1) [B6 l,.f g caps,.i .i64 (j0:Int)]=some (.yld 0 [.i .i64 (((l.filter fun x=> !p x).length:Nat):Int),B6 s]):=by
   let nx:Nat×Nat×List Rec→Nat×Nat×List Rec:=fun a=>match l[a.2.1]? with
    |some c=>if p c=true then(a.1,a.2.1+1,a.2.2) else(a.1+1,a.2.1+1,a.2.2.set a.1 c)
    |none=>a
   let fin:Nat→Nat×Nat×List Rec→Nat×Nat×List Rec:=fun n a=>Nat.rec a (fun _ b=>nx b) n;have fin_s:∀n a,fin (n+1) a=nx (fin n a):=fun _ _=>rfl;have fin_c:∀n a,fin (n+1) a=fin n (nx a):=by
    intro n
    induction n with
    |zero=>intro a;rfl
    |succ n ih=>intro a;exact congrArg nx (ih a)
   let I:Nat×Nat×List Rec→Prop:=fun a=>a.1<a.2.1∧a.2.1≤l.length∧a.2.2.length=l.length∧a.2.2.take a.1=(l.take a.2.1).filter (fun x=> !p x)∧a.2.2.drop a.2.1=l.drop a.2.1;have I_nx:∀a,I a→a.2.1<l.length→I (nx a)∧(nx a).2.1=a.2.1+1:=by
    rintro⟨i,j,s⟩ ⟨i1,i2,i3,i4,i5⟩ hj;simp only at i1 i2 i3 i4 i5 hj;have hc:l[j]? =some l[j]:=B3 hj;have ht:l.take (j+1)=l.take j++[l[j]]:=by rw[Dm,hc];rfl
    have hdrop:s.drop (j+1)=l.drop (j+1):=by rw[←D9 (i:=1) (j:=j),i5,D9]
    have hlen:i=((l.take j).filter fun x=> !p x).length:=by rw[←i4,Cq];omega
    simp only[nx,hc];rcases Bm (p l[j]) with h1|h1
    ·simp only[h1,if_true];refine⟨⟨by simp only;omega,by simp only;omega,i3,?_,hdrop⟩,trivial⟩;simp only;rw[ht,Ff,i4];simp[h1]
    ·simp only[h1,B5,if_false];refine⟨⟨by simp only;omega,by simp only;omega,by simpa using i3,?_,?_⟩,trivial⟩
     ·simp only;rw[ht,Ff,←i4,Dm,List.getElem?_set_self (by omega),List.take_set_of_le (by omega)];simp[h1]
     ·simp only;rw[U4 (by omega),hdrop]
   have I_fin:∀n a,I a→a.2.1+n≤l.length→I (fin n a)∧(fin n a).2.1=a.2.1+n:=by
    intro n
    induction n with
    |zero=>intro a ha _;exact⟨ha,rfl⟩
    |succ n ih=>
     intro a ha hn;obtain⟨q1,q2⟩:=ih a ha (by omega);obtain⟨q3,q4⟩:=I_nx _ q1 (by omega);rw[fin_s];exact⟨q3,by rw[q4,q2];omega⟩
   have I0:I (j0,j0+1,l):=by refine⟨by simp only;omega,by simp only;omega,rfl,?_,rfl⟩;simp only;rw[Dm,g4,Ff,Ls p g3];simp[g5]
   obtain⟨z1,z2⟩:=I_fin (l.length - (j0+1)) (j0,j0+1,l) I0 (by simp only;omega);simp only at z2;refine⟨(fin (l.length - (j0+1)) (j0,j0+1,l)).2.2,z1.2.2.1,?_,?_⟩
   ·have q:=z1.2.2.2.1;have e1:(fin (l.length - (j0+1)) (j0,j0+1,l)).2.1=l.length:=by rw[z2];omega
    rw[e1,Ex] at q;rw[←q,Cq,z1.2.2.1];have:=z1.1;rw[Lw (by omega)]
   ·have hlen:(fin (l.length - (j0+1)) (j0,j0+1,l)).1=(l.filter fun x=> !p x).length:=by
     have q:=z1.2.2.2.1;have e1:(fin (l.length - (j0+1)) (j0,j0+1,l)).2.1=l.length:=by rw[z2];omega
     rw[e1,Ex] at q;have q2:=congrArg List.length q;have:=z1.1;rw[Cq,z1.2.2.1,Lw (by omega)] at q2;exact q2
    refine Eq.trans (Jc (α:=Nat×Nat×List Rec) (fun a=>[.i .i64 (a.1:Int),.i .i64 (a.2.1:Int),B6 a.2.2]) (fun a=> .yld 0 [.i .i64 ((fin (l.length - a.2.1) a).1:Int),B6 (fin (l.length - a.2.1) a).2.2]) I (fun a=>l.length - a.2.1) (j0,j0+1,l) ?_ I0 (by simp only;omega) ?_) ?_
    ·simp(disch:=omega)only[EVT,Ak,simprocAttr]
    ·rintro⟨i,j,s⟩ hI;obtain⟨i1,i2,i3,i4,i5⟩:=hI;simp only at i1 i2 i3 i4 i5;by_cases hj:j<l.length
     ·left;have hc:l[j]? =some l[j]:=B3 hj;have hsc:s[j]? =some l[j]:=by have:=congrArg (fun q=>q[0]?) i5;simpa [Ch,hc] using this
      have hsi:∃y,s[i]? =some y:=⟨_,B3 (by omega)⟩;obtain⟨y,hsi⟩:=hsi;obtain⟨q3,q4⟩:=I_nx (i,j,s) ⟨i1,i2,i3,i4,i5⟩ hj;have hp:=h l[j] (Em hj);refine⟨nx (i,j,s),?_,q3,by rw[q4];simp only;omega,?_⟩
      ·have hjs:(j:Int)<(s.length:Int):=by omega
       rcases Bm (p l[j]) with h1|h1
       ·rw[h1] at hp;simp only[nx,hc,h1,if_true];simp(disch:=omega)only[lp,hjs,hsc,hp,EVT,Ak,simprocAttr]
       ·rw[h1] at hp;simp only[nx,hc,h1,B5,if_false];simp(disch:=omega)only[lp,hjs,hsc,hsi,hp,EVT,Ak,simprocAttr]
      ·have e1:l.length - j=(l.length - (j+1))+1:=by omega
       rw[q4];simp only;rw[e1,fin_c]
     ·right;have hjs:¬(j:Int)<(s.length:Int):=by omega
      have e1:l.length - j=0:=by omega
      simp only[e1];simp(disch:=omega)only[lp,hjs,EVT,Ak,simprocAttr];exact⟨rfl,rfl⟩
    ·simp only;rw[hlen]
  obtain⟨s,hs1,hs2,key⟩:=key;have hle:(l.filter fun x=> !p x).length≤l.length:=D1 _ _;have e0:¬((j0:Int)= -1):=by omega
  generalize (l.filter fun x=> !p x)=fl at*;have hsl1:Ix 16 (B6 s) (.i .i64 ((fl.length:Nat):Int)) (.i .i64 (s.length:Int))=some (B6 (s.drop fl.length)):=by rw[Hm _ _ _ _ _ (by omega) (by omega) (by omega)];simp
  have hsl2:Ix 16 (B6 s) (.i .i64 0) (.i .i64 ((fl.length:Nat):Int))=some (B6 fl):=by rw[Hm _ _ _ _ _ (by omega) (by omega) (by omega)];simp[hs2]
  have hrep:Lg 16 (.i .i64 ((s.length:Int) - (fl.length:Int))) Ax3=some (B6 (List.replicate (s.length - fl.length) zr)):=by rw[Ah0 _ (by omega) (by omega)];congr 3;omega
  have happ:Ip 16 (B6 fl) (B6 (List.replicate (s.length - fl.length) zr))=some (B6 (fl++List.replicate (s.length - fl.length) zr)):=Ic _ _ (by simp;omega);have hsl3:Ix 16 (B6 (fl++List.replicate (s.length - fl.length) zr)) (.i .i64 0) (.i .i64 ((fl.length:Nat):Int))=some (B6 fl):=by rw[Hm _ _ _ _ _ (by omega) (by omega) (by simp;omega)];simp
  simp(disch:=omega)only[lp,h0,e0,key,hsl1,hsl2,hrep,happ,hsl3,EVT,Ak,simprocAttr]
def Gq9:PV→PV→Int
 | .s a,.s b=>Ld a b
 |_,_=>0
def j6 (l:List (List UInt8)) (hl:l.length≤1000000) (hs:∀x∈l,x.length≤9223372036854775807):S Q3 1048578 [Cs l,.f Lm []]=some [Cs (l.mergeSort fun x y=> !decide (Ld y x<0))]:=by
 have hm:∀x∈l.map PV.s,∃a∈l,x= .s a:=fun x hx=>by obtain⟨a,h1,h2⟩:=E2.1 hx;exact⟨a,h1,h2.symm⟩
 have h:=Ag5 (tab:=tab) (xs:=Ft2) (ss:=Yz) (f:=Q3) (s:=Cj7) Fg9 Fh5 (g:=Lm) (caps:=[]) (l:=l.map PV.s) (by decide) (by simp;omega)
  (fun x hx=>by obtain⟨a,_,rfl⟩:=hm x hx;rfl) Gq9
  (fun x hx y hy=>by obtain⟨a,ha,rfl⟩:=hm x hx;obtain⟨b,hb,rfl⟩:=hm y hy;exact X8 a b (hs a ha) (hs b hb))
  (fun x hx=>by obtain⟨a,_,rfl⟩:=hm x hx;show¬Ld a a<0;rw[G5];exact to_N.irr a)
  (fun x hx y hy z hz h1 h2=>by obtain⟨a,_,rfl⟩:=hm x hx;obtain⟨b,_,rfl⟩:=hm y hy;obtain⟨c,_,rfl⟩:=hm z hz;exact(G5 a c).2 (to_N.tr _ _ _ ((G5 a b).1 h1) ((G5 b c).1 h2)))
  (fun x hx y hy z hz h1 h2=>by obtain⟨a,_,rfl⟩:=hm x hx;obtain⟨b,_,rfl⟩:=hm y hy;obtain⟨c,_,rfl⟩:=hm z hz;exact fun h3=>to_N.ntr (fun q=>h1 ((G5 a b).2 q)) (fun q=>h2 ((G5 b c).2 q)) ((G5 a c).1 h3))
  (fun x hx y hy h1 h2=>by
   obtain⟨a,_,rfl⟩:=hm x hx;obtain⟨b,_,rfl⟩:=hm y hy;rcases to_N.tri a b with q|q|q
   ·exact absurd ((G5 a b).2 q) h1
   ·rw[q]
   ·exact absurd ((G5 b a).2 q) h2)
 have e:(l.map PV.s).mergeSort (fun x y=> !decide (Gq9 y x<0))=(l.mergeSort fun x y=> !decide (Ld y x<0)).map PV.s:=(Hr2 (r:=fun x y=> !decide (Ld y x<0)) (s:=fun x y=> !decide (Gq9 y x<0)) (f:=PV.s) fun a _ b _=>rfl).symm;rw[e] at h;exact h
def P9 (l:List (List UInt8)) (hl:l.length≤1000000):S Ws 1048577 [Cs l]=some [Cs (cpt eqs l)]:=by
 refine Gs1 (N:=l.length+2) rfl ?_;by_cases h2:(l.length:Int)<2
 ·have e:cpt eqs l=l:=by
   match l,h2 with
   |[],_=>rfl
   |[x],_=>rfl
   |_::_::_,h=>simp at h;omega
  rw[e];simp(disch:=omega)only[Qb,h2,EVT,Ak,simprocAttr]
 ·-- the inner Ht, from a place where two neighbours are equal
  have inner:∀k:Nat,1≤k→k<l.length→cpt eqs (l.take (k+1))=l.take k→∃s:List (List UInt8),s.length=l.length∧s.take (cpt eqs l).length=cpt eqs l∧Cs9.ev S (l.length+2) [Cs l,.i .i64 (k:Int),Cs l]=some (.yld 2 [.i .i64 ((cpt eqs l).length:Int),Cs s]):=by
   intro k hk1 hk hcp;have key:=I4 (fn:=S) (N:=l.length+2) (η:=[Cs l,.i .i64 (k:Int),Cs l]) (id:=3) (init:=[(.v 1),(.c (.i .i64 (1))),(.v 2)]) (body:=Aq9) (α:=Nat×Nat×List (List UInt8))
    (fun a=>[.i .i64 (a.1:Int),.i .i64 (a.2.1:Int),Cs a.2.2])
    (fun o=>∃s:List (List UInt8),s.length=l.length∧s.take (cpt eqs l).length=cpt eqs l∧o= .yld 2 [.i .i64 ((cpt eqs l).length:Int),Cs s])
    (fun a=>1≤a.2.1∧k+a.2.1≤l.length∧a.1<k+a.2.1∧a.2.2.length=l.length∧a.2.2.take a.1=cpt eqs (l.take (k+a.2.1))∧(cpt eqs (l.take (k+a.2.1))).length=a.1∧a.2.2.drop (k+a.2.1 - 1)=l.drop (k+a.2.1 - 1))
    (fun a=>l.length - a.2.1) (k,1,l) (by simp(disch:=omega)only[EVT,Ak,simprocAttr])
    ⟨by simp,by simp;omega,by simp,rfl,by simp only;rw[hcp],by simp only;rw[hcp,Cq];omega,rfl⟩ (by simp only;omega) ?_
   ·obtain⟨o,h3,s,h4,h5,rfl⟩:=key;exact⟨s,h4,h5,h3⟩
   ·rintro⟨i,j,s⟩ ⟨a1,a2,a3,a4,a5,a6,a7⟩;simp only at a1 a2 a3 a4 a5 a6 a7;by_cases hj:k+j<l.length
    ·left;have c1:s[k+j]? =l[k+j]? :=by have:=congrArg (fun q=>q[1]?) a7;simp only[Ch] at this;rwa[show k+j - 1+1=k+j by omega] at this
     have c0:s[k+j - 1]? =l[k+j - 1]? :=by have:=congrArg (fun q=>q[0]?) a7;simpa only[Ch,E1] using this
     have g1:l[k+j]? =some (l[k+j]'hj):=B3 hj;have g0:l[k+j - 1]? =some (l[k+j - 1]'(by omega)):=B3 (by omega);have tk:l.take (k+(j+1))=l.take (k+j)++[l[k+j]'hj]:=by rw[show k+(j+1)=(k+j)+1 by omega,Dm,g1];rfl
     have ne:l.take (k+j)≠[]:=by intro h;have:=congrArg List.length h;rw[Cq,Cl] at this;omega
     have gl:(l.take (k+j)).getLast ne=l[k+j - 1]'(by omega):=by rw[K2];simp only[Ax1,Cq];congr 1;omega
     have cs:=O0 eqs (l[k+j]'hj) (l.take (k+j)) ne;rw[←tk,gl] at cs;generalize l[k+j]'hj=x at*;generalize l[k+j - 1]'(by omega)=y at*;have hjj:(j:Int)<(s.length:Int) - (k:Int):=by omega
     have i1:Hy 1 (Cs s) (.i .i64 ((k:Int)+(j:Int)))=some (.s x):=by rw[On _ _ _ (by omega),show ((k:Int)+(j:Int)).toNat=k+j by omega,c1,g1];rfl
     have i0:Hy 1 (Cs s) (.i .i64 ((k:Int)+((j:Int) - 1)))=some (.s y):=by rw[On _ _ _ (by omega),show ((k:Int)+((j:Int) - 1)).toNat=k+j - 1 by omega,c0,g0];rfl
     have ls:Ix 1 (Cs s) (.i .i64 (k:Int)) (.i .i64 (s.length:Int))=some (Cs (s.drop k)):=by rw[J8 _ _ _ _ _ (by omega) (by omega) (by omega)];simp
     have e1:(s.drop k)[j]? =some x:=by rw[Ch,c1,g1]
     have e0:(s.drop k)[j - 1]? =some y:=by rw[Ch,show k+(j - 1)=k+j - 1 by omega,c0,g0]
     have si:∃w,s[i]? =some w:=⟨_,B3 (by omega)⟩;obtain⟨w,si⟩:=si;have ej:((j:Int) - 1).toNat=j - 1:=by omega
     by_cases hxy:x=y
     ·refine⟨(i,j+1,s),?_,⟨by simp,by simp only;omega,by simp only;omega,a4,?_,?_,?_⟩,by simp only;omega⟩
      ·simp(disch:=omega)only[Qb,hjj,i1,i0,ls,e1,e0,ej,hxy,EVT,Ak,simprocAttr]
      ·simp only;rw[cs,a5];simp[eqs,hxy]
      ·simp only;rw[cs,B0,a6];simp[eqs,hxy]
      ·simp only;rw[show k+(j+1) - 1=(k+j - 1)+1 by omega,←D9,←D9,a7]
     ·refine⟨(i+1,j+1,s.set i x),?_,⟨by simp,by simp only;omega,by simp only;omega,by simpa using a4,?_,?_,?_⟩,by simp only;omega⟩
      ·simp(disch:=omega)only[Qb,hjj,i1,i0,ls,e1,e0,ej,si,hxy,EVT,Ak,simprocAttr]
      ·simp only;rw[cs,Dm,List.getElem?_set_self (by omega),List.take_set_of_le (by omega),a5];simp[eqs,hxy]
      ·simp only;rw[cs,B0,a6];simp[eqs,hxy]
      ·simp only;rw[show k+(j+1) - 1=(k+j - 1)+1 by omega,U4 (by omega),←D9,←D9,a7]
    ·right;have ek:k+j=l.length:=by omega
     rw[ek,Ex] at a5 a6;have hjj:¬(j:Int)<(s.length:Int) - (k:Int):=by omega
     refine⟨.yld 2 [.i .i64 (i:Int),Cs s],?_,rfl,s,a4,by rw[a6];exact a5,by rw[a6]⟩;simp(disch:=omega)only[Qb,hjj,EVT,Ak,simprocAttr]
  have key:Dj6.ev S (l.length+2) [Cs l]=some (if cpt eqs l=l then .yld 0 [Cs l] else .ret [Cs (cpt eqs l)]):=by
   have:=I4 (fn:=S) (N:=l.length+2) (η:=[Cs l]) (id:=1) (init:=[(.c (.i .i64 (1))),(.v 0)]) (body:=Av3) (α:=Nat)
    (fun k=>[.i .i64 (k:Int),Cs l]) (fun o=>o=if cpt eqs l=l then .yld 0 [Cs l] else .ret [Cs (cpt eqs l)])
    (fun k=>1≤k∧k≤l.length∧cpt eqs (l.take k)=l.take k) (fun k=>l.length - k) 1 (by simp(disch:=omega)only[EVT,Ak,simprocAttr])
    ⟨B7 1,by omega,by cases l with
     |nil=>simp at h2
     |cons x r=>rfl⟩ (by omega) ?_
   ·obtain⟨o,h3,h4⟩:=this;rw[←h4];exact h3
   ·rintro k ⟨k1,k2,k3⟩;by_cases hk:k<l.length
    ·have g1:l[k]? =some l[k]:=B3 hk;have g0:l[k - 1]? =some (l[k - 1]'(by omega)):=B3 (by omega);have tk:l.take (k+1)=l.take k++[l[k]]:=by rw[Dm,g1];rfl
     have ne:l.take k≠[]:=by intro h;have:=congrArg List.length h;rw[Cq,Cl] at this;omega
     have gl:(l.take k).getLast ne=l[k - 1]'(by omega):=by rw[K2];simp only[Ax1,Cq];congr 1;omega
     have cs:=O0 eqs l[k] (l.take k) ne;rw[←tk,gl,k3] at cs;have hkk:(k:Int)<(l.length:Int):=by omega
     have i1:Hy 1 (Cs l) (.i .i64 (k:Int))=some (.s l[k]):=by rw[On _ _ _ (by omega),show ((k:Int)).toNat=k by omega,g1];rfl
     have i0:Hy 1 (Cs l) (.i .i64 ((k:Int) - 1))=some (.s (l[k - 1]'(by omega))):=by rw[On _ _ _ (by omega),show ((k:Int) - 1).toNat=k - 1 by omega,g0];rfl
     by_cases hxy:l[k]=l[k - 1]'(by omega)
     ·right;have cs':cpt eqs (l.take (k+1))=l.take k:=by rw[cs];simp[eqs,hxy]
      obtain⟨s,s1,s2,s3⟩:=inner k k1 hk cs';have hlt:cpt eqs l≠l:=by
       intro h;have q:(cpt eqs l).length≤(cpt eqs (l.take (k+1))).length+(l.drop (k+1)).length:=by
        have:∀(b a:List (List UInt8)),a≠[]→(cpt eqs (a++b)).length≤(cpt eqs a).length+b.length:=by
         intro b
         induction b with
         |nil=>intro a _;simp
         |cons x r ih=>
          intro a ha;have h1:=ih (a++[x]) (by simp);rw[O0 _ _ _ ha] at h1;rw[show a++x::r=a++[x]++r by simp];refine Dy h1 ?_;rw[B0];split<;>simp<;>omega
        have h3:=this (l.drop (k+1)) (l.take (k+1)) (by intro h;have:=congrArg List.length h;rw[Cq,Cl] at this;omega);rwa[C9] at h3
       rw[h,cs',Cq,Dv] at q;omega
      have hlen:=i7 eqs l;refine⟨.ret [Cs (cpt eqs l)],?_,rfl,by rw[if_neg hlt]⟩;generalize cpt eqs l=fl at*;have ls:Ix 1 (Cs l) (.i .i64 (k:Int)) (.i .i64 (l.length:Int))=some (Cs (l.drop k)):=by rw[J8 _ _ _ _ _ (by omega) (by omega) (by omega)];simp
      have hsl1:Ix 1 (Cs s) (.i .i64 ((fl.length:Nat):Int)) (.i .i64 (s.length:Int))=some (Cs (s.drop fl.length)):=by rw[J8 _ _ _ _ _ (by omega) (by omega) (by omega)];simp
      have hsl2:Ix 1 (Cs s) (.i .i64 0) (.i .i64 ((fl.length:Nat):Int))=some (Cs fl):=by rw[J8 _ _ _ _ _ (by omega) (by omega) (by omega)];simp[s2]
      have hrep:Lg 1 (.i .i64 ((s.length:Int) - (fl.length:Int))) (.s [])=some (Cs (List.replicate (s.length - fl.length) [])):=by rw[Ag9 _ (by omega) (by omega)];congr 3;omega
      have happ:Ip 1 (Cs fl) (Cs (List.replicate (s.length - fl.length) []))=some (Cs (fl++List.replicate (s.length - fl.length) [])):=jm _ _ (by simp;omega);have hsl3:Ix 1 (Cs (fl++List.replicate (s.length - fl.length) [])) (.i .i64 0) (.i .i64 ((fl.length:Nat):Int))=some (Cs fl):=by rw[J8 _ _ _ _ _ (by omega) (by omega) (by simp;omega)];simp
      simp(disch:=omega)only[Qb,hkk,i1,i0,hxy,ls,s3,hsl1,hsl2,hrep,happ,hsl3,EVT,Ak,simprocAttr]
     ·left;refine⟨k+1,?_,⟨by omega,by omega,?_⟩,by omega⟩
      ·simp(disch:=omega)only[Qb,hkk,i1,i0,hxy,EVT,Ak,simprocAttr]
      ·rw[cs,tk];simp[eqs,hxy]
    ·right;have e:k=l.length:=by omega
     subst e;rw[Ex] at k3;refine⟨_,?_,?_,rfl⟩
     ·rw[if_pos k3];simp(disch:=omega)only[Qb,EVT,Ak,simprocAttr]
     ·rw[if_pos k3];rfl
  by_cases h:cpt eqs l=l
  ·rw[if_pos h] at key;rw[h];simp(disch:=omega)only[Qb,h2,key,EVT,Ak,simprocAttr]
  ·rw[if_neg h] at key;simp(disch:=omega)only[Qb,h2,key,EVT,Ak,simprocAttr]
end Go.X.G
/- Types of records: the program's table. -/
namespace Go.X.G
open Go Go.X
structure Kd where
 num:Int
 mne:List UInt8
 fls:List UInt8
def Kd.pv (k:Kd):PV:= .a [.i .i64 k.num,.s k.mne,.s k.fls]
def zb (l:List Kd):PV:= .l 3 (l.map Kd.pv)
def kds:List Kd:=[⟨1,[65],[52]⟩,⟨2,[78,83],[104]⟩,⟨5,[67,78,65,77,69],[104]⟩,⟨6,[83,79,65],[104,109,118,119,120,121,122]⟩,⟨12,[80,84,82],[104]⟩,⟨15,[77,88],[65,104]⟩,⟨16,[84,88,84],[116]⟩,⟨28,[65,65,65,65],[54]⟩,⟨33,[83,82,86],[65,66,67,104]⟩,⟨39,[68,78,65,77,69],[104]⟩,⟨43,[68,83],[65,98,99,114]⟩,⟨46,[82,82,83,73,71],[65,115,98,120,121,122,70,104,114]⟩,⟨47,[78,83,69,67],[104,110]⟩,⟨48,[68,78,83,75,69,89],[65,98,99,114]⟩]
def eq (k:Kd):C2 0 k.pv=some (.i .i64 k.num):=rfl
def d9 (k:Kd):C2 1 k.pv=some (.s k.mne):=rfl
def Ey (k:Kd):C2 2 k.pv=some (.s k.fls):=rfl
def Bt7 (k:Kd):Jt 0 3 k.pv=some k.pv:=rfl
def T5 (k:Kd):Rx 3 k.pv=some k.pv:=rfl
def S9 (l:List Kd):G8 (zb l)=some (.i .i64 (l.length:Int)):=by simp[zb,G8]
def zd (l:List Kd) (k:IntKind) (z:Int) (h:0≤z):Hy 3 (zb l) (.i k z)=(l[z.toNat]?).map Kd.pv:=by simp[zb,Xj _ _ _ _ h]
def Am1:S ax 0 []=some [zb kds]:=Gr8 (N:=1) rfl (by kernel_rfl)
def Xz (k:Kd):PV.flat k.pv=true:=rfl
def Am5 (t:Int):S Bb0 1 [.i .i64 t]=some (match kds.find? (fun k=>decide (k.num=t)) with|some k=>[k.pv,.b true]|none=>[Kd.pv ⟨0,[],[]⟩,.b false]):=by
 refine Ix6 (N:=20) rfl ?_;have key:∀l:List Kd,l.length≤15→Fv5.ev S 20 [.i .i64 t,zb l]=some (match l.find? (fun k=>decide (k.num=t)) with|some k=> .ret [k.pv,.b true]|none=> .yld 0 [.i .i64 0,.s [],.s []]):=by
  intro l hl;refine F2 l (fun i=>[.i .i64 (i:Int),.i .i64 0,.s [],.s []]) (fun i r=>match r.find? (fun k=>decide (k.num=t)) with|some k=> .ret [k.pv,.b true]|none=> .yld 0 [.i .i64 0,.s [],.s []]) rfl (by omega) (fun i c r hd hi hc=> ?_) ?_
  ·by_cases h:c.num=t
   ·right;simp(disch:=omega)only[Bp0,hc,h,eq,d9,Ey,Bt7,T5,S9,zd,Av,simprocAttr];simp[h,Out.goes]
   ·left;simp(disch:=omega)only[Bp0,hc,h,eq,d9,Ey,Bt7,T5,S9,zd,Av,simprocAttr];simp[h]
  ·simp(disch:=omega)only[Bp0,eq,d9,Ey,Bt7,T5,S9,zd,Av,simprocAttr];simp[Out.goes]
 have hk:=key kds (by decide);have hkd:=Am1;cases h:kds.find? (fun k=>decide (k.num=t)) with
 |some k=>
  rw[h] at hk;simp(disch:=omega)only[Bp0,hkd,hk,S9,Av,simprocAttr]
 |none=>
  rw[h] at hk;simp(disch:=omega)only[Bp0,hkd,hk,S9,Av,simprocAttr];rfl
def An6 (t:Int):(kds.find? (fun k=>decide (k.num=t))).isSome=knw t:=by
 rw[D6,List.find?_isSome];simp[kds,knw]
 grind
def Ev (t:Int):S yr 1 [.i .i64 t]=some [.b (knw t)]:=by
 refine Id0 (N:=1) rfl ?_;have h:=Am5 t;have h2:=An6 t;cases hk:kds.find? (fun k=>decide (k.num=t)) with
 |some k=>
  rw[hk] at h h2;simp only[Option.isSome_some] at h2;simp(disch:=omega)only[Gc4,h,Xz,T5,Av,simprocAttr];rw[←h2]
 |none=>
  rw[hk] at h h2;simp only[Nk] at h2;simp(disch:=omega)only[Gc4,h,Xz,T5,Av,simprocAttr];rw[←h2]
end Go.X.G
/- Tasks: what the program's small functions give. -/
namespace Go.X.G
open Go Go.X
structure TOk (t:Tk) (k:Nat):Prop where
 q:t.q.wf
 name:Hv t.name
 zone:Hv t.zone
 hostsL:t.hosts.length≤16
 hosts:∀h∈t.hosts,Hv h
 addrs:t.addrs.length≤16
 tried:t.tried.length≤k
 more0:0≤t.more
 more1:t.more≤10+k
 asked:t.asked.wf
 sent0:0≤t.sent
 sent1:t.sent≤64
 chain:t.chain.length≤k
 small:k≤900000
def Dm4 (t:Tk):Ques:=⟨t.name,t.q.typ⟩
def Fk5 (t:Tk):S Bc3 1 [t.pv]=some [(Dm4 t).pv]:=by
 refine Ic4 (N:=1) rfl ?_;simp(disch:=omega)only[Ht7,EVT,Ak,simprocAttr]
 try rfl
def Fq (t:Tk):Tk:=
 if t.addrs.any (fun a=> !decide (a∈t.tried))=true then {t with state:=0}
 else if t.hosts.any (fun h=> !under h t.zone)=true then {t with state:=2}
 else {t with state:=4,err:=29}
def xl (t:Tk) (a:Adr) (h:t.tried.length≤1000000):S Bz8 1 [a.pv,t.pv]=some [.b (!decide (a∈t.tried))]:=by refine Ix2 (N:=1) rfl ?_;have h1:=Lv t.tried a h;simp(disch:=omega)only[Hs1,h1,EVT,Ak,simprocAttr]
def xh (t:Tk) (x:List UInt8) (h:Hv x) (hz:Hv t.zone):S Bz6 1 [.s x,t.pv]=some [.b (!under x t.zone)]:=by refine Ix0 (N:=1) rfl ?_;have h1:=Ep x t.zone h hz;simp(disch:=omega)only[Hr9,h1,EVT,Ak,simprocAttr]
def Ss (t:Tk) (h1:t.addrs.length≤1000000) (h2:t.tried.length≤1000000) (h3:t.hosts.length≤1000000) (h4:∀h∈t.hosts,Hv h) (hz:Hv t.zone):S yp 1 [t.pv]=some [(Fq t).pv]:=by
 refine Ic7 (N:=1) rfl ?_;have k1:=U1 t.addrs Bz8 [t.pv] _ h1 (fun a _=>xl t a h2);have k2:=M5 t.hosts Bz6 [t.pv] _ h3 (fun a ha=>xh t a (h4 a ha) hz);rcases Bm (t.addrs.any (fun a=> !decide (a∈t.tried))) with c1|c1
 ·rw[c1] at k1;rw[show Fq t={t with state:=0} by unfold Fq;rw[if_pos c1]];simp(disch:=omega)only[Fc9,k1,EVT,Ak,simprocAttr]
 ·rw[c1] at k1;rcases Bm (t.hosts.any (fun h=> !under h t.zone)) with c2|c2
  ·rw[c2] at k2;rw[show Fq t={t with state:=2} by unfold Fq;rw[if_neg (by rw[c1];simp),if_pos c2]];simp(disch:=omega)only[Fc9,k1,k2,EVT,Ak,simprocAttr]
  ·rw[c2] at k2;rw[show Fq t={t with state:=4,err:=29} by unfold Fq;rw[if_neg (by rw[c1];simp),if_neg (by rw[c2];simp)]];simp(disch:=omega)only[Fc9,k1,k2,EVT,Ak,simprocAttr]
def U6 (t:Tk):Tk:=Fq {t with tried:=t.tried++[t.dst]}
def At8 (t:Tk) {k:Nat} (h:TOk t k):S Cn2 1 [t.pv]=some [(U6 t).pv]:=by
 refine Ic1 (N:=1) rfl ?_;have hs:=h.small;have ht:=h.tried;have hh:=h.hostsL;have ha:=h.addrs;have h1:=X9 t.tried (by omega);have h2:=Ss {t with tried:=t.tried++[t.dst]} (by simp only;omega) (by simp;omega) (by simp only;omega) h.hosts h.zone;have h3:=ul t.tried t.dst (by omega);simp(disch:=omega)only[Ht5,h1,h2,h3,EVT,Ak,simprocAttr]
 try rfl
def cp (t:Tk) (more:Int):Tk:={t with state:=0,more:=more,tried:=[]}
def jp (t:Tk) (m:Int):S yn 2 [t.pv,.i .i64 m]=some [(cp t m).pv]:=by
 refine Ic0 (N:=1) rfl ?_;simp(disch:=omega)only[Ht4,EVT,Ak,simprocAttr]
 try rfl
def Ax4:Msg:=⟨0,0,0,false,false,false,false,false,false,false,false,0,⟨[],0⟩,[],[],[]⟩
def sendT (t:Tk) (a:Adr):Tk×Msg×Bool:=
 if t.state≠0∨a∉t.addrs∨a∈t.tried then(t,Ax4,false)
 else if 64≤t.sent then({t with state:=4,err:=9},Ax4,false)
 else({t with dst:=a,asked:=(nextQ (Dm4 t) t.zone t.more).1,state:=1,sent:=t.sent+1},{Ax4 with dok:=true,size:=1232,q:=(nextQ (Dm4 t) t.zone t.more).1},true)
def Ck1 (t:Tk) (a:Adr) {k:Nat} (h:TOk t k):S Gz0 2 [t.pv,a.pv]=some [(sendT t a).1.pv,(sendT t a).2.1.pv,.b (sendT t a).2.2]:=by
 refine Jx7 (N:=1) rfl ?_;have hs:=h.small;have ht:=h.tried;have ha:=h.addrs;have m0:=h.more0;have m1:=h.more1;have s0:=h.sent0;have s1:=h.sent1;have h1:=Lv t.addrs a (by omega);have h2:=Lv t.tried a (by omega);have h4:=Gy1 ⟨t.name,t.q.typ⟩ t.zone t.more ⟨h.name,h.q.2⟩ h.zone ⟨by omega,by omega⟩;unfold sendT;by_cases c0:t.state=0
 ·by_cases c1:a∈t.addrs
  ·by_cases c2:a∈t.tried
   ·simp(disch:=omega)only[Gb7,h1,h2,c0,c1,c2,EVT,Ak,simprocAttr]
    try rfl
   ·by_cases c3:64≤t.sent
    ·have c3':t.sent≥64:=c3;simp(disch:=omega)only[Gb7,h1,h2,c0,c1,c2,c3',EVT,Ak,simprocAttr]
     try simp[c0,c1,c2,c3]
     rfl
    ·have c3':¬t.sent≥64:=c3;simp(disch:=omega)only[Gb7,h1,h2,Fk5,Dm4,h4,c0,c1,c2,c3',EVT,Ak,simprocAttr]
     try simp[c0,c1,c2,c3]
     rfl
  ·simp(disch:=omega)only[Gb7,h1,h2,c0,c1,EVT,Ak,simprocAttr]
   try rfl
 ·simp(disch:=omega)only[Gb7,h1,h2,c0,EVT,Ak,simprocAttr]
  try rfl
end Go.X.G
/- Tasks begun; records found; glue. -/
namespace Go.X.G
open Go Go.X
def zTk:Tk:=⟨⟨[],0⟩,[],[],[],[],[],0,0,⟨false,0,0⟩,⟨[],0⟩,0,[],Ax4,0⟩
def startT (q:Ques) (zone:List UInt8) (hosts:List (List UInt8)) (addrs:List Adr):Tk×Int:=
 if under q.name zone=false then(zTk,2)
 else if knw q.typ=false∧q.typ≠255 then(zTk,4)
 else(Fq ⟨q,q.name,zone,hosts.take 16,addrs.take 16,[],0,0,⟨false,0,0⟩,⟨[],0⟩,0,[],Ax4,0⟩,0)
def start_ok (q:Ques) (zone:List UInt8) (hosts:List (List UInt8)) (addrs:List Adr) (hq:q.wf) (hz:Hv zone) (hh:hosts.length≤1000000) (hw:∀h∈hosts,Hv h) (ha:addrs.length≤1000000):
  S Gz1 4 [q.pv,.s zone,Cs hosts,D7 addrs]=some [(startT q zone hosts addrs).1.pv,.i .i64 (startT q zone hosts addrs).2]:=by
 refine Jx8 (N:=1) rfl ?_;have h1:=Ep q.name zone hq.1 hz;have h2:=Ev q.typ;have h3:=Dv4 hosts hh;have h4:=Dv5 addrs ha;have h5:=Ss ⟨q,q.name,zone,hosts.take 16,addrs.take 16,[],0,0,⟨false,0,0⟩,⟨[],0⟩,0,[],Ax4,0⟩ (by simp;omega) (by simp) (by simp;omega) (fun h hm=>hw h (Eg hm)) hz;have ez:Ax4=⟨0,0,0,false,false,false,false,false,false,false,false,0,⟨[],0⟩,[],[],[]⟩:=rfl;rw[ez] at h5;rcases Bm (under q.name zone) with c1|c1
 ·rw[c1] at h1;by_cases c2:knw q.typ=false∧q.typ≠255
  ·obtain⟨c2,c3⟩:=c2;rw[c2] at h2;rw[show startT q zone hosts addrs=(zTk,4) by unfold startT;rw[if_neg (by rw[c1];simp),if_pos ⟨c2,c3⟩]];simp(disch:=omega)only[Hn3,h1,h2,c3,EVT,Ak,simprocAttr]
   try rfl
  ·rw[show startT q zone hosts addrs=(Fq ⟨q,q.name,zone,hosts.take 16,addrs.take 16,[],0,0,⟨false,0,0⟩,⟨[],0⟩,0,[],Ax4,0⟩,0) by unfold startT;rw[if_neg (by rw[c1];simp),if_neg c2]];rw[ez];rcases Bm (knw q.typ) with c3|c3
   ·rw[c3] at h2;simp(disch:=omega)only[Hn3,h1,h2,h3,h4,h5,EVT,Ak,simprocAttr]
   ·rw[c3] at h2;have c4:q.typ=255:=Classical.byContradiction fun h=>c2 ⟨c3,h⟩;rw[c4] at h2;obtain⟨n,ty⟩:=q;simp only at c4;subst c4;simp(disch:=omega)only[Hn3,h1,h2,h3,h4,h5,EVT,Ak,simprocAttr]
 ·rw[c1] at h1;rw[show startT q zone hosts addrs=(zTk,2) by unfold startT;rw[if_pos c1]];simp(disch:=omega)only[Hn3,h1,EVT,Ak,simprocAttr]
  try rfl
def Hp5 (m:Msg) (h:List UInt8) (r:Rec):Bool:=((decide (r.typ=2) && decide (r.data.host=h)) && under m.q.name r.name) && under h r.name
def Dh6 (l:List Rec):List Adr:=l.map fun r=>r.data.adr
def Y0 (m:Msg) (h:List UInt8):List Adr:=if m.auth.any (Hp5 m h)=true then Dh6 (findR m.ext h 1)++Dh6 (findR m.ext h 28) else []
def Et4 (m:Msg) (h:List UInt8) (r:Rec) (hm:m.wf) (hh:Hv h) (hr:r.wf):S Z9 1 [r.pv,.s h,m.pv]=some [.b (Hp5 m h r)]:=by
 refine Gr1 (N:=1) rfl ?_;have h1:=Ep m.q.name r.name hm.q.1 hr.name;have h2:=Ep h r.name hh hr.name;unfold Hp5;by_cases c1:r.typ=2
 ·by_cases c2:r.data.host=h
  ·rcases Bm (under m.q.name r.name) with c3|c3
   ·rw[c3] at h1 ⊢;simp(disch:=omega)only[Ay0,c1,c2,h1,h2,EVT,Ak,simprocAttr]
    try simp
   ·rw[c3] at h1 ⊢;simp(disch:=omega)only[Ay0,c1,c2,h1,EVT,Ak,simprocAttr]
    try simp
  ·simp(disch:=omega)only[Ay0,c1,c2,EVT,Ak,simprocAttr]
   try simp
 ·simp(disch:=omega)only[Ay0,c1,EVT,Ak,simprocAttr]
  try simp
def Gy6 (fl:List Rec) (g0:List Adr) (p0 p1 p2 p4:PV) (hl:fl.length≤1000000) (hg0:g0.length≤1000000) (N:Nat) (hN:fl.length<N):
  Fq4.ev S N [p0,p1,p2,D7 g0,p4,B6 fl]=some (.yld 2 [D7 (g0++Dh6 fl)]):=by
 refine Fc fl (fun i g=>[D7 g,.i .i64 (i:Int)]) (fun i g r=> .yld 2 [D7 (g++Dh6 r)]) (fun i g=>g.length≤1000000+i) g0 rfl (by omega) hN (fun i g c r hd hi hc hg=> ?_) (fun g hg=> ?_)
 ·left;refine⟨g++[c.data.adr],?_,by simp;omega,by simp[Dh6]⟩;simp(disch:=omega)only[At3,hc,EVT,Ak,simprocAttr]
 ·simp(disch:=omega)only[At3,EVT,Ak,simprocAttr]
  try simp[Out.goes,Dh6]
def Gy5 (m:Msg) (h:List UInt8) (hm:MOk m) (hh:Hv h):S Cl3 2 [m.pv,.s h]=some [D7 (Y0 m h)]:=by
 refine Iw3 (N:=20010) rfl ?_;have ha:=hm.auth;have he:=hm.ext;have k1:=F6 m.auth Z9 [.s h,m.pv] _ (by omega) (fun r hr=>Et4 m h r hm.wf hh (hm.wf.auth.2 r hr));have hlit:Lz 1 [.i .i64 1,.i .i64 28]=some (.l 1 ([(1:Int),28].map (.i .i64))):=rfl;unfold Y0;rcases Bm (m.auth.any (Hp5 m h)) with c|c
 ·rw[c] at k1 ⊢;have key:Fv1.ev S 20010 [m.pv,.s h,.b true]=some (.yld 0 [D7 ([]++[(1:Int),28].flatMap fun t=>Dh6 (findR m.ext h t))]):=by
   refine Fc [(1:Int),28] (fun i g=>[D7 g,.i .i64 (i:Int)]) (fun i g r=> .yld 0 [D7 (g++r.flatMap fun t=>Dh6 (findR m.ext h t))]) (fun i g=>g.length≤10000*i) [] rfl (by simp) (by simp) (fun i g c r hd hi hc hg=> ?_) (fun g hg=> ?_)
   ·left;have hi2:i<2:=hi;have hf:=Nt m.ext h c;have hF:=Lq m.ext h c (by omega);have hI:=Gy6 (findR m.ext h c) g m.pv (.s h) (.b true) (.i .i64 (i:Int)) (by omega) (by omega) 20010 (by omega);have hix:Hy 1 (.l 1 ([(1:Int),28].map (.i .i64))) (.i .i64 (i:Int))=some (.i .i64 c):=by rw[Xj _ _ _ _ (by omega),Fj7,C6,hc];rfl
    refine⟨g++Dh6 (findR m.ext h c),?_,by simp[Dh6];omega,by simp⟩;simp(disch:=omega)only[At3,hlit,hix,hF,hI,E5,Cw,Cl,EVT,Ak,simprocAttr]
   ·have hl2:([(1:Int),28]).length=2:=rfl;rw[hl2] at hg ⊢;simp(disch:=omega)only[At3,hlit,E5,Cw,Cl,EVT,Ak,simprocAttr]
    try simp[Out.goes]
  simp only[Dp,Hk,List.flatMap_nil,E6] at key;simp(disch:=omega)only[At3,k1,key,hlit,E5,Cw,Cl,EVT,Ak,simprocAttr]
 ·rw[c] at k1 ⊢;simp(disch:=omega)only[At3,k1,EVT,Ak,simprocAttr]
def sk (m:Msg) (h:List UInt8):(Y0 m h).length≤2*m.ext.length:=by
 unfold Y0;split
 ·have h1:=Nt m.ext h 1;have h2:=Nt m.ext h 28;simp[Dh6];omega
 ·simp
end Go.X.G
/- Tasks that are referred, and that follow aliases. -/
namespace Go.X.G
open Go Go.X
def Bl4 (acc:List Adr):List Adr→List Adr
 |[]=>acc
 |a::r=>if a∈acc then Bl4 acc r else Bl4 (acc++[a]) r
def Vn:∀(l acc:List Adr),(Bl4 acc l).length≤acc.length+l.length
 |[],acc=>by simp[Bl4]
 |a::r,acc=>by
  unfold Bl4;split
  ·have:=Vn r acc;simp;omega
  ·have:=Vn r (acc++[a]);simp at this ⊢;omega
def Xv (m:Msg) (acc:List Adr):List (List UInt8)→List Adr
 |[]=>acc
 |h::r=>Xv m (Bl4 acc (Y0 m h)) r
def Nb (t:Tk) (m:Msg):Tk:=
 Fq {t with zone:=(childN (insideM m t.zone) t.zone).1,hosts:=(childN (insideM m t.zone) t.zone).2.1.take 16,addrs:=(Xv (insideM m t.zone) [] ((childN (insideM m t.zone) t.zone).2.1.take 16)).take 16,tried:=[],more:=0}
def yq (l:List Adr) (g0:List Adr) (p0 p1 p2 p3 p4 p5 p6 p7 p8:PV) (hp8:p8=D7 g0) (hl:l.length≤100000) (hg0:g0.length≤400000) (N:Nat) (hN:l.length<N):
  Fq8.ev S N [p0,p1,p2,p3,p4,p5,p6,p7,p8,D7 l]=some (.yld 2 [D7 (Bl4 g0 l)]):=by
 subst hp8;refine Fc l (fun i g=>[.i .i64 (i:Int),D7 g]) (fun i g r=> .yld 2 [D7 (Bl4 g r)]) (fun i g=>g.length≤400000+i) g0 rfl (by omega) hN (fun i g c r hd hi hc hg=> ?_) (fun g hg=> ?_)
 ·left;have hC:=Lv g c (by omega);by_cases h1:c∈g
  ·refine⟨g,?_,by omega,by simp[Bl4,h1]⟩;simp(disch:=omega)only[At4,hc,hC,h1,EVT,Ak,simprocAttr]
  ·refine⟨g++[c],?_,by simp;omega,by simp[Bl4,h1]⟩;simp(disch:=omega)only[At4,hc,hC,h1,EVT,Ak,simprocAttr]
 ·simp(disch:=omega)only[At4,EVT,Ak,simprocAttr]
  try simp[Out.goes,Bl4]
def yv (m:Msg) (hs:List (List UInt8)) (p0 p1 p3 p4 p5:PV) (hm:MOk m) (hl:hs.length≤16) (hw:∀h∈hs,Hv h):
  Fx0.ev S 30000 [p0,p1,m.pv,p3,p4,p5,Cs hs]=some (.yld 0 [D7 (Xv m [] hs)]):=by
 have he:=hm.ext;refine Fc hs (fun i g=>[.i .i64 (i:Int),D7 g]) (fun i g r=> .yld 0 [D7 (Xv m g r)]) (fun i g=>g.length≤20000*i) [] rfl (by simp) (by omega) (fun i g c r hd hi hc hg=> ?_) (fun g hg=> ?_)
 ·left;have hG:=Gy5 m c hm (hw c (Cc hc));have hgl:=sk m c;have hI:=yq (Y0 m c) g p0 p1 m.pv p3 p4 p5 (Cs hs) (.i .i64 (i:Int)) (D7 g) rfl (by omega) (by omega) 30000 (by omega);have ha:=Vn (Y0 m c) g;refine⟨Bl4 g (Y0 m c),?_,by omega,by simp[Xv]⟩;simp(disch:=omega)only[At4,hc,hG,hI,EVT,Ak,simprocAttr]
 ·simp(disch:=omega)only[At4,EVT,Ak,simprocAttr]
  try simp[Out.goes,Xv]
def sj (m:Msg):∀(hs:List (List UInt8)) (acc:List Adr),(Xv m acc hs).length≤acc.length+2*m.ext.length*hs.length
 |[],acc=>by simp[Xv]
 |h::r,acc=>by unfold Xv;have h1:=sj m r (Bl4 acc (Y0 m h));have h2:=Vn (Y0 m h) acc;have h3:=sk m h;simp only[Cw,Nat.mul_add,Bm8];omega
def Aj6:∀(l:List Rec) (out:List (List UInt8)),(∀r∈l,r.wf)→(∀h∈out,Hv h)→∀h∈dd out l,Hv h
 |[],out,_,ho,h,hh=>ho h (by simpa [dd] using hh)
 |r::rs,out,hl,ho,h,hh=>by
  unfold dd at hh;split at hh
  ·exact Aj6 rs out (fun x hx=>hl x (.tail _ hx)) ho h hh
  ·refine Aj6 rs _ (fun x hx=>hl x (.tail _ hx)) (fun x hx=> ?_) h hh;rcases C4.1 hx with hx|hx
   ·exact ho x hx
   ·simp at hx;subst hx;exact(hl r (.head _)).data.host
def s7 {l:List Rec} {n:List UInt8} {t:Int} {r:Rec} (h:r∈findR l n t):r∈l:=(C0.1 h).1
def Eb6 {m:Msg} {zone:List UInt8} {r:Rec} (h:Ah1 m zone=some r):r∈m.auth:=by
 unfold Ah1 at h;split at h
 ·cases h
 ·exact Px h
def t7 {m:Msg} {zone:List UInt8} (hm:MOk m):Hv (childN m zone).1∧(∀h∈(childN m zone).2.1,Hv h)∧(childN m zone).2.1.length≤1000:=by
 have e0:Hv []:=by simp[Hv]
 unfold childN;split
 ·split
  ·rename_i r hr;refine⟨(hm.wf.auth.2 r (Eb6 hr)).name,?_,?_⟩
   ·exact Aj6 _ _ (fun x hx=>hm.wf.auth.2 x (s7 hx)) (by simp)
   ·have h1:=Dx7 (findR m.auth r.name 2) [];have h2:=Nt m.auth r.name 2;have h3:=hm.auth;simp only[Cl] at h1;show (dd [] (findR m.auth r.name 2)).length≤1000;omega
  ·exact⟨e0,by simp,by simp⟩
 ·exact⟨e0,by simp,by simp⟩
def yj (t:Tk) (m:Msg) {k:Nat} (h:TOk t k) (hm:MOk m):S Cn3 2 [t.pv,m.pv]=some [(Nb t m).pv]:=by
 refine Ic2 (N:=30000) rfl ?_;have h1:=N9 m t.zone hm.wf h.zone hm.ans hm.auth (Dy hm.ext (by decide));have h2:=Dl9 m t.zone hm h.zone;unfold Nb;have hi:=hm.inside t.zone;generalize insideM m t.zone=x at*;obtain⟨c1,c2,c3⟩:=t7 (zone:=t.zone) hi;generalize childN x t.zone=c at*;obtain⟨cz,ch,cb⟩:=c;simp only at c1 c2 c3;simp only[Dy5] at h2;have h3:=Dv4 ch (by omega);have h4:(ch.take 16).length≤16:=by simp;omega
 have h5:=fun p0 p1 p3 p4 p5=>yv x (ch.take 16) p0 p1 p3 p4 p5 hi h4 (fun h hm=>c2 h (Eg hm));have h6:=sj x (ch.take 16) [];have h6':2*x.ext.length*(ch.take 16).length≤20000*16:=Ir (by have:=hi.ext;omega) h4;have h7:=Dv5 (Xv x [] (ch.take 16)) (by rw[Cl] at h6;omega);have h8:=Ss {t with zone:=cz,hosts:=ch.take 16,addrs:=(Xv x [] (ch.take 16)).take 16,tried:=[],more:=0} (by simp;omega) (by simp) (by simp only;omega) (fun h hm=>c2 h (Eg hm)) c1;simp only;simp(disch:=omega)only[At4,h1,h2,h3,h5,h7,h8,EVT,Ak,simprocAttr]
def u4 (r:Rec) (t:Tk):S Bz4 1 [r.pv,t.pv]=some [.b (decide (r.name=t.name) && (decide (r.typ=t.q.typ)||decide (t.q.typ=255)))]:=by refine Iw1 (N:=1) rfl ?_;by_cases h1:r.name=t.name<;>by_cases h2:r.typ=t.q.typ<;>by_cases h3:t.q.typ=255<;>simp(disch:=omega)only[Hr7,h1,h2,h3,EVT,Ak,simprocAttr]<;>simp[h1,h2,h3]
def Aw0 (m:Msg) (t:Tk) (hl:m.ans.length≤1000000):S Cl2 0 [m.pv,t.pv]=some [.b (Xq m.ans t.name t.q.typ)]:=by refine Iw2 (N:=1) rfl ?_;have h1:=F6 m.ans Bz4 [t.pv] _ hl (fun r _=>u4 r t);unfold Xq;simp(disch:=omega)only[Hr8,h1,EVT,Ak,simprocAttr]
def Av9 (r:Rec) (t:Tk):S Bz3 1 [r.pv,t.pv]=some [.b (decide (r.name=t.name))]:=by refine Iw0 (N:=1) rfl ?_;simp(disch:=omega)only[Hr6,EVT,Ak,simprocAttr]
def folC (l:List Rec) (ty:Int):Nat→List UInt8→List Rec→List UInt8×List Rec
 |0,n,c=>(n,c)
 |k+1,n,c=>if Xq l n ty=true then(n,c) else match findR l n 5 with
  |[]=>(n,c)
  |r::_=>folC l ty k r.data.host (c++[r])
def R4 (t:Tk) (m:Msg):Tk:=
 let p:=folC (insideM m t.zone).ans t.q.typ 8 t.name t.chain
 if p.1=t.q.name∨p.2.any (fun r=>decide (r.name=p.1))=true∨8<p.2.length then {t with name:=p.1,chain:=p.2,state:=4,err:=28}
 else if under p.1 t.zone=true then cp {t with name:=p.1,chain:=p.2} 0
 else {t with name:=p.1,chain:=p.2,state:=5}
def g8 (l:List Rec) (ty:Int):∀(k:Nat) (n:List UInt8) (c:List Rec),(folC l ty k n c).2.length≤c.length+k
 |0,n,c=>by simp[folC]
 |k+1,n,c=>by
  unfold folC;split
  ·simp
  ·split
   ·simp
   ·rename_i r _ _;have:=g8 l ty k r.data.host (c++[r]);simp at this ⊢;omega
def Xx (l:List Rec) (ty:Int) (hl:∀r∈l,r.wf):∀(k:Nat) (n:List UInt8) (c:List Rec),Hv n→Hv (folC l ty k n c).1
 |0,n,c,h=>by simpa [folC] using h
 |k+1,n,c,h=>by
  unfold folC;split
  ·exact h
  ·split
   ·exact h
   ·rename_i r rest hf;exact Xx l ty hl k _ _ (hl r (s7 (by rw[hf];exact .head _))).data.host
def Bl3 (t:Tk) (m:Msg) (c0:List Rec) (p1:PV) (hm:MOk m) (hc:c0.length≤1000000):
  Fw9.ev S 20 [t.pv,p1,m.pv,B6 c0]=some (.yld 0 [.s (folC m.ans t.q.typ 8 t.name c0).1,B6 (folC m.ans t.q.typ 8 t.name c0).2]):=by
 have hans:=hm.ans;refine Jc (α:=Nat×List UInt8×List Rec) (fun a=>[.i .i64 (a.1:Int),.s a.2.1,B6 a.2.2]) (fun a=> .yld 0 [.s (folC m.ans t.q.typ (8 - a.1) a.2.1 a.2.2).1,B6 (folC m.ans t.q.typ (8 - a.1) a.2.1 a.2.2).2]) (fun a=>a.1≤8∧a.2.2.length≤1000000+a.1) (fun a=>8 - a.1) (0,t.name,c0) ?_ ⟨by simp,by simpa using hc⟩ (by simp) ?_
 ·simp(disch:=omega)only[EVT,Ak,simprocAttr]
 ·rintro⟨j,n,c⟩ ⟨hj,hcl⟩;simp only at hj hcl ⊢;by_cases h8:j=8
  ·subst h8;right;have e0:¬(((8:Nat):Int)<8):=by omega
   simp(disch:=omega)only[dw,e0,Iz,jw,jx,EVT,Ak,simprocAttr]
   try simp[folC,Out.goes]
  ·have e0:((j:Int)<8):=by omega
   obtain⟨d,hd⟩:∃d,8 - j=d+1:=⟨7 - j,by omega⟩;rw[hd];have hans1:=Aw0 m {t with name:=n,chain:=c} (by omega);simp only at hans1;rcases Bm (Xq m.ans n t.q.typ) with h1|h1
   ·right;rw[h1] at hans1;simp(disch:=omega)only[dw,e0,hans1,Iz,jw,jx,EVT,Ak,simprocAttr]
    try simp[folC,h1,Out.goes]
   ·rw[h1] at hans1;have hF:=Lq m.ans n 5 (by omega);cases hf:findR m.ans n 5 with
    |nil=>
     rw[hf] at hF;right;simp(disch:=omega)only[dw,e0,hans1,hF,Iz,jw,jx,EVT,Ak,simprocAttr]
     try simp[folC,h1,hf,Out.goes]
    |cons r rest=>
     rw[hf] at hF;left;have hne:¬(((r::rest).length:Int)=0):=by simp;omega
     have hix:Hy 16 (B6 (r::rest)) (.i .i64 0)=some r.pv:=rfl;refine⟨(j+1,r.data.host,c++[r]),?_,⟨by simp only;omega,by simp;omega⟩,by simp only;omega,?_⟩
     ·simp(disch:=omega)only[dw,e0,hans1,hF,hne,hix,Iz,jw,jx,EVT,Ak,simprocAttr]
     ·have e8:8 - (j+1)=d:=by omega
      simp[folC,h1,hf,e8]
def Bl2 (t:Tk) (m:Msg) {k:Nat} (h:TOk t k) (hm:MOk m) (hn:∀r∈m.ans,r.wf):S Cn1 2 [t.pv,m.pv]=some [(R4 t m).pv]:=by
 refine Ib9 (N:=20) rfl ?_;have hs:=h.small;have hch:=h.chain;have h1:=N9 m t.zone hm.wf h.zone hm.ans hm.auth (Dy hm.ext (by decide));have hi:=hm.inside t.zone;have hstr:Hv (folC (insideM m t.zone).ans t.q.typ 8 t.name t.chain).1:=Xx _ _ (fun r hr=>hi.wf.ans.2 r hr) 8 _ _ h.name;unfold R4;generalize insideM m t.zone=x at*;have h2:=Oq t.chain (by omega);have h3:=fun p1=>Bl3 t x t.chain p1 hi (by omega);have h4:=g8 x.ans t.q.typ 8 t.name t.chain;generalize folC x.ans t.q.typ 8 t.name t.chain=p at*;obtain⟨pn,pc⟩:=p;simp only at hstr h3 h4 ⊢;have h5:=F6 pc Bz3 [Tk.pv {t with name:=pn,chain:=pc}] _ (by omega) (fun r _=>Av9 r {t with name:=pn,chain:=pc});simp only at h5;have h6:=Ep pn t.zone hstr h.zone;by_cases c1:pn=t.q.name
 ·rw[if_pos (.inl c1)];simp(disch:=omega)only[dw,h1,h2,h3,c1,EVT,Ak,simprocAttr]
 ·rcases Bm (pc.any fun r=>decide (r.name=pn)) with c2|c2
  ·rw[c2] at h5;rw[if_pos (.inr (.inl c2))];simp(disch:=omega)only[dw,h1,h2,h3,h5,c1,EVT,Ak,simprocAttr]
  ·rw[c2] at h5;by_cases c3:8<pc.length
   ·rw[if_pos (.inr (.inr c3))];have c3':(pc.length:Int)>8:=by omega
    simp(disch:=omega)only[dw,h1,h2,h3,h5,c1,c3',EVT,Ak,simprocAttr]
   ·rw[if_neg (by rintro (h|h|h);exact c1 h;rw[c2] at h;cases h;exact c3 h)];have c3':¬(pc.length:Int)>8:=by omega
    rcases Bm (under pn t.zone) with c4|c4
    ·rw[c4] at h6;rw[if_pos c4];simp(disch:=omega)only[dw,h1,h2,h3,h5,h6,c1,c3',jp,EVT,Ak,simprocAttr]
    ·rw[c4] at h6;rw[if_neg (by rw[c4];simp)];simp(disch:=omega)only[dw,h1,h2,h3,h5,h6,c1,c3',EVT,Ak,simprocAttr]
end Go.X.G
/- Tasks that receive, and that are supplied. -/
namespace Go.X.G
open Go Go.X
end Go.X.G
/- Tasks that receive, and that are supplied, ctd. -/
namespace Go.X.G
open Go Go.X
def Mb (t:Tk) (src:Adr) (m:Msg):Tk:=
 if t.state≠1∨src≠t.dst∨m.q≠t.asked then t
 else if kindM (insideM m t.zone) t.zone=3 then Nb t m
 else if kindM (insideM m t.zone) t.zone=0 then U6 t
 else if t.asked≠Dm4 t∧kindM (insideM m t.zone) t.zone=5 then cp t 10
 else if t.asked≠Dm4 t then cp t (t.more+1)
 else if kindM (insideM m t.zone) t.zone=2 then R4 t m
 else {t with state:=3,last:=insideM m t.zone}
def Bk3 (t:Tk) (src:Adr) (m:Msg) {k:Nat} (h:TOk t k) (hm:MOk m):S Hv6 3 [t.pv,src.pv,m.pv]=some [(Mb t src m).pv]:=by
 refine Jx6 (N:=1) rfl ?_;have hs:=h.small;have m0:=h.more0;have m1:=h.more1;have h1:=vv m t.zone hm h.zone;have h2:=Fk5 t;have h3:=yj t m h hm;have h4:=At8 t h;have h5:=jp t 10;have h6:=jp t (t.more+1);have h7:=Bl2 t m h hm (fun r hr=>hm.wf.ans.2 r hr);have h8:=N9 m t.zone hm.wf h.zone hm.ans hm.auth (Dy hm.ext (by decide));unfold Mb;by_cases c0:t.state=1
 ·by_cases c1:src=t.dst
  ·by_cases c2:m.q=t.asked
   ·generalize kindM (insideM m t.zone) t.zone=kd at*;rw[if_neg (by simp[c0,c1,c2])];by_cases d1:kd=3
    ·simp(disch:=omega)only[Dn7,h1,h2,h3,c0,c1,c2,d1,EVT,Ak,simprocAttr]
    ·by_cases d2:kd=0
     ·subst d2;simp(disch:=omega)only[Dn7,h1,h2,h4,c0,c1,c2,EVT,Ak,simprocAttr]
      try rfl
     ·by_cases d3:t.asked=Dm4 t
      ·by_cases d4:kd=2
       ·subst d4;simp(disch:=omega)only[Dn7,h1,h2,h7,c0,c1,c2,d3,EVT,Ak,simprocAttr]
        try simp
       ·simp(disch:=omega)only[Dn7,h1,h2,h8,c0,c1,c2,d1,d2,d3,d4,EVT,Ak,simprocAttr]
        try simp
      ·by_cases d4:kd=5
       ·subst d4;simp(disch:=omega)only[Dn7,h1,h2,h5,c0,c1,c2,d3,EVT,Ak,simprocAttr]
        try simp
       ·simp(disch:=omega)only[Dn7,h1,h2,h6,c0,c1,c2,d1,d2,d3,d4,EVT,Ak,simprocAttr]
        try simp
   ·simp(disch:=omega)only[Dn7,c0,c1,c2,EVT,Ak,simprocAttr]
    try simp[c2]
  ·simp(disch:=omega)only[Dn7,c0,c1,EVT,Ak,simprocAttr]
   try simp[c1]
 ·simp(disch:=omega)only[Dn7,c0,EVT,Ak,simprocAttr]
  try simp[c0]
end Go.X.G
/- Tasks: what the reference does, first part. -/
namespace Go.X.G
open Go Go.X
end Go.X.G
/- Tasks: what the reference does, second part: messages that are sent, glue, referrals. -/
namespace Go.X.G
open Go Go.X
end Go.X.G
/- Tasks: what the reference does, third part: beginnings, supplies, referrals. -/
namespace Go.X.G
open Go Go.X
end Go.X.G
/- Tasks: what the reference does, fourth part: aliases and responses. -/
namespace Go.X.G
open Go Go.X
end Go.X.G
/- What the laws on tasks are called with. -/
namespace Go.X
structure Begin where
 q:Ques
 zone:List UInt8
 hosts:List (List UInt8)
 addrs:List Adr
structure Actn where
 kind:Int
 n:Int
 odd:Bool
 m:Msg
 host:List UInt8
 addrs:List Adr
def u8r (x:Int):Prop:=0≤x∧x≤255
structure Begin.wf (b:Begin):Prop where
 q:b.q.wf
 zone:Hv b.zone
 hosts:b.hosts.length≤9223372036854775807∧∀h∈b.hosts,Hv h
 addrs:b.addrs.length≤9223372036854775807
structure Actn.wf (a:Actn):Prop where
 kind:u8r a.kind
 n:u8r a.n
 m:a.m.wf
 host:Hv a.host
 addrs:a.addrs.length≤9223372036854775807
def Begin.cells (b:Begin):List PV:=[.s b.q.name,.i .i64 b.q.typ,.s b.zone,Cs b.hosts,D7 b.addrs]
def Begin.pv (b:Begin):PV:= .a b.cells
def Actn.cells (a:Actn):List PV:=[.i .u8 a.kind,.i .u8 a.n,.b a.odd,.i .i64 a.m.id,.i .i64 a.m.op,.i .i64 a.m.code,.b a.m.resp,.b a.m.aa,.b a.m.tc,.b a.m.rd,.b a.m.ra,.b a.m.ad,.b a.m.cd,.b a.m.dok,.i .i64 a.m.size,.s a.m.q.name,.i .i64 a.m.q.typ,B6 a.m.ans,B6 a.m.auth,B6 a.m.ext,.s a.host,D7 a.addrs]
def Actn.pv (a:Actn):PV:= .a a.cells
def As8 (l:List Actn):PV:= .l 22 (l.map Actn.pv)
def Cg2 (a:Actn):C2 0 a.pv=some (.i .u8 a.kind):=rfl
def Cg1 (a:Actn):C2 1 a.pv=some (.i .u8 a.n):=rfl
def Cg0 (a:Actn):C2 2 a.pv=some (.b a.odd):=rfl
def Cf9 (a:Actn):C2 3 a.pv=some (.i .i64 a.m.id):=rfl
def Cf8 (a:Actn):C2 4 a.pv=some (.i .i64 a.m.op):=rfl
def Cf7 (a:Actn):C2 5 a.pv=some (.i .i64 a.m.code):=rfl
def Cf6 (a:Actn):C2 6 a.pv=some (.b a.m.resp):=rfl
def Cf5 (a:Actn):C2 7 a.pv=some (.b a.m.aa):=rfl
def Cf4 (a:Actn):C2 8 a.pv=some (.b a.m.tc):=rfl
def Cf3 (a:Actn):C2 9 a.pv=some (.b a.m.rd):=rfl
def By3 (a:Actn):C2 10 a.pv=some (.b a.m.ra):=rfl
def By2 (a:Actn):C2 11 a.pv=some (.b a.m.ad):=rfl
def By1 (a:Actn):C2 12 a.pv=some (.b a.m.cd):=rfl
def By0 (a:Actn):C2 13 a.pv=some (.b a.m.dok):=rfl
def Bx9 (a:Actn):C2 14 a.pv=some (.i .i64 a.m.size):=rfl
def Bx8 (a:Actn):C2 15 a.pv=some (.s a.m.q.name):=rfl
def Bx7 (a:Actn):C2 16 a.pv=some (.i .i64 a.m.q.typ):=rfl
def Bx6 (a:Actn):C2 17 a.pv=some (B6 a.m.ans):=rfl
def Bx5 (a:Actn):C2 18 a.pv=some (B6 a.m.auth):=rfl
def Bx4 (a:Actn):C2 19 a.pv=some (B6 a.m.ext):=rfl
def Bx3 (a:Actn):C2 20 a.pv=some (.s a.host):=rfl
def Bx2 (a:Actn):C2 21 a.pv=some (D7 a.addrs):=rfl
def Cd8 (b:Begin):C2 0 b.pv=some (.s b.q.name):=rfl
def Cd7 (b:Begin):C2 1 b.pv=some (.i .i64 b.q.typ):=rfl
def Cd6 (b:Begin):C2 2 b.pv=some (.s b.zone):=rfl
def Cd5 (b:Begin):C2 3 b.pv=some (Cs b.hosts):=rfl
def Cd4 (b:Begin):C2 4 b.pv=some (D7 b.addrs):=rfl
def Fg5 (b:Begin):Jt 0 5 b.pv=some b.pv:=rfl
def Fs6 (b:Begin):Rx 5 b.pv=some b.pv:=rfl
def Bt8 (b:Begin):Jt 0 2 b.pv=some b.q.pv:=rfl
def Fg7 (a:Actn):Jt 0 22 a.pv=some a.pv:=rfl
def Fs8 (a:Actn):Rx 22 a.pv=some a.pv:=rfl
def Bt9 (a:Actn):Jt 3 17 a.pv=some a.m.pv:=rfl
def Eh2 (l:List Actn):G8 (As8 l)=some (.i .i64 (l.length:Int)):=by simp[As8,G8]
def Em1 (l:List Actn) (k:IntKind) (z:Int) (h:0≤z):Hy 22 (As8 l) (.i k z)=(l[z.toNat]?).map Actn.pv:=by simp[As8,Xj _ _ _ _ h]
set_option linter.defProp false in
def EVA:=(And.intro @Cg2 (And.intro @Cg1 (And.intro @Cg0 (And.intro @Cf9 (And.intro @Cf8 (And.intro @Cf7 (And.intro @Cf6 (And.intro @Cf5 (And.intro @Cf4 (And.intro @Cf3 (And.intro @By3 (And.intro @By2 (And.intro @By1 (And.intro @By0 (And.intro @Bx9 (And.intro @Bx8 (And.intro @Bx7 (And.intro @Bx6 (And.intro @Bx5 (And.intro @Bx4 (And.intro @Bx3 (And.intro @Bx2 (And.intro @Cd8 (And.intro @Cd7 (And.intro @Cd6 (And.intro @Cd5 (And.intro @Cd4 (And.intro @Fg5 (And.intro @Fs6 (And.intro @Bt8 (And.intro @Fg7 (And.intro @Fs8 (And.intro @Bt9 (And.intro @Eh2 @Em1))))))))))))))))))))))))))))))))))
end Go.X
/- The laws on tasks: their small functions. -/
namespace Go.X.G
open Go Go.X
structure AOk (a:Actn):Prop where
 wf:a.wf
 m:MOk a.m
 addrs:a.addrs.length≤1000
end Go.X.G
/- The laws on tasks: small arguments, the first check. -/
namespace Go.X.G
open Go Go.X
def tk0:Tk:=⟨⟨[97,46,100,46,120,46],1⟩,[97,46,100,46,120,46],[120,46],[],[⟨false,0,7⟩],[],0,0,⟨false,0,0⟩,⟨[],0⟩,0,[],Ax4,0⟩
def Bs7:startT ⟨[97,46,100,46,120,46],1⟩ [120,46] [] [⟨false,0,7⟩]=(tk0,0):=by kernel_rfl
def Gh2:TOk tk0 0:=⟨⟨by simp[tk0,Hv],by simp[tk0,Im]⟩,by simp[tk0,Hv],by simp[tk0,Hv],by simp[tk0],by simp[tk0],by simp[tk0],by simp[tk0],by simp[tk0],by simp[tk0],⟨by simp[tk0,Hv],by simp[tk0,Im]⟩,by simp[tk0],by simp[tk0],by simp[tk0],by simp⟩
def Bj3:S Cp6 0 []=some [tk0.pv]:=by refine If8 (N:=1) rfl ?_;have h:=start_ok ⟨[97,46,100,46,120,46],1⟩ [120,46] [] [⟨false,0,7⟩] ⟨by simp[Hv],by simp[Im]⟩ (by simp[Hv]) (by simp) (by simp) (by simp);rw[Bs7] at h;simp only at h;have hs:Cs []=PV.l 1 []:=rfl;simp(disch:=omega)only[Ij5,h,EVA,EVT,Ak,simprocAttr]
def Dr3:sendT tk0 ⟨false,0,7⟩=({tk0 with dst:=⟨false,0,7⟩,asked:=⟨[100,46,120,46],2⟩,state:=1,sent:=1},{Ax4 with dok:=true,size:=1232,q:=⟨[100,46,120,46],2⟩},true):=by kernel_rfl
def Bh8:S Hv8 0 []=some [.b true]:=by refine Jy1 (N:=1) rfl ?_;have h:=Ck1 tk0 ⟨false,0,7⟩ Gh2;rw[Dr3] at h;simp only at h;have h0:=Bj3;generalize tk0=t at*;simp(disch:=omega)only[Jx4,h0,h,EVA,EVT,Ak,simprocAttr]
end Go.X.G
