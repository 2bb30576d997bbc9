/- Questions and messages. -/
import Derived.Test.YtdljoocpdjbhfaaDoorTrustInsidesG8
import Derived.Test.YtdljoocpdjbhfaaDoorTrustInsidesG7
open Bool renaming or_eq_true→Ah,eq_false_or_eq_true→A0,eq_iff_iff→Gt
open List renaming mem_singleton→A8,mem_of_getElem?→Ck,length_filter_le→Cv,mem_cons→Cd,map_cons→Dz,mem_append→Ep,mem_filter→Ml
open Nat renaming le_trans→Bg,zero_le→B4
open Option renaming map_some→Am
open Option.some renaming injEq→Ak
set_option maxHeartbeats 1000000
set_option linter.unusedVariables false
set_option linter.unusedSimpArgs false
namespace Go.X
open Go
structure Ques where
 name:List UInt8
 typ:Int
 deriving DecidableEq
structure Msg where
 id:Int
 op:Int
 code:Int
 resp:Bool
 aa:Bool
 tc:Bool
 rd:Bool
 ra:Bool
 ad:Bool
 cd:Bool
 dok:Bool
 size:Int
 q:Ques
 ans:List Rec
 auth:List Rec
 ext:List Rec
 deriving DecidableEq
structure Ques.wf (x:Ques):Prop where
 name:Ig x.name
 typ:I1 x.typ
structure Msg.wf (m:Msg):Prop where
 id:I1 m.id
 op:I1 m.op
 code:I1 m.code
 size:I1 m.size
 q:m.q.wf
 ans:Pv m.ans
 auth:Pv m.auth
 ext:Pv m.ext
def Ques.cells (x:Ques):List PV:=[.s x.name, .i .i64 x.typ]
def Ques.pv (x:Ques):PV:= .a x.cells
def Msg.cells (m:Msg):List PV:= .i .i64 m.id:: .i .i64 m.op:: .i .i64 m.code:: .b m.resp:: .b m.aa:: .b m.tc:: .b m.rd:: .b m.ra:: .b m.ad:: .b m.cd:: .b m.dok:: .i .i64 m.size:: .s m.q.name:: .i .i64 m.q.typ::Bq m.ans::Bq m.auth::Bq m.ext::[]
def Msg.pv (m:Msg):PV:= .a m.cells
def shQ:Sh:= .st [.s, .i .i64]
def aj:Sh:= .st [.i .i64, .i .i64, .i .i64, .b, .b, .b, .b, .b, .b, .b, .b, .i .i64,shQ,Nj,Nj,Nj]
theorem ow {cs:List PV} (h:shQ.okC cs):∃q:Ques,q.wf∧cs=q.cells:=by obtain ⟨a0,r0,rfl,h0,h⟩:=Bw (Nl h);obtain ⟨a1,r1,rfl,h1,h⟩:=Bw h;obtain rfl:=Hy h;obtain ⟨x0,rfl,k0⟩:=Ss h0;obtain ⟨x1,rfl,k1⟩:=Ds h1;exact ⟨⟨x0,x1⟩,⟨k0,k1⟩,rfl⟩
theorem oy {p:PV} (h:aj.ok p):∃m:Msg,m.wf∧p=m.pv:=by obtain ⟨ds,rfl,h⟩:∃ds,p= .a ds∧aj.okC ds:=h;obtain ⟨a0,r0,rfl,h0,h⟩:=Bw (Nl h);obtain ⟨a1,r1,rfl,h1,h⟩:=Bw h;obtain ⟨a2,r2,rfl,h2,h⟩:=Bw h;obtain ⟨a3,r3,rfl,h3,h⟩:=Bw h;obtain ⟨a4,r4,rfl,h4,h⟩:=Bw h;obtain ⟨a5,r5,rfl,h5,h⟩:=Bw h;obtain ⟨a6,r6,rfl,h6,h⟩:=Bw h;obtain ⟨a7,r7,rfl,h7,h⟩:=Bw h;obtain ⟨a8,r8,rfl,h8,h⟩:=Bw h;obtain ⟨a9,r9,rfl,h9,h⟩:=Bw h;obtain ⟨a10,r10,rfl,h10,h⟩:=Bw h;obtain ⟨a11,r11,rfl,h11,h⟩:=Bw h;obtain ⟨a12,r12,rfl,h12,h⟩:=Bw h;obtain ⟨a13,r13,rfl,h13,h⟩:=Bw h;obtain ⟨a14,r14,rfl,h14,h⟩:=Bw h;obtain ⟨a15,r15,rfl,h15,h⟩:=Bw h;obtain rfl:=Hy h;obtain ⟨x0,rfl,k0⟩:=Ds h0;obtain ⟨x1,rfl,k1⟩:=Ds h1;obtain ⟨x2,rfl,k2⟩:=Ds h2;obtain ⟨x3,rfl⟩:=L5 h3;obtain ⟨x4,rfl⟩:=L5 h4;obtain ⟨x5,rfl⟩:=L5 h5;obtain ⟨x6,rfl⟩:=L5 h6;obtain ⟨x7,rfl⟩:=L5 h7;obtain ⟨x8,rfl⟩:=L5 h8;obtain ⟨x9,rfl⟩:=L5 h9;obtain ⟨x10,rfl⟩:=L5 h10;obtain ⟨x11,rfl,k11⟩:=Ds h11;obtain ⟨x12,k12,rfl⟩:=ow h12;obtain ⟨x13,k13,rfl⟩:=Pf h13;obtain ⟨x14,k14,rfl⟩:=Pf h14;obtain ⟨x15,k15,rfl⟩:=Pf h15;exact ⟨⟨x0,x1,x2,x3,x4,x5,x6,x7,x8,x9,x10,x11,x12,x13,x14,x15⟩,⟨k0,k1,k2,k11,k12,k13,k14,k15⟩,rfl⟩
theorem Vh (m:Msg):Bm 0 m.pv=some (.i .i64 m.id):=rfl
theorem Vg (m:Msg):Bm 1 m.pv=some (.i .i64 m.op):=rfl
theorem Vf (m:Msg):Bm 2 m.pv=some (.i .i64 m.code):=rfl
theorem Vd (m:Msg):Bm 3 m.pv=some (.b m.resp):=rfl
theorem Vb (m:Msg):Bm 4 m.pv=some (.b m.aa):=rfl
theorem Vz (m:Msg):Bm 5 m.pv=some (.b m.tc):=rfl
theorem Vy (m:Msg):Bm 6 m.pv=some (.b m.rd):=rfl
theorem Vv (m:Msg):Bm 7 m.pv=some (.b m.ra):=rfl
theorem Vq (m:Msg):Bm 8 m.pv=some (.b m.ad):=rfl
theorem Vk (m:Msg):Bm 9 m.pv=some (.b m.cd):=rfl
theorem Sz (m:Msg):Bm 10 m.pv=some (.b m.dok):=rfl
theorem Sy (m:Msg):Bm 11 m.pv=some (.i .i64 m.size):=rfl
theorem Sx (m:Msg):Bm 12 m.pv=some (.s m.q.name):=rfl
theorem Sw (m:Msg):Bm 13 m.pv=some (.i .i64 m.q.typ):=rfl
theorem Sv (m:Msg):Bm 14 m.pv=some (Bq m.ans):=rfl
theorem Sq (m:Msg):Bm 15 m.pv=some (Bq m.auth):=rfl
theorem Sk (m:Msg):Bm 16 m.pv=some (Bq m.ext):=rfl
theorem m7 (m:Msg):I8 0 17 m.pv=some m.pv:=rfl
theorem pg (m:Msg):Oj 17 m.pv=some m.pv:=rfl
theorem Uq (m:Msg):I8 12 2 m.pv=some m.q.pv:=rfl
theorem Aj9 (x:Ques):I8 0 2 x.pv=some x.pv:=rfl
theorem Az5 (x:Ques):Oj 2 x.pv=some x.pv:=rfl
theorem nr (x:Ques):Bm 0 x.pv=some (.s x.name):=rfl
theorem nn (x:Ques):Bm 1 x.pv=some (.i .i64 x.typ):=rfl
theorem v5 (n:List UInt8) (t:Int):PV.a [.s n, .i .i64 t]=Ques.pv ⟨n,t⟩:=rfl
theorem Az9 (x:Ques):(⟨x.name,x.typ⟩:Ques)=x:=rfl
theorem dq (x0 x1 x2:Int) (b0 b1 b2 b3 b4 b5 b6 b7:Bool) (x3:Int) (n:List UInt8) (t:Int) (l0 l1 l2:List Rec):PV.a [.i .i64 x0, .i .i64 x1, .i .i64 x2, .b b0, .b b1, .b b2, .b b3, .b b4, .b b5, .b b6, .b b7, .i .i64 x3, .s n, .i .i64 t,Bq l0,Bq l1,Bq l2]=Msg.pv ⟨x0,x1,x2,b0,b1,b2,b3,b4,b5,b6,b7,x3,⟨n,t⟩,l0,l1,l2⟩:=rfl
theorem Af0 (neg:Bool) (x y:Ques):Gs neg true [.s,(.i .i64)] x.pv y.pv=some (.b (if neg then decide (x≠y) else decide (x=y))):=by
 have:Dx [.s,(.i .i64)] x.cells y.cells=some (decide (x=y)):=by simp only [Ques.cells,Dx,dh,if_true,Ak];rw [Gt];cases x;cases y;simp
 simp only [Gs,Ques.pv,this,Am];cases neg<;>simp
set_option linter.defProp false in
def EVM:=(And.intro @Vh (And.intro @Vg (And.intro @Vf (And.intro @Vd (And.intro @Vb (And.intro @Vz (And.intro @Vy (And.intro @Vv (And.intro @Vq (And.intro @Vk (And.intro @Sz (And.intro @Sy (And.intro @Sx (And.intro @Sw (And.intro @Sv (And.intro @Sq (And.intro @Sk (And.intro @m7 (And.intro @pg (And.intro @Uq (And.intro @Aj9 (And.intro @Az5 (And.intro @nr (And.intro @nn (And.intro @v5 (And.intro @Az9 (And.intro @dq @Af0)))))))))))))))))))))))))))
end Go.X
/- Closures and sets of strings, evaluated. -/
namespace Go.X
open Go
def Ac2 (fn:Fns) (η:List PV) (fl:Bool) (ar:List E) (m:Nat):PV→Option (List PV)
 | .f f caps=>(E.evs η ar).bind fun vs=>results fl m η (fn f vs.length (vs++caps))
 |_=>none
theorem Y2 {fn:Fns} {η:List PV} (fl:Bool) (c:E) (ar:List E) (m:Nat):W.ev fn η (.clo none fl c ar m)=(c.ev η).bind (Ac2 fn η fl ar m):=by
 rw [l8];congr 1;funext q;cases q with
 |f f caps=>rfl
 |_=>cases h:E.evs η ar<;>rfl
theorem xb {fn:Fns} {η:List PV} (fl:Bool) (ar:List E) (m:Nat) (f:Nat) (caps:List PV):Ac2 fn η fl ar m (.f f caps)=(E.evs η ar).bind fun vs=>results fl m η (fn f vs.length (vs++caps)):=rfl
theorem uf (f:Nat) (caps:List PV):Bm 0 (.f f caps)=some (.f f caps):=rfl
theorem t9 (f:Nat) (caps:List PV):Hj (.f f caps)=some (.f f caps):=rfl
def Dd (ks:List (List UInt8)):PV:= .m (ks.map fun k=>(.s k, .b true))
theorem nw:PV.m []=Dd []:=rfl
theorem af (ks:List (List UInt8)):Bm 0 (Dd ks)=some (Dd ks):=rfl
theorem av (ks:List (List UInt8)):Hj (Dd ks)=some (Dd ks):=rfl
theorem Ns (k:List UInt8):∀ks:List (List UInt8),L9 (.s k) (ks.map fun k=>(.s k, .b true))=some (if k∈ks then some (.b true) else none)
 |[]=>by simp [L9]
 |x::ks=>by
  simp only [Dz,L9,N4];by_cases h:k=x
  ·subst h;simp
  ·have h2:(k==x)=false:=by simpa using h
   rw [h2];simp only [Ns k ks,Cd,h,false_or]
theorem Q0 (k:List UInt8):∀ks:List (List UInt8),fb (.s k) (.b true) (ks.map fun k=>(.s k, .b true))=some ((if k∈ks then ks else ks++[k]).map fun k=>(.s k, .b true))
 |[]=>by simp [fb]
 |x::ks=>by
  simp only [Dz,fb,N4];by_cases h:k=x
  ·subst h;simp
  ·have h2:(k==x)=false:=by simpa using h
   rw [h2];simp only [Q0 k ks,Cd,h,false_or,Am];by_cases h3:k∈ks<;>simp [h3]
theorem bm (k:List UInt8) (ks:List (List UInt8)):Nr (Dd ks) (.s k) (.b false)=some (.b (decide (k∈ks))):=by simp only [Nr,Dd,W1,if_true,Ns,Am];by_cases h:k∈ks<;>simp [h]
theorem bl (k:List UInt8) (ks:List (List UInt8)):Np (Dd ks) (.s k) (.b true)=some (Dd (if k∈ks then ks else ks++[k])):=by simp only [Np,Dd,W1,if_true,Q0,Am]
theorem Wn (a b:List Rec):H7 1 [Bq a,Bq b]=some (.l 1 ([a,b].map Bq)):=rfl
set_option linter.defProp false in
def EVC:=(And.intro @Y2 (And.intro @xb (And.intro @uf (And.intro @t9 (And.intro @nw (And.intro @af (And.intro @av (And.intro @bm (And.intro @bl @Wn)))))))))
end Go.X
/- What is believed of a response: the plain side. -/
namespace Go.X.G
open Go Go.X
def inZ (zone:List UInt8) (r:Rec):Bool:=If r.name zone
def N7 (t:Int):Bool:=decide (t=2)||decide (t=15)||decide (t=33)
def Gc (l:List Rec) (h:List UInt8):Bool:=l.any fun r=>N7 r.typ && decide (r.data.host=h)
def Yj (t:Int):Bool:=decide (t=1)||decide (t=28)
def wq (a b:List Rec) (zone:List UInt8) (r:Rec):Bool:=inZ zone r && (Gc a r.name||Gc b r.name) && Yj r.typ
def insideM (m:Msg) (zone:List UInt8):Msg:=
 {m with ans:=m.ans.filter (inZ zone),auth:=m.auth.filter (inZ zone),ext:=m.ext.filter (wq (m.ans.filter (inZ zone)) (m.auth.filter (inZ zone)) zone)}
def dd (out:List (List UInt8)):List Rec→List (List UInt8)
 |[]=>out
 |r::rs=>if r.data.host∈out then dd out rs else dd (out++[r.data.host]) rs
end Go.X.G
/- Inside: what the servers of a zone can know. -/
namespace Go.X.G
open Go Go.X
theorem Pt (l:List Rec) (g:Nat) (caps:List PV) (p:Rec→Bool) (hl:l.length≤1000000) (h:∀r∈l,S g 1 (r.pv::caps)=some [.b (p r)]):S Pn 2 [Bq l, .f g caps]=some [Bq (l.filter p)]:=by
 refine Av4 (N:=l.length+1) rfl ?_;have key:f5.ev S (l.length+1) [Bq l, .f g caps]=some (.yld 0 [Bq ([]++l.filter p)]):=by
  refine E9 l (fun i (q:List Rec)=>[Bq q, .i .i64 (i:Int)]) (fun i q r=> .yld 0 [Bq (q++r.filter p)]) (fun i q=>q.length≤i) [] rfl (B4 _) (by omega) (fun i q c r hd hi hc hI=> ?_) (fun q hI=> ?_)
  ·left;have hp:=h c (Ck hc);rcases A0 (p c) with h1|h1
   ·rw [h1] at hp;refine ⟨q++[c],?_,by simp;omega,by simp [h1]⟩;simp (disch:=omega) only [Yt,hc,hp,EVC,xe,EVP,EV,simprocAttr]
   ·rw [h1] at hp;refine ⟨q,?_,by omega,by simp [h1]⟩;simp (disch:=omega) only [Yt,hc,hp,EVC,xe,EVP,EV,simprocAttr]
  ·simp (disch:=omega) only [Yt,xe,EVP,EV,simprocAttr]
   try simp [Out.goes]
 simp (disch:=omega) only [Yt,key,xe,EVP,EV,simprocAttr]
theorem Ik (r:Rec) (zone:List UInt8) (hr:r.wf) (hz:Ig zone):S Jl 1 [r.pv, .s zone]=some [.b (inZ zone r)]:=by refine Av6 (N:=1) rfl ?_;have g1:=hr.name;unfold Ig at g1 hz;unfold inZ;simp (disch:=omega) only [Aj7,Yq,xe,EVP,EV,simprocAttr]
theorem Tm (r:Rec) (zone:List UInt8) (ks:List (List UInt8)) (hr:r.wf) (hz:Ig zone):S S7 1 [r.pv, .f Jl [.s zone],Dd ks]=some [.b (inZ zone r && decide (r.name∈ks) && Yj r.typ)]:=by refine Av3 (N:=1) rfl ?_;have h1:=Ik r zone hr hz;unfold Yj;rcases A0 (inZ zone r) with h2|h2<;>rw [h2] at h1<;>by_cases h3:r.name∈ks<;>by_cases h4:r.typ=1<;>simp (disch:=omega) only [Aj6,h1,h3,h4,EVC,xe,EVP,EV,simprocAttr]<;>simp [h2,h3,h4]
def Qx (ks:List (List UInt8)):List Rec→List (List UInt8)
 |[]=>ks
 |r::rs=>Qx (if N7 r.typ=true then (if r.data.host∈ks then ks else ks++[r.data.host]) else ks) rs
theorem Q1 (h:List UInt8):∀(l:List Rec) (ks:List (List UInt8)),h∈Qx ks l↔h∈ks∨Gc l h=true
 |[],ks=>by simp [Qx,Gc]
 |r::rs,ks=>by
  rw [Qx,Q1 h rs];have hm:Gc (r::rs) h=((N7 r.typ && decide (r.data.host=h))||Gc rs h):=by simp [Gc]
  rw [hm];rcases A0 (N7 r.typ) with h1|h1
  ·rw [h1];by_cases h2:r.data.host∈ks
   ·simp only [h2,if_true,Bool.true_and,Ah,decide_eq_true_eq];constructor
    ·rintro (h3|h3)
     ·exact .inl h3
     ·exact .inr (.inr h3)
    ·rintro (h3|h3|h3)
     ·exact .inl h3
     ·exact .inl (h3▸h2)
     ·exact .inr h3
   ·simp only [h2,if_true,if_false,Bool.true_and,Ah,decide_eq_true_eq,Ep,A8];constructor
    ·rintro ((h3|h3)|h3)
     ·exact .inl h3
     ·exact .inr (.inl h3.symm)
     ·exact .inr (.inr h3)
    ·rintro (h3|h3|h3)
     ·exact .inl (.inl h3)
     ·exact .inl (.inr h3.symm)
     ·exact .inr h3
  ·rw [h1];simp
theorem Of (m:Msg) (zone:List UInt8) (hm:m.wf) (hz:Ig zone) (h1:m.ans.length≤1000) (h2:m.auth.length≤1000) (h3:m.ext.length≤1000):S sq 2 [m.pv, .s zone]=some [(insideM m zone).pv]:=by
 refine Ac9 (N:=2000) rfl ?_;have k1:=Pt m.ans Jl [.s zone] (inZ zone) (by omega) (fun r hr=>Ik r zone (hm.ans.2 r hr) hz);have k2:=Pt m.auth Jl [.s zone] (inZ zone) (by omega) (fun r hr=>Ik r zone (hm.auth.2 r hr) hz);have a1:(m.ans.filter (inZ zone)).length≤1000:=Bg (Cv _ _) h1;have a2:(m.auth.filter (inZ zone)).length≤1000:=Bg (Cv _ _) h2;unfold insideM;generalize m.ans.filter (inZ zone)=A at*;generalize m.auth.filter (inZ zone)=B at*;have inner:∀(i:Nat) (c:List Rec) (ks:List (List UInt8)),[A,B][i]? =some c→c.length≤1000→vg.ev S 2000 [m.pv, .s zone,Bq A,Bq B, .i .i64 (i:Int),Dd ks]=some (.yld 2 [Dd (Qx ks c)]):=by
  intro i c ks hc hcl;refine E9 c (fun j (g:List (List UInt8))=>[.i .i64 (j:Int),Dd g]) (fun j g r=> .yld 2 [Dd (Qx g r)]) (fun _ _=>True) ks rfl trivial (by omega) (fun j g r rs hd hj hr _=> ?_) (fun g _=> ?_)
  ·left;refine ⟨if N7 r.typ=true then (if r.data.host∈g then g else g++[r.data.host]) else g,?_,trivial,rfl⟩;unfold N7;by_cases t1:r.typ=2
   ·simp (disch:=omega) only [ep,hc,hr,t1,EVC,xe,EVP,EV,simprocAttr]
    try simp
   ·by_cases t2:r.typ=15
    ·simp (disch:=omega) only [ep,hc,hr,t2,EVC,xe,EVP,EV,simprocAttr]
     try simp
    ·by_cases t3:r.typ=33
     ·simp (disch:=omega) only [ep,hc,hr,t3,EVC,xe,EVP,EV,simprocAttr]
      try simp
     ·simp (disch:=omega) only [ep,hc,hr,t1,t2,t3,EVC,xe,EVP,EV,simprocAttr]
      try simp [t1,t2,t3]
  ·simp (disch:=omega) only [ep,hc,EVC,xe,EVP,EV,simprocAttr]
   try simp [Out.goes,Qx]
 have outer:vh.ev S 2000 [m.pv, .s zone,Bq A,Bq B]=some (.yld 0 [Dd (Qx (Qx [] A) B)]):=by
  refine E9 [A,B] (fun i (g:List (List UInt8))=>[.i .i64 (i:Int),Dd g]) (fun i g r=> .yld 0 [Dd (r.foldl Qx g)]) (fun _ _=>True) [] rfl trivial (by simp) (fun i g c r hd hi hc _=> ?_) (fun g _=> ?_)
  ·left;refine ⟨Qx g c,?_,trivial,rfl⟩;have hcl:c.length≤1000:=by have:=Ck hc;simp at this;rcases this with rfl|rfl<;>omega
   have hi2:i<2:=hi;have k:=inner i c g hc hcl;simp (disch:=omega) only [ep,hc,k,EVC,xe,EVP,EV,simprocAttr]
  ·simp (disch:=omega) only [ep,EVC,xe,EVP,EV,simprocAttr]
   try simp [Out.goes]
 have k3:=Pt m.ext S7 [.f Jl [.s zone],Dd (Qx (Qx [] A) B)] (wq A B zone) (by omega) (fun r hr=>by
  rw [Tm r zone _ (hm.ext.2 r hr) hz];unfold wq;have:decide (r.name∈Qx (Qx [] A) B)=(Gc A r.name||Gc B r.name):=by rw [Gt];simp [Q1]
  rw [this])
 simp (disch:=omega) only [ep,k1,k2,outer,k3,EVC,EVM,xe,EVP,EV,simprocAttr]
theorem Hr (l:List Rec) (zone:List UInt8) (hl:l.length≤1000000) (hw:∀r∈l,r.wf) (hz:Ig zone):S Ph 2 [Bq l, .s zone]=some [Bq (l.filter (inZ zone))]:=by
 refine Av0 (N:=l.length+1) rfl ?_;unfold Ig at hz;have key:fr.ev S (l.length+1) [Bq l, .s zone]=some (.yld 0 [Bq ([]++l.filter (inZ zone))]):=by
  refine E9 l (fun i (q:List Rec)=>[Bq q, .i .i64 (i:Int)]) (fun i q r=> .yld 0 [Bq (q++r.filter (inZ zone))]) (fun i q=>q.length≤i) [] rfl (B4 _) (by omega) (fun i q c r hd hi hc hI=> ?_) (fun q hI=> ?_)
  ·left;have hp:=(hw c (Ck hc)).name;unfold Ig at hp;rcases A0 (inZ zone c) with h1|h1
   ·refine ⟨q++[c],?_,by simp;omega,by simp [h1]⟩;unfold inZ at h1;simp (disch:=omega) only [Ys,hc,Ob,h1,xe,EVP,EV,simprocAttr]
   ·refine ⟨q,?_,by omega,by simp [h1]⟩;unfold inZ at h1;simp (disch:=omega) only [Ys,hc,Ob,h1,xe,EVP,EV,simprocAttr]
  ·simp (disch:=omega) only [Ys,xe,EVP,EV,simprocAttr]
   try simp [Out.goes]
 simp (disch:=omega) only [Ys,key,xe,EVP,EV,simprocAttr]
theorem Hb (l:List Rec) (h:List UInt8) (hl:l.length≤1000000):S S6 2 [Bq l, .s h]=some [.b (Gc l h)]:=by
 refine Aq9 (N:=l.length+1) rfl ?_;have key:fp.ev S (l.length+1) [Bq l, .s h]=some (if Gc l h=true then .ret [.b true] else .yld 0 []):=by
  refine E2 l (fun i=>[.i .i64 (i:Int)]) (fun i r=>if Gc r h=true then .ret [.b true] else .yld 0 []) rfl (by omega) (fun i c r hd hi hc=> ?_) ?_
  ·have hcons:Gc (c::r) h=((N7 c.typ && decide (c.data.host=h))||Gc r h):=by simp [Gc]
   rw [hcons];unfold N7;by_cases t1:c.typ=2<;>by_cases t2:c.typ=15<;>by_cases t3:c.typ=33<;>by_cases t4:c.data.host=h<;>first
    |(left;simp (disch:=omega) only [Yr,hc,t1,t2,t3,t4,xe,EVP,EV,simprocAttr];simp [t1,t2,t3,t4];done)
    |(right;simp (disch:=omega) only [Yr,hc,t1,t2,t3,t4,xe,EVP,EV,simprocAttr];simp [t1,t2,t3,t4,Out.goes];done)
  ·simp (disch:=omega) only [Yr,xe,EVP,EV,simprocAttr]
   try simp [Gc,Out.goes]
 rcases A0 (Gc l h) with h1|h1<;>simp (disch:=omega) only [Yr,key,h1,xe,EVP,EV,simprocAttr]
theorem Qy (m:Msg) (zone:List UInt8) (hm:m.wf) (hz:Ig zone) (h1:m.ans.length≤1000) (h2:m.auth.length≤1000) (h3:m.ext.length≤1000):S Wg 2 [m.pv, .s zone]=some [(insideM m zone).pv]:=by
 refine Av7 (N:=2000) rfl ?_;have k1:=Hr m.ans zone (by omega) hm.ans.2 hz;have k2:=Hr m.auth zone (by omega) hm.auth.2 hz;have k3:=Hr m.ext zone (by omega) hm.ext.2 hz;have a1:(m.ans.filter (inZ zone)).length≤1000:=Bg (Cv _ _) h1;have a2:(m.auth.filter (inZ zone)).length≤1000:=Bg (Cv _ _) h2;have a3:(m.ext.filter (inZ zone)).length≤1000:=Bg (Cv _ _) h3;have hx:m.ext.filter (wq (m.ans.filter (inZ zone)) (m.auth.filter (inZ zone)) zone)=(m.ext.filter (inZ zone)).filter fun r=>(Gc (m.ans.filter (inZ zone)) r.name||Gc (m.auth.filter (inZ zone)) r.name) && Yj r.typ:=by rw [List.filter_filter];congr 1;funext r;unfold wq;cases inZ zone r<;>simp
 unfold insideM;rw [hx];generalize m.ans.filter (inZ zone)=A at*;generalize m.auth.filter (inZ zone)=B at*;generalize m.ext.filter (inZ zone)=X at*;have b1:=fun h=>Hb A h (by omega);have b2:=fun h=>Hb B h (by omega);have key:f6.ev S 2000 [m.pv, .s zone,Bq A,Bq B,Bq X]=some (.yld 0 [Bq ([]++X.filter fun r=>(Gc A r.name||Gc B r.name) && Yj r.typ)]):=by
  refine E9 X (fun i (q:List Rec)=>[.i .i64 (i:Int),Bq q]) (fun i q r=> .yld 0 [Bq (q++r.filter fun r=>(Gc A r.name||Gc B r.name) && Yj r.typ)]) (fun i q=>q.length≤i) [] rfl (B4 _) (by omega) (fun i q c r hd hi hc hI=> ?_) (fun q hI=> ?_)
  ·left;have hcase:(((Gc A c.name||Gc B c.name) && Yj c.typ)=true)∨(((Gc A c.name||Gc B c.name) && Yj c.typ)=false):=by cases ((Gc A c.name||Gc B c.name) && Yj c.typ)<;>simp
   rcases hcase with h|h
   ·refine ⟨q++[c],?_,by simp;omega,by simp only [List.filter_cons,h];simp⟩;unfold Yj at h;by_cases t1:c.typ=1<;>by_cases t2:c.typ=28<;>rcases A0 (Gc A c.name) with e1|e1<;>rcases A0 (Gc B c.name) with e2|e2<;>first
     |(exfalso;simp [t1,t2,e1,e2] at h;done)
     |(simp (disch:=omega) only [Y0,hc,b1,b2,t1,t2,e1,e2,xe,EVP,EV,simprocAttr];done)
   ·refine ⟨q,?_,by omega,by simp only [List.filter_cons,h];simp⟩;unfold Yj at h;by_cases t1:c.typ=1<;>by_cases t2:c.typ=28<;>rcases A0 (Gc A c.name) with e1|e1<;>rcases A0 (Gc B c.name) with e2|e2<;>first
     |(exfalso;simp [t1,t2,e1,e2] at h;done)
     |(simp (disch:=omega) only [Y0,hc,b1,b2,t1,t2,e1,e2,xe,EVP,EV,simprocAttr];done)
  ·simp (disch:=omega) only [Y0,xe,EVP,EV,simprocAttr]
   try simp [Out.goes]
 simp (disch:=omega) only [Y0,k1,k2,k3,key,EVM,xe,EVP,EV,simprocAttr]
end Go.X.G
/- Addresses and tasks. -/
namespace Go.X
structure Adr where
 v6:Bool
 hi:Int
 lo:Int
 deriving DecidableEq
structure Tk where
 q:Ques
 name:List UInt8
 zone:List UInt8
 hosts:List (List UInt8)
 addrs:List Adr
 tried:List Adr
 state:Int
 more:Int
 dst:Adr
 asked:Ques
 sent:Int
 chain:List Rec
 last:Msg
 err:Int
def Adr.pv (x:Adr):PV:= .a [.b x.v6, .i .u64 x.hi, .i .u64 x.lo]
def ln (l:List Adr):PV:= .l 3 (l.map Adr.pv)
def Tk.cells (t:Tk):List PV:=[.s t.q.name, .i .i64 t.q.typ, .s t.name, .s t.zone,B7 t.hosts,ln t.addrs,ln t.tried, .i .i64 t.state, .i .i64 t.more, .b t.dst.v6, .i .u64 t.dst.hi, .i .u64 t.dst.lo, .s t.asked.name, .i .i64 t.asked.typ, .i .i64 t.sent,Bq t.chain, .i .i64 t.last.id, .i .i64 t.last.op, .i .i64 t.last.code, .b t.last.resp, .b t.last.aa, .b t.last.tc, .b t.last.rd, .b t.last.ra, .b t.last.ad, .b t.last.cd, .b t.last.dok, .i .i64 t.last.size, .s t.last.q.name, .i .i64 t.last.q.typ,Bq t.last.ans,Bq t.last.auth,Bq t.last.ext, .i .i64 t.err]
def Tk.pv (t:Tk):PV:= .a t.cells
end Go.X
/- Functions of the package slices, for texts, records and addresses. -/
namespace Go.X.G
open Go Go.X
end Go.X.G
/- The kind of a response. -/
namespace Go.X.G
open Go Go.X
end Go.X.G
/- What a response says, by the program and by the reference. -/
namespace Go.X.G
open Go Go.X
end Go.X.G
/- Kinds, children and negative answers. -/
namespace Go.X.G
open Go Go.X
structure MOk (m:Msg):Prop where
 wf:m.wf
 ans:m.ans.length≤1000
 auth:m.auth.length≤1000
 ext:m.ext.length≤1000
theorem Fs {l:List Rec} (p:Rec→Bool) (h:Pv l):Pv (l.filter p):=⟨Bg (Cv _ _) h.1,fun r hr=>h.2 r (Ml.1 hr).1⟩
theorem MOk.inside {m:Msg} (h:MOk m) (zone:List UInt8):MOk (insideM m zone):=
 ⟨⟨h.wf.id,h.wf.op,h.wf.code,h.wf.size,h.wf.q,Fs _ h.wf.ans,Fs _ h.wf.auth,Fs _ h.wf.ext⟩,
  Bg (Cv _ _) h.ans,Bg (Cv _ _) h.auth,Bg (Cv _ _) h.ext⟩
end Go.X.G
/- The laws on trust. -/
namespace Go.X.G
open Go Go.X
theorem Es (a:List Rec) (ha:a.length≤1000000):S Pl 2 [Bq a,Bq a]=some [.b true]:=by
 refine Av1 (N:=a.length+1) rfl ?_;have key:f2.ev S (a.length+1) [Bq a,Bq a]=some (.yld 0 []):=by
  refine E2 a (fun i=>[.i .i64 (i:Int)]) (fun i r=> .yld 0 []) rfl (by omega) (fun i c r hd hi hc=> ?_) ?_
  ·left;simp (disch:=omega) only [l6,hc,EVM,xe,EVP,EV,simprocAttr]
   try simp
  ·simp (disch:=omega) only [l6,EVM,xe,EVP,EV,simprocAttr]
   try simp [Out.goes]
 simp (disch:=omega) only [l6,key,EVM,xe,EVP,EV,simprocAttr]
theorem Pj (x:Msg) (hx:MOk x):S vz 2 [x.pv,x.pv]=some [.b true]:=by
 refine Ac7 (N:=1) rfl ?_;have a1:=Es x.ans (by have:=hx.ans;omega);have a2:=Es x.auth (by have:=hx.auth;omega);have a3:=Es x.ext (by have:=hx.ext;omega);simp (disch:=omega) only [Ac4,a1,a2,a3,w9,fz,EVM,EVC,xe,EVP,EV,simprocAttr]
 try simp
def D7 (r:Rec):Bool:=decide (r.name.length≤300) && decide (r.data.host.length≤300) && decide (r.data.mail.length≤300) && decide (r.data.text.length≤300)
def Fl (l:List Rec):Bool:=decide (l.length≤40) && l.all D7
theorem E1 (l:List Rec):S Pm 1 [Bq l]=some [.b (Fl l)]:=by
 refine Av2 (N:=l.length+1) rfl ?_;unfold Fl;by_cases hl:l.length≤40
 ·have key:f4.ev S (l.length+1) [Bq l]=some (if l.all D7=true then .yld 0 [] else .ret [.b false]):=by
   refine E2 l (fun i=>[.i .i64 (i:Int)]) (fun i q=>if q.all D7=true then .yld 0 [] else .ret [.b false]) rfl (by omega) (fun i c r hd hi hc=> ?_) ?_
   ·by_cases h1:c.name.length≤300
    ·by_cases h2:c.data.host.length≤300
     ·by_cases h3:c.data.mail.length≤300
      ·by_cases h4:c.data.text.length≤300
       ·left;simp (disch:=omega) only [Ms,hc,xe,EVP,EV,simprocAttr]
        try simp [h1,h2,h3,h4,D7]
       ·right;simp (disch:=omega) only [Ms,hc,xe,EVP,EV,simprocAttr]
        try simp [h4,D7,Out.goes]
      ·right;simp (disch:=omega) only [Ms,hc,xe,EVP,EV,simprocAttr]
       try simp [h3,D7,Out.goes]
     ·right;simp (disch:=omega) only [Ms,hc,xe,EVP,EV,simprocAttr]
      try simp [h2,D7,Out.goes]
    ·right;simp (disch:=omega) only [Ms,hc,xe,EVP,EV,simprocAttr]
     try simp [h1,D7,Out.goes]
   ·simp (disch:=omega) only [Ms,xe,EVP,EV,simprocAttr]
    try simp [Out.goes]
  rcases A0 (l.all D7) with h|h<;>rw [h] at key ⊢<;>simp (disch:=omega) only [Ms,key,xe,EVP,EV,simprocAttr]<;>simp [hl]
 ·simp (disch:=omega) only [Ms,xe,EVP,EV,simprocAttr]
  try simp [hl]
def Jk (m:Msg) (zone:List UInt8):Bool:=decide (zone.length≤300) && decide (m.q.name.length≤300) && Fl m.ans && Fl m.auth && Fl m.ext
theorem Kg (m:Msg) (zone:List UInt8):S vb 2 [m.pv, .s zone]=some [.b (Jk m zone)]:=by
 refine Ac8 (N:=1) rfl ?_;unfold Jk;by_cases h1:zone.length≤300
 ·by_cases h2:m.q.name.length≤300
  ·rcases A0 (Fl m.ans) with h3|h3
   ·rcases A0 (Fl m.auth) with h4|h4
    ·simp (disch:=omega) only [s4,E1,h3,h4,EVM,EVC,xe,EVP,EV,simprocAttr]
     try simp [h1,h2]
    ·simp (disch:=omega) only [s4,E1,h3,h4,EVM,EVC,xe,EVP,EV,simprocAttr]
     try simp
   ·simp (disch:=omega) only [s4,E1,h3,EVM,EVC,xe,EVP,EV,simprocAttr]
    try simp
  ·simp (disch:=omega) only [s4,E1,EVM,EVC,xe,EVP,EV,simprocAttr]
   try simp [h2]
 ·simp (disch:=omega) only [s4,E1,EVM,EVC,xe,EVP,EV,simprocAttr]
  try simp [h1]
theorem O7 {m:Msg} {zone:List UInt8} (hm:m.wf) (h:Jk m zone=true):MOk m:=by simp [Jk,Fl] at h;exact ⟨hm,by omega,by omega,by omega⟩
def Kl:Msg:=⟨0,0,0,true,false,false,false,false,false,false,false,0,⟨[97,46,100,46,120,46],1⟩,[],
 [⟨[100,46,120,46],2,9,⟨false,0,0,[110,46,100,46,120,46],[],[],0,0,0,0,0,0,0⟩⟩],
 [⟨[110,46,100,46,120,46],1,9,⟨false,0,1,[],[],[],0,0,0,0,0,0,0⟩⟩]⟩
theorem ng:S vc 0 []=some [Kl.pv]:=by
 refine Ad0 (N:=1) rfl ?_;simp (disch:=omega) only [Ac5,EVM,EVC,xe,EVP,EV,simprocAttr]
 try rfl
theorem az:MOk Kl:=by
 refine ⟨⟨?_,?_,?_,?_,⟨?_,?_⟩,?_,?_,?_⟩,?_,?_,?_⟩
 all_goals first|(unfold I1 Kl;simp;done)|(unfold Ig Kl;simp;done)|(simp [Kl];done)|skip
 ·refine ⟨by simp [Kl],fun r hr=> ?_⟩;simp [Kl] at hr
 ·refine ⟨by simp [Kl],fun r hr=> ?_⟩;simp only [Kl,A8] at hr;subst hr;constructor
  ·unfold Ig;decide
  ·unfold I1;decide
  ·unfold I1;decide
  ·constructor<;>first|(unfold Ig;decide)|(unfold I1;decide)|(unfold mq;decide)
 ·refine ⟨by simp [Kl],fun r hr=> ?_⟩;simp only [Kl,A8] at hr;subst hr;constructor
  ·unfold Ig;decide
  ·unfold I1;decide
  ·unfold I1;decide
  ·constructor<;>first|(unfold Ig;decide)|(unfold I1;decide)|(unfold mq;decide)
end Go.X.G
/- The law TrustInsides. -/
namespace Go.X.G
open Go Go.X
def zh:Msg:={Kl with ext:=Kl.ext++[⟨[121,46],1,0,⟨false,0,0,[],[],[],0,0,0,0,0,0,0⟩⟩]}
theorem Is:MOk zh:=by
 obtain ⟨w,h1,h2,h3⟩:=az;refine ⟨⟨w.id,w.op,w.code,w.size,w.q,w.ans,w.auth,⟨by decide,fun r hr=> ?_⟩⟩,h1,h2,by decide⟩;rcases Ep.1 hr with hr|hr
 ·exact w.ext.2 r hr
 ·rw [A8.1 hr];constructor
  ·unfold Ig;decide
  ·unfold I1;decide
  ·unfold I1;decide
  ·constructor<;>first|(unfold Ig;decide)|(unfold I1;decide)|(unfold mq;decide)
theorem law_TrustInsides (m:Msg) (zone:List UInt8) (hm:m.wf) (hz:Ig zone):S vf 2 [m.pv, .s zone]=some [.b true]:=by
 refine Ad1 (N:=3000) rfl ?_;have k1:=Of zh [120,46] Is.wf (by unfold Ig;decide) Is.ans Is.auth Is.ext;have e1:(insideM zh [120,46]).ext.length=1:=by kernel_rfl
 unfold zh at k1 e1;have kr:=ng;have h1:Fz 16 (Bq Kl.ext) (Bq [])=some (Bq Kl.ext):=by kernel_rfl
 have h2:Kl.ext.length=1:=rfl;have h3:Fz 16 (Bq Kl.ext) (Bq [⟨[121,46],1,0,⟨false,0,0,[],[],[],0,0,0,0,0,0,0⟩⟩])=some (Bq (Kl.ext++[⟨[121,46],1,0,⟨false,0,0,[],[],[],0,0,0,0,0,0,0⟩⟩])):=Oz _ _ (by decide);generalize insideM {Kl with ext:=Kl.ext++[⟨[121,46],1,0,⟨false,0,0,[],[],[],0,0,0,0,0,0,0⟩⟩]} [120,46]=y at*;rcases A0 (Jk m zone) with h|h
 ·have hk:=O7 hm h;have b1:=Of m zone hk.wf hz hk.ans hk.auth hk.ext;have b2:=Qy m zone hk.wf hz hk.ans hk.auth hk.ext;have b3:=Pj (insideM m zone) (hk.inside zone);generalize insideM m zone=x at*;simp (disch:=omega) only [Ab8,kr,k1,e1,h1,h2,h3,Kg,h,b1,b2,b3,EVM,EVC,xe,EVP,EV,simprocAttr]
 ·simp (disch:=omega) only [Ab8,kr,k1,e1,h1,h2,h3,Kg,h,EVM,EVC,xe,EVP,EV,simprocAttr]
end Go.X.G
