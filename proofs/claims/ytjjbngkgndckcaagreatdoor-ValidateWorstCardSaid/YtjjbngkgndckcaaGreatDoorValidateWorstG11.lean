/- Questions and messages. -/
import Derived.Test.YtjjbngkgndckcaaGreatDoorValidateWorstG10
import Derived.Test.YtjjbngkgndckcaaGreatDoorValidateWorstG9
set_option maxHeartbeats 1000000
set_option linter.defProp false
set_option linter.unusedVariables false
set_option linter.unusedSimpArgs false
namespace Go.X
open Go
structure Ques where
 name:List UInt8
 typ:Int
 deriving DecidableEq
structure Msg where
 id:Int
 op:Int
 code:Int
 resp:Bool
 aa:Bool
 tc:Bool
 rd:Bool
 ra:Bool
 ad:Bool
 cd:Bool
 dok:Bool
 size:Int
 q:Ques
 ans:List Rec
 auth:List Rec
 ext:List Rec
 deriving DecidableEq
structure Ques.wf (x:Ques):Prop where
 name:tz x.name
 typ:Nc x.typ
structure Msg.wf (m:Msg):Prop where
 id:Nc m.id
 op:Nc m.op
 code:Nc m.code
 size:Nc m.size
 q:m.q.wf
 ans:Zh m.ans
 auth:Zh m.auth
 ext:Zh m.ext
def Ques.cells (x:Ques):List PV:=[.s x.name,.i .i64 x.typ]
def Ques.pv (x:Ques):PV:= .a x.cells
def Msg.cells (m:Msg):List PV:= .i .i64 m.id:: .i .i64 m.op:: .i .i64 m.code:: .b m.resp:: .b m.aa:: .b m.tc:: .b m.rd:: .b m.ra:: .b m.ad:: .b m.cd:: .b m.dok:: .i .i64 m.size:: .s m.q.name:: .i .i64 m.q.typ::Dp m.ans::Dp m.auth::Dp m.ext::[]
def Msg.pv (m:Msg):PV:= .a m.cells
def At1 (fn:Fns) (J:List PV) (fl:Bool) (ar:List E) (m:Nat):PV->Option (List PV)
 | .f f caps=>(E.evs J ar).bind fun vs=>results fl m J (fn f vs.length (vs++caps))
 |_=>none
def Y5 {fn:Fns} {J:List PV} (fl:Bool) (c:E) (ar:List E) (m:Nat):W.ev fn J (.clo none fl c ar m)=(c.ev J).bind (At1 fn J fl ar m):=by
 rw[i9];congr 1;funext q;cases q with
 |f f caps=>rfl
 |_=>cases h:E.evs J ar<;>rfl
def Az5 {fn:Fns} {J:List PV} (fl:Bool) (ar:List E) (m:Nat) (f:Nat) (caps:List PV):At1 fn J fl ar m (.f f caps)=(E.evs J ar).bind fun vs=>results fl m J (fn f vs.length (vs++caps)):=rfl
end Go.X
namespace Go.X.G
open Go Go.X
def Aj:=And.intro xe<|And.intro EVP EV
def Gp (n:Int):Int:=if n=3 then 3 else if n=2 then 1 else if n=1 then 0 else 2
def worstM (a b:Int):Int:=if Gp a=3∨Gp b=3 then 3 else if Gp a=2∨Gp b=2 then 0 else if Gp a=1∨Gp b=1 then 2 else 1
def Rc (a:Int):S Wg 1 [.i .i64 a]=some [.i .i64 (Gp a)]:=by
 refine An6 (N:=1) rfl ?_;unfold Gp;by_cases h3:a=3
 .simp(disch:=omega)only[Y3,h3,Aj,simprocAttr];try simp
 .by_cases h2:a=2
  .simp(disch:=omega)only[Y3,h2,Aj,simprocAttr];try simp
  .by_cases h1:a=1
   .simp(disch:=omega)only[Y3,h1,Aj,simprocAttr];try simp
   .simp(disch:=omega)only[Y3,h1,h2,h3,Aj,simprocAttr];try simp[h1,h2,h3]
def rank_rng (a:Int):Gp a=0∨Gp a=1∨Gp a=2∨Gp a=3:=by
 unfold Gp;split
 .simp
 .split
  .simp
  .split<;>simp
def Gw (a b:Int):S Kd 2 [.i .i64 a,.i .i64 b]=some [.i .i64 (worstM a b)]:=by have k1:=Rc a;have k2:=Rc b;unfold worstM;refine An8 (N:=1) rfl ?_;have hl:I4 1 [.i .i64 1,.i .i64 2,.i .i64 0,.i .i64 3]=some (.l 1 [.i .i64 1,.i .i64 2,.i .i64 0,.i .i64 3]):=rfl;rcases rank_rng a with h|h|h|h<;>rcases rank_rng b with g|g|g|g<;>rw[h] at k1 ⊢<;>rw[g] at k2 ⊢<;>simp(disch:=omega)only[Af5,k1,k2,hl,Y5,Az5,Aj,simprocAttr]<;>rfl
def Uy (a b:Int):S W4 2 [.i .i64 a,.i .i64 b]=some [.i .i64 (worstM a b)]:=by
 refine An7 (N:=1) rfl ?_;unfold worstM Gp;by_cases a3:a=3
 .simp(disch:=omega)only[J3,a3,Aj,simprocAttr];try simp
 .by_cases b3:b=3
  .simp(disch:=omega)only[J3,a3,b3,Aj,simprocAttr];try simp
  .by_cases a2:a=2
   .by_cases b2:b=2
    .simp(disch:=omega)only[J3,a2,b2,Aj,simprocAttr];try simp
    .by_cases b1:b=1
     .simp(disch:=omega)only[J3,a2,b1,Aj,simprocAttr];try simp
     .simp(disch:=omega)only[J3,a2,b1,b2,b3,Aj,simprocAttr];try simp[b1,b2,b3]
   .by_cases a1:a=1
    .by_cases b2:b=2
     .simp(disch:=omega)only[J3,a1,b2,Aj,simprocAttr];try simp
     .by_cases b1:b=1
      .simp(disch:=omega)only[J3,a1,b1,Aj,simprocAttr];try simp
      .simp(disch:=omega)only[J3,a1,b1,b2,b3,Aj,simprocAttr];try simp[b1,b2,b3]
    .by_cases b2:b=2
     .simp(disch:=omega)only[J3,a1,a2,a3,b2,Aj,simprocAttr];try simp[a1,a2,a3]
     .by_cases b1:b=1
      .simp(disch:=omega)only[J3,a1,a2,a3,b1,Aj,simprocAttr];try simp[a1,a2,a3]
      .simp(disch:=omega)only[J3,a1,a2,a3,b1,b2,b3,Aj,simprocAttr];try simp[a1,a2,a3,b1,b2,b3]
def Sf (a b:Int):worstM a b=worstM b a:=by unfold worstM;rcases rank_rng a with h|h|h|h<;>rcases rank_rng b with g|g|g|g<;>rw[h,g]<;>rfl
def Lf (a b:Int):Gp (worstM a b)=max (Gp a) (Gp b):=by unfold worstM;rcases rank_rng a with h|h|h|h<;>rcases rank_rng b with g|g|g|g<;>rw[h,g]<;>rfl
def Pp (a b c:Int):worstM (worstM a b) c=worstM a (worstM b c):=by have h1:=Lf a b;have h2:=Lf b c;generalize worstM a b=p at*;generalize worstM b c=q at*;unfold worstM;rw[h1,h2];rcases rank_rng a with h|h|h|h<;>rcases rank_rng b with g|g|g|g<;>rcases rank_rng c with k|k|k|k<;>rw[h,g,k]<;>rfl
def Sd (a:Int):worstM a a=if a<0∨3<a then 0 else a:=by
 unfold worstM Gp;by_cases a3:a=3
 .subst a3;rfl
 .by_cases a2:a=2
  .subst a2;rfl
  .by_cases a1:a=1
   .subst a1;rfl
   .by_cases a0:a=0
    .subst a0;rfl
    .rw[show (if a<0∨3<a then(0:Int) else a)=0 from if_pos (by omega)];simp[a1,a2,a3]
def law_ValidateWorst (a b c:Int) (ha:Nc a) (hb:Nc b) (hc:Nc c):S Ad0 3 [.i .i64 a,.i .i64 b,.i .i64 c]=some [.b true]:=by
 have k0:=Uk;have k1:=Gw a b;have k2:=Gw a a;have k3:=Uy a b;have k4:=Gw b a;have k5:=Gw (worstM a b) c;have k6:=Gw b c;have k7:=Gw a (worstM b c);rw[Sf b a] at k4;rw[Pp] at k5;rw[Sd] at k2;refine At4 (N:=1) rfl ?_;generalize worstM a (worstM b c)=w3 at*;generalize worstM b c=w2 at*;generalize worstM a b=w1 at*;by_cases h:a<0
 .rw[if_pos (.inl h)] at k2;simp(disch:=omega)only[Af4,k0,k1,k2,k3,k4,h,Aj,simprocAttr]
  try simp
 .by_cases h2:3<a
  .rw[if_pos (.inr h2)] at k2;simp(disch:=omega)only[Af4,k0,k1,k2,k3,k4,h,h2,Aj,simprocAttr]
   try simp
  .rw[if_neg (by omega)] at k2;simp(disch:=omega)only[Af4,k0,k1,k2,k3,k4,k5,k6,k7,h,h2,Aj,simprocAttr]
   try simp
end Go.X.G
