/- The program's data out of the readings. -/
import Derived.Test.YtjakmljndnkplaaGreatDoorProveSignedG8
open List renaming mem_cons->Cj,mem_cons_self->H7,mem_cons_of_mem->Qk
set_option maxHeartbeats 1000000
set_option linter.defProp false
set_option linter.unusedVariables false
set_option linter.unusedSimpArgs false
namespace Go.X
open Go
def Gw2:Sh:= .st [.st [.b,.i .u64,.i .u64],.s,.s,.s,.i .i64,.i .i64,.i .i64,.i .i64,.i .i64,.i .i64,.i .u64]
def X9:Sh:= .st [.s,.i .i64,.i .i64,Gw2]
def Bt4:Sh:= .l X9
def j7:Sh:= .st [.s,Bt4]
def E2 {f:Sh} {fs:List Sh} {cs:List PV} (h:Sh.okCs (f::fs) cs):∃a b,cs=a++b∧f.okC a∧Sh.okCs fs b:=by simpa only[Sh.okCs] using h
def Q0 {cs:List PV} (h:Sh.okCs [] cs):cs=[]:=by simpa only[Sh.okCs] using h
def lp {fs:List Sh} {cs:List PV} (h:(Sh.st fs).okC cs):Sh.okCs fs cs:=by simpa only[Sh.okC] using h
def Bj6 {cs:List PV} (h:Sh.s.okC cs):∃x,cs=[.s x]∧Uw x:=by simp only[Sh.okC] at h;exact h
def Hl7 {cs:List PV} (h:Sh.b.okC cs):∃x,cs=[.b x]:=by simpa only[Sh.okC] using h
def My {cs:List PV} (h:(Sh.i .i64).okC cs):∃x,cs=[.i .i64 x]∧R6 x:=by simp only[Sh.okC] at h;exact h
def u6 {cs:List PV} (h:(Sh.i .u64).okC cs):∃x,cs=[.i .u64 x]∧Dd4 x:=by simp only[Sh.okC] at h;exact h
def Gm9 {cs:List PV} (h:Gw2.okC cs):∃d:Dat,d.wf∧cs=d.cells:=by obtain⟨c0,r0,rfl,h0,h⟩:=E2 (lp h);obtain⟨a1,r1,rfl,h1,h⟩:=E2 h;obtain⟨a2,r2,rfl,h2,h⟩:=E2 h;obtain⟨a3,r3,rfl,h3,h⟩:=E2 h;obtain⟨a4,r4,rfl,h4,h⟩:=E2 h;obtain⟨a5,r5,rfl,h5,h⟩:=E2 h;obtain⟨a6,r6,rfl,h6,h⟩:=E2 h;obtain⟨a7,r7,rfl,h7,h⟩:=E2 h;obtain⟨a8,r8,rfl,h8,h⟩:=E2 h;obtain⟨a9,r9,rfl,h9,h⟩:=E2 h;obtain⟨a10,r10,rfl,h10,h⟩:=E2 h;obtain rfl:=Q0 h;obtain⟨b0,s0,rfl,g0,g⟩:=E2 (lp h0);obtain⟨b1,s1,rfl,g1,g⟩:=E2 g;obtain⟨b2,s2,rfl,g2,g⟩:=E2 g;obtain rfl:=Q0 g;obtain⟨v6,rfl⟩:=Hl7 g0;obtain⟨hi,rfl,k1⟩:=u6 g1;obtain⟨lo,rfl,k2⟩:=u6 g2;obtain⟨x1,rfl,k3⟩:=Bj6 h1;obtain⟨x2,rfl,k4⟩:=Bj6 h2;obtain⟨x3,rfl,k5⟩:=Bj6 h3;obtain⟨x4,rfl,k6⟩:=My h4;obtain⟨x5,rfl,k7⟩:=My h5;obtain⟨x6,rfl,k8⟩:=My h6;obtain⟨x7,rfl,k9⟩:=My h7;obtain⟨x8,rfl,k10⟩:=My h8;obtain⟨x9,rfl,k11⟩:=My h9;obtain⟨x10,rfl,k12⟩:=u6 h10;exact⟨⟨v6,hi,lo,x1,x2,x3,x4,x5,x6,x7,x8,x9,x10⟩,⟨k1,k2,k3,k4,k5,k6,k7,k8,k9,k10,k11,k12⟩,rfl⟩
def Gm8 {cs:List PV} (h:X9.okC cs):∃r:Rec,r.wf∧cs=r.cells:=by obtain⟨a0,r0,rfl,h0,h⟩:=E2 (lp h);obtain⟨a1,r1,rfl,h1,h⟩:=E2 h;obtain⟨a2,r2,rfl,h2,h⟩:=E2 h;obtain⟨a3,r3,rfl,h3,h⟩:=E2 h;obtain rfl:=Q0 h;obtain⟨x0,rfl,k0⟩:=Bj6 h0;obtain⟨x1,rfl,k1⟩:=My h1;obtain⟨x2,rfl,k2⟩:=My h2;obtain⟨d,k3,rfl⟩:=Gm9 h3;exact⟨⟨x0,x1,x2,d⟩,⟨k0,k1,k2,k3⟩,by simp[Rec.cells]⟩
def Fy9 {cs:List PV} (h:Bt4.okC cs):∃l:List Rec,Ck9 l∧cs=[B6 l]:=by
 have h':∃xs,cs=[.l X9.size xs]∧xs.length<=maxLen∧∀x,x∈xs->if X9.agg then∃ds,x= .a ds∧X9.okC ds else x.scal=true∧X9.okC [x]:=by unfold Bt4 at h;simpa only[Sh.okC] using h
 obtain⟨xs,rfl,hl,hx⟩:=h';have go:∀xs:List PV,(∀x,x∈xs->if X9.agg then∃ds,x= .a ds∧X9.okC ds else x.scal=true∧X9.okC [x])->∃l:List Rec,(∀r∈l,r.wf)∧xs=l.map Rec.pv:=by
  intro xs
  induction xs with
  |nil=>exact fun _=>⟨[],fun r h=>(by cases h),rfl⟩
  |cons x xs ih=>
   intro hx;obtain⟨l,h1,rfl⟩:=ih (fun y hy=>hx y (Qk _ hy));have:=hx x (H7 ..);obtain⟨ds,rfl,hd⟩:∃ds,x= .a ds∧X9.okC ds:=this;obtain⟨r,hr,rfl⟩:=Gm8 hd;refine⟨r::l,fun y hy=> ?_,rfl⟩;rcases Cj.1 hy with rfl|hy
   .exact hr
   .exact h1 y hy
 obtain⟨l,h1,rfl⟩:=go xs hx;exact⟨l,⟨by simpa [maxLen] using hl,h1⟩,rfl⟩
def Fy8 {p:PV} (h:j7.ok p):∃z:Zone,z.wf∧p=z.pv:=by obtain⟨ds,rfl,h⟩:∃ds,p= .a ds∧j7.okC ds:=h;obtain⟨a0,r0,rfl,h0,h⟩:=E2 (lp h);obtain⟨a1,r1,rfl,h1,h⟩:=E2 h;obtain rfl:=Q0 h;obtain⟨x0,rfl,k0⟩:=Bj6 h0;obtain⟨l,k1,rfl⟩:=Fy9 h1;exact⟨⟨x0,l⟩,⟨k0,k1⟩,rfl⟩
def Ds2 {p:PV} (h:j7.ok p):∃z:Zone,z.wf∧p=z.pv:=Fy8 h
def Ax7 {h0:Sh} {hs:List Sh}:∀{qs:List PV},Oks (h0::hs) qs->∃p q,qs=p::q∧h0.ok p∧Oks hs q
 |[],h=>by cases h
 |p::q,h=>⟨p,q,rfl,h.1,h.2⟩
def Fy7:∀{qs:List PV},Oks [] qs->qs=[]
 |[],_=>rfl
 |_::_,h=>by cases h
end Go.X
