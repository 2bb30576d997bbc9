/- The program's data out of the readings. -/
import Derived.Test.YtjjbngkgndckcaaGreatDoorValidateSetsG8
open List renaming mem_cons->Cg,mem_cons_self->Im,mem_cons_of_mem->Jv
set_option maxHeartbeats 1000000
set_option linter.defProp false
set_option linter.unusedVariables false
set_option linter.unusedSimpArgs false
namespace Go.X
open Go
def Ad0:Sh:= .st [.st [.b,.i .u64,.i .u64],.s,.s,.s,.i .i64,.i .i64,.i .i64,.i .i64,.i .i64,.i .i64,.i .u64]
def T1:Sh:= .st [.s,.i .i64,.i .i64,Ad0]
def Ut:Sh:= .l T1
def Ek {f:Sh} {fs:List Sh} {cs:List PV} (h:Sh.okCs (f::fs) cs):∃a b,cs=a++b∧f.okC a∧Sh.okCs fs b:=by simpa only[Sh.okCs] using h
def Ns {cs:List PV} (h:Sh.okCs [] cs):cs=[]:=by simpa only[Sh.okCs] using h
def Z2 {fs:List Sh} {cs:List PV} (h:(Sh.st fs).okC cs):Sh.okCs fs cs:=by simpa only[Sh.okC] using h
def wk {cs:List PV} (h:Sh.s.okC cs):∃x,cs=[.s x]∧d4 x:=by simp only[Sh.okC] at h;exact h
def Gy9 {cs:List PV} (h:Sh.b.okC cs):∃x,cs=[.b x]:=by simpa only[Sh.okC] using h
def Jb {cs:List PV} (h:(Sh.i .i64).okC cs):∃x,cs=[.i .i64 x]∧cw x:=by simp only[Sh.okC] at h;exact h
def gz {cs:List PV} (h:(Sh.i .u64).okC cs):∃x,cs=[.i .u64 x]∧Y7 x:=by simp only[Sh.okC] at h;exact h
def Cm7 {cs:List PV} (h:Ad0.okC cs):∃d:Dat,d.wf∧cs=d.cells:=by obtain⟨c0,r0,rfl,h0,h⟩:=Ek (Z2 h);obtain⟨a1,r1,rfl,h1,h⟩:=Ek h;obtain⟨a2,r2,rfl,h2,h⟩:=Ek h;obtain⟨a3,r3,rfl,h3,h⟩:=Ek h;obtain⟨a4,r4,rfl,h4,h⟩:=Ek h;obtain⟨a5,r5,rfl,h5,h⟩:=Ek h;obtain⟨a6,r6,rfl,h6,h⟩:=Ek h;obtain⟨a7,r7,rfl,h7,h⟩:=Ek h;obtain⟨a8,r8,rfl,h8,h⟩:=Ek h;obtain⟨a9,r9,rfl,h9,h⟩:=Ek h;obtain⟨a10,r10,rfl,h10,h⟩:=Ek h;obtain rfl:=Ns h;obtain⟨b0,s0,rfl,g0,g⟩:=Ek (Z2 h0);obtain⟨b1,s1,rfl,g1,g⟩:=Ek g;obtain⟨b2,s2,rfl,g2,g⟩:=Ek g;obtain rfl:=Ns g;obtain⟨v6,rfl⟩:=Gy9 g0;obtain⟨hi,rfl,k1⟩:=gz g1;obtain⟨lo,rfl,k2⟩:=gz g2;obtain⟨x1,rfl,k3⟩:=wk h1;obtain⟨x2,rfl,k4⟩:=wk h2;obtain⟨x3,rfl,k5⟩:=wk h3;obtain⟨x4,rfl,k6⟩:=Jb h4;obtain⟨x5,rfl,k7⟩:=Jb h5;obtain⟨x6,rfl,k8⟩:=Jb h6;obtain⟨x7,rfl,k9⟩:=Jb h7;obtain⟨x8,rfl,k10⟩:=Jb h8;obtain⟨x9,rfl,k11⟩:=Jb h9;obtain⟨x10,rfl,k12⟩:=gz h10;exact⟨⟨v6,hi,lo,x1,x2,x3,x4,x5,x6,x7,x8,x9,x10⟩,⟨k1,k2,k3,k4,k5,k6,k7,k8,k9,k10,k11,k12⟩,rfl⟩
def Fx2 {cs:List PV} (h:T1.okC cs):∃r:Rec,r.wf∧cs=r.cells:=by obtain⟨a0,r0,rfl,h0,h⟩:=Ek (Z2 h);obtain⟨a1,r1,rfl,h1,h⟩:=Ek h;obtain⟨a2,r2,rfl,h2,h⟩:=Ek h;obtain⟨a3,r3,rfl,h3,h⟩:=Ek h;obtain rfl:=Ns h;obtain⟨x0,rfl,k0⟩:=wk h0;obtain⟨x1,rfl,k1⟩:=Jb h1;obtain⟨x2,rfl,k2⟩:=Jb h2;obtain⟨d,k3,rfl⟩:=Cm7 h3;exact⟨⟨x0,x1,x2,d⟩,⟨k0,k1,k2,k3⟩,by simp[Rec.cells]⟩
def Dd3 {cs:List PV} (h:Ut.okC cs):∃l:List Rec,gj l∧cs=[B9 l]:=by
 have h':∃xs,cs=[.l T1.size xs]∧xs.length<=maxLen∧∀x,x∈xs->if T1.agg then∃ds,x= .a ds∧T1.okC ds else x.scal=true∧T1.okC [x]:=by unfold Ut at h;simpa only[Sh.okC] using h
 obtain⟨xs,rfl,hl,hx⟩:=h';have go:∀xs:List PV,(∀x,x∈xs->if T1.agg then∃ds,x= .a ds∧T1.okC ds else x.scal=true∧T1.okC [x])->∃l:List Rec,(∀r∈l,r.wf)∧xs=l.map Rec.pv:=by
  intro xs
  induction xs with
  |nil=>exact fun _=>⟨[],fun r h=>(by cases h),rfl⟩
  |cons x xs ih=>
   intro hx;obtain⟨l,h1,rfl⟩:=ih (fun y hy=>hx y (Jv _ hy));have:=hx x (Im ..);obtain⟨ds,rfl,hd⟩:∃ds,x= .a ds∧T1.okC ds:=this;obtain⟨r,hr,rfl⟩:=Fx2 hd;refine⟨r::l,fun y hy=> ?_,rfl⟩;rcases Cg.1 hy with rfl|hy
   .exact hr
   .exact h1 y hy
 obtain⟨l,h1,rfl⟩:=go xs hx;exact⟨l,⟨by simpa [maxLen] using hl,h1⟩,rfl⟩
def Cq5 {p:PV} (h:Ut.ok p):∃l,gj l∧p=B9 l:=by have h':p.scal=true∧Ut.okC [p]:=h;obtain⟨l,hl,hp⟩:=Dd3 h'.2;injection hp with hp;exact⟨l,hl,hp⟩
def W5 {h0:Sh} {hs:List Sh}:∀{qs:List PV},Oks (h0::hs) qs->∃p q,qs=p::q∧h0.ok p∧Oks hs q
 |[],h=>by cases h
 |p::q,h=>⟨p,q,rfl,h.1,h.2⟩
def Dd2:∀{qs:List PV},Oks [] qs->qs=[]
 |[],_=>rfl
 |_::_,h=>by cases h
end Go.X
