/- The program's data out of the readings. -/
import Derived.Test.YtdljoocpdjbhfaaGreatDoorTrustServerG8
open List renaming mem_cons→An,mem_cons_self→Gw,mem_cons_of_mem→Nn
set_option maxHeartbeats 1000000
set_option linter.unusedVariables false
set_option linter.unusedSimpArgs false
namespace Go.X
open Go
def Iy1:Sh:= .st [.st [.b, .i .u64, .i .u64], .s, .s, .s, .i .i64, .i .i64, .i .i64, .i .i64, .i .i64, .i .i64, .i .u64]
def U3:Sh:= .st [.s, .i .i64, .i .i64,Iy1]
def Bz5:Sh:= .l U3
def dv:Sh:= .st [.s,Bz5]
theorem Dx {f:Sh} {fs:List Sh} {cs:List PV} (h:Sh.okCs (f::fs) cs):∃a b,cs=a++b∧f.okC a∧Sh.okCs fs b:=by simpa only [Sh.okCs] using h
theorem Oy {cs:List PV} (h:Sh.okCs [] cs):cs=[]:=by simpa only [Sh.okCs] using h
theorem ed {fs:List Sh} {cs:List PV} (h:(Sh.st fs).okC cs):Sh.okCs fs cs:=by simpa only [Sh.okC] using h
theorem Al8 {cs:List PV} (h:Sh.s.okC cs):∃x,cs=[.s x]∧Jl x:=by simp only [Sh.okC] at h;exact h
theorem Kj8 {cs:List PV} (h:Sh.b.okC cs):∃x,cs=[.b x]:=by simpa only [Sh.okC] using h
theorem Kb {cs:List PV} (h:(Sh.i .i64).okC cs):∃x,cs=[.i .i64 x]∧Is x:=by simp only [Sh.okC] at h;exact h
theorem nd {cs:List PV} (h:(Sh.i .u64).okC cs):∃x,cs=[.i .u64 x]∧Ex2 x:=by simp only [Sh.okC] at h;exact h
theorem Im5 {cs:List PV} (h:Iy1.okC cs):∃d:Dat,d.wf∧cs=d.cells:=by obtain ⟨c0,r0,rfl,h0,h⟩:=Dx (ed h);obtain ⟨a1,r1,rfl,h1,h⟩:=Dx h;obtain ⟨a2,r2,rfl,h2,h⟩:=Dx h;obtain ⟨a3,r3,rfl,h3,h⟩:=Dx h;obtain ⟨a4,r4,rfl,h4,h⟩:=Dx h;obtain ⟨a5,r5,rfl,h5,h⟩:=Dx h;obtain ⟨a6,r6,rfl,h6,h⟩:=Dx h;obtain ⟨a7,r7,rfl,h7,h⟩:=Dx h;obtain ⟨a8,r8,rfl,h8,h⟩:=Dx h;obtain ⟨a9,r9,rfl,h9,h⟩:=Dx h;obtain ⟨a10,r10,rfl,h10,h⟩:=Dx h;obtain rfl:=Oy h;obtain ⟨b0,s0,rfl,g0,g⟩:=Dx (ed h0);obtain ⟨b1,s1,rfl,g1,g⟩:=Dx g;obtain ⟨b2,s2,rfl,g2,g⟩:=Dx g;obtain rfl:=Oy g;obtain ⟨v6,rfl⟩:=Kj8 g0;obtain ⟨hi,rfl,k1⟩:=nd g1;obtain ⟨lo,rfl,k2⟩:=nd g2;obtain ⟨x1,rfl,k3⟩:=Al8 h1;obtain ⟨x2,rfl,k4⟩:=Al8 h2;obtain ⟨x3,rfl,k5⟩:=Al8 h3;obtain ⟨x4,rfl,k6⟩:=Kb h4;obtain ⟨x5,rfl,k7⟩:=Kb h5;obtain ⟨x6,rfl,k8⟩:=Kb h6;obtain ⟨x7,rfl,k9⟩:=Kb h7;obtain ⟨x8,rfl,k10⟩:=Kb h8;obtain ⟨x9,rfl,k11⟩:=Kb h9;obtain ⟨x10,rfl,k12⟩:=nd h10;exact ⟨⟨v6,hi,lo,x1,x2,x3,x4,x5,x6,x7,x8,x9,x10⟩,⟨k1,k2,k3,k4,k5,k6,k7,k8,k9,k10,k11,k12⟩,rfl⟩
theorem Im4 {cs:List PV} (h:U3.okC cs):∃r:Rec,r.wf∧cs=r.cells:=by obtain ⟨a0,r0,rfl,h0,h⟩:=Dx (ed h);obtain ⟨a1,r1,rfl,h1,h⟩:=Dx h;obtain ⟨a2,r2,rfl,h2,h⟩:=Dx h;obtain ⟨a3,r3,rfl,h3,h⟩:=Dx h;obtain rfl:=Oy h;obtain ⟨x0,rfl,k0⟩:=Al8 h0;obtain ⟨x1,rfl,k1⟩:=Kb h1;obtain ⟨x2,rfl,k2⟩:=Kb h2;obtain ⟨d,k3,rfl⟩:=Im5 h3;exact ⟨⟨x0,x1,x2,d⟩,⟨k0,k1,k2,k3⟩,by simp [Rec.cells]⟩
theorem Hw9 {cs:List PV} (h:Bz5.okC cs):∃l:List Rec,Ov l∧cs=[Ag l]:=by
 have h':∃xs,cs=[.l U3.size xs]∧xs.length≤maxLen∧∀x,x∈xs→if U3.agg then∃ds,x= .a ds∧U3.okC ds else x.scal=true∧U3.okC [x]:=by unfold Bz5 at h;simpa only [Sh.okC] using h
 obtain ⟨xs,rfl,hl,hx⟩:=h';have go:∀xs:List PV,(∀x,x∈xs→if U3.agg then∃ds,x= .a ds∧U3.okC ds else x.scal=true∧U3.okC [x])→∃l:List Rec,(∀r∈l,r.wf)∧xs=l.map Rec.pv:=by
  intro xs
  induction xs with
  |nil=>exact fun _=>⟨[],fun r h=>(by cases h),rfl⟩
  |cons x xs ih=>
   intro hx;obtain ⟨l,h1,rfl⟩:=ih (fun y hy=>hx y (Nn _ hy));have:=hx x (Gw ..);obtain ⟨ds,rfl,hd⟩:∃ds,x= .a ds∧U3.okC ds:=this;obtain ⟨r,hr,rfl⟩:=Im4 hd;refine ⟨r::l,fun y hy=> ?_,rfl⟩;rcases An.1 hy with rfl|hy
   ·exact hr
   ·exact h1 y hy
 obtain ⟨l,h1,rfl⟩:=go xs hx;exact ⟨l,⟨by simpa [maxLen] using hl,h1⟩,rfl⟩
theorem Hw8 {p:PV} (h:dv.ok p):∃z:Zone,z.wf∧p=z.pv:=by obtain ⟨ds,rfl,h⟩:∃ds,p= .a ds∧dv.okC ds:=h;obtain ⟨a0,r0,rfl,h0,h⟩:=Dx (ed h);obtain ⟨a1,r1,rfl,h1,h⟩:=Dx h;obtain rfl:=Oy h;obtain ⟨x0,rfl,k0⟩:=Al8 h0;obtain ⟨l,k1,rfl⟩:=Hw9 h1;exact ⟨⟨x0,l⟩,⟨k0,k1⟩,rfl⟩
theorem Ep3 {p:PV} (h:dv.ok p):∃z:Zone,z.wf∧p=z.pv:=Hw8 h
theorem zw {h0:Sh} {hs:List Sh}:∀{qs:List PV},Oks (h0::hs) qs→∃p q,qs=p::q∧h0.ok p∧Oks hs q
 |[],h=>by cases h
 |p::q,h=>⟨p,q,rfl,h.1,h.2⟩
theorem Hw7:∀{qs:List PV},Oks [] qs→qs=[]
 |[],_=>rfl
 |_::_,h=>by cases h
end Go.X
