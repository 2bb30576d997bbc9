/- The program's data out of the readings. -/
import Derived.Test.YtkpbcoeiijddpaaGreatDoorRrsetComparesG8
set_option maxHeartbeats 1000000
set_option linter.unusedVariables false
set_option linter.unusedSimpArgs false
namespace Go.X
open Go
def Dn5:Sh:= .st [.st [.b, .i .u64, .i .u64], .s, .s, .s, .i .i64, .i .i64, .i .i64, .i .i64, .i .i64, .i .i64, .i .u64]
def Uv:Sh:= .st [.s, .i .i64, .i .i64,Dn5]
theorem C2 {f:Sh} {fs:List Sh} {cs:List PV} (h:Sh.okCs (f::fs) cs):∃a b,cs=a++b∧f.okC a∧Sh.okCs fs b:=by simpa only [Sh.okCs] using h
theorem Ph {cs:List PV} (h:Sh.okCs [] cs):cs=[]:=by simpa only [Sh.okCs] using h
theorem i7 {fs:List Sh} {cs:List PV} (h:(Sh.st fs).okC cs):Sh.okCs fs cs:=by simpa only [Sh.okC] using h
theorem As3 {cs:List PV} (h:Sh.s.okC cs):∃x,cs=[.s x]∧Y5 x:=by simp only [Sh.okC] at h;exact h
theorem Fd1 {cs:List PV} (h:Sh.b.okC cs):∃x,cs=[.b x]:=by simpa only [Sh.okC] using h
theorem Hm {cs:List PV} (h:(Sh.i .i64).okC cs):∃x,cs=[.i .i64 x]∧Yq x:=by simp only [Sh.okC] at h;exact h
theorem Ul {cs:List PV} (h:(Sh.i .u64).okC cs):∃x,cs=[.i .u64 x]∧Et3 x:=by simp only [Sh.okC] at h;exact h
theorem Ej9 {cs:List PV} (h:Dn5.okC cs):∃d:Dat,d.wf∧cs=d.cells:=by obtain ⟨c0,r0,rfl,h0,h⟩:=C2 (i7 h);obtain ⟨a1,r1,rfl,h1,h⟩:=C2 h;obtain ⟨a2,r2,rfl,h2,h⟩:=C2 h;obtain ⟨a3,r3,rfl,h3,h⟩:=C2 h;obtain ⟨a4,r4,rfl,h4,h⟩:=C2 h;obtain ⟨a5,r5,rfl,h5,h⟩:=C2 h;obtain ⟨a6,r6,rfl,h6,h⟩:=C2 h;obtain ⟨a7,r7,rfl,h7,h⟩:=C2 h;obtain ⟨a8,r8,rfl,h8,h⟩:=C2 h;obtain ⟨a9,r9,rfl,h9,h⟩:=C2 h;obtain ⟨a10,r10,rfl,h10,h⟩:=C2 h;obtain rfl:=Ph h;obtain ⟨b0,s0,rfl,g0,g⟩:=C2 (i7 h0);obtain ⟨b1,s1,rfl,g1,g⟩:=C2 g;obtain ⟨b2,s2,rfl,g2,g⟩:=C2 g;obtain rfl:=Ph g;obtain ⟨v6,rfl⟩:=Fd1 g0;obtain ⟨hi,rfl,k1⟩:=Ul g1;obtain ⟨lo,rfl,k2⟩:=Ul g2;obtain ⟨x1,rfl,k3⟩:=As3 h1;obtain ⟨x2,rfl,k4⟩:=As3 h2;obtain ⟨x3,rfl,k5⟩:=As3 h3;obtain ⟨x4,rfl,k6⟩:=Hm h4;obtain ⟨x5,rfl,k7⟩:=Hm h5;obtain ⟨x6,rfl,k8⟩:=Hm h6;obtain ⟨x7,rfl,k9⟩:=Hm h7;obtain ⟨x8,rfl,k10⟩:=Hm h8;obtain ⟨x9,rfl,k11⟩:=Hm h9;obtain ⟨x10,rfl,k12⟩:=Ul h10;exact ⟨⟨v6,hi,lo,x1,x2,x3,x4,x5,x6,x7,x8,x9,x10⟩,⟨k1,k2,k3,k4,k5,k6,k7,k8,k9,k10,k11,k12⟩,rfl⟩
theorem Ej8 {cs:List PV} (h:Uv.okC cs):∃r:Rec,r.wf∧cs=r.cells:=by obtain ⟨a0,r0,rfl,h0,h⟩:=C2 (i7 h);obtain ⟨a1,r1,rfl,h1,h⟩:=C2 h;obtain ⟨a2,r2,rfl,h2,h⟩:=C2 h;obtain ⟨a3,r3,rfl,h3,h⟩:=C2 h;obtain rfl:=Ph h;obtain ⟨x0,rfl,k0⟩:=As3 h0;obtain ⟨x1,rfl,k1⟩:=Hm h1;obtain ⟨x2,rfl,k2⟩:=Hm h2;obtain ⟨d,k3,rfl⟩:=Ej9 h3;exact ⟨⟨x0,x1,x2,d⟩,⟨k0,k1,k2,k3⟩,by simp [Rec.cells]⟩
theorem i8 {p:PV} (h:Uv.ok p):∃r:Rec,r.wf∧p=r.pv:=by obtain ⟨ds,rfl,h⟩:∃ds,p= .a ds∧Uv.okC ds:=h;obtain ⟨r,hr,rfl⟩:=Ej8 h;exact ⟨r,hr,rfl⟩
theorem Xl {h0:Sh} {hs:List Sh}:∀{qs:List PV},Oks (h0::hs) qs→∃p q,qs=p::q∧h0.ok p∧Oks hs q
 |[],h=>by cases h
 |p::q,h=>⟨p,q,rfl,h.1,h.2⟩
theorem Cg2:∀{qs:List PV},Oks [] qs→qs=[]
 |[],_=>rfl
 |_::_,h=>by cases h
end Go.X
