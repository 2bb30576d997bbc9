/- The program's data out of the readings. -/
import Derived.Test.YtfnmphjdknjkmaaGreatDoorNsecCoversG8
set_option maxHeartbeats 1000000
set_option linter.unusedVariables false
set_option linter.unusedSimpArgs false
namespace Go.X
open Go
def Hq5:Sh:= .st [.st [.b, .i .u64, .i .u64], .s, .s, .s, .i .i64, .i .i64, .i .i64, .i .i64, .i .i64, .i .i64, .i .u64]
def Bk6:Sh:= .st [.s, .i .i64, .i .i64,Hq5]
theorem Dn {f:Sh} {fs:List Sh} {cs:List PV} (h:Sh.okCs (f::fs) cs):∃a b,cs=a++b∧f.okC a∧Sh.okCs fs b:=by simpa only [Sh.okCs] using h
theorem Wn {cs:List PV} (h:Sh.okCs [] cs):cs=[]:=by simpa only [Sh.okCs] using h
theorem Bf5 {fs:List Sh} {cs:List PV} (h:(Sh.st fs).okC cs):Sh.okCs fs cs:=by simpa only [Sh.okC] using h
theorem Bf6 {cs:List PV} (h:Sh.s.okC cs):∃x,cs=[.s x]∧S7 x:=by simp only [Sh.okC] at h;exact h
theorem Ir6 {cs:List PV} (h:Sh.b.okC cs):∃x,cs=[.b x]:=by simpa only [Sh.okC] using h
theorem K3 {cs:List PV} (h:(Sh.i .i64).okC cs):∃x,cs=[.i .i64 x]∧fy x:=by simp only [Sh.okC] at h;exact h
theorem i4 {cs:List PV} (h:(Sh.i .u64).okC cs):∃x,cs=[.i .u64 x]∧Gn4 x:=by simp only [Sh.okC] at h;exact h
theorem Hg7 {cs:List PV} (h:Hq5.okC cs):∃d:Dat,d.wf∧cs=d.cells:=by obtain ⟨c0,r0,rfl,h0,h⟩:=Dn (Bf5 h);obtain ⟨a1,r1,rfl,h1,h⟩:=Dn h;obtain ⟨a2,r2,rfl,h2,h⟩:=Dn h;obtain ⟨a3,r3,rfl,h3,h⟩:=Dn h;obtain ⟨a4,r4,rfl,h4,h⟩:=Dn h;obtain ⟨a5,r5,rfl,h5,h⟩:=Dn h;obtain ⟨a6,r6,rfl,h6,h⟩:=Dn h;obtain ⟨a7,r7,rfl,h7,h⟩:=Dn h;obtain ⟨a8,r8,rfl,h8,h⟩:=Dn h;obtain ⟨a9,r9,rfl,h9,h⟩:=Dn h;obtain ⟨a10,r10,rfl,h10,h⟩:=Dn h;obtain rfl:=Wn h;obtain ⟨b0,s0,rfl,g0,g⟩:=Dn (Bf5 h0);obtain ⟨b1,s1,rfl,g1,g⟩:=Dn g;obtain ⟨b2,s2,rfl,g2,g⟩:=Dn g;obtain rfl:=Wn g;obtain ⟨v6,rfl⟩:=Ir6 g0;obtain ⟨hi,rfl,k1⟩:=i4 g1;obtain ⟨lo,rfl,k2⟩:=i4 g2;obtain ⟨x1,rfl,k3⟩:=Bf6 h1;obtain ⟨x2,rfl,k4⟩:=Bf6 h2;obtain ⟨x3,rfl,k5⟩:=Bf6 h3;obtain ⟨x4,rfl,k6⟩:=K3 h4;obtain ⟨x5,rfl,k7⟩:=K3 h5;obtain ⟨x6,rfl,k8⟩:=K3 h6;obtain ⟨x7,rfl,k9⟩:=K3 h7;obtain ⟨x8,rfl,k10⟩:=K3 h8;obtain ⟨x9,rfl,k11⟩:=K3 h9;obtain ⟨x10,rfl,k12⟩:=i4 h10;exact ⟨⟨v6,hi,lo,x1,x2,x3,x4,x5,x6,x7,x8,x9,x10⟩,⟨k1,k2,k3,k4,k5,k6,k7,k8,k9,k10,k11,k12⟩,rfl⟩
theorem Hg6 {cs:List PV} (h:Bk6.okC cs):∃r:Rec,r.wf∧cs=r.cells:=by obtain ⟨a0,r0,rfl,h0,h⟩:=Dn (Bf5 h);obtain ⟨a1,r1,rfl,h1,h⟩:=Dn h;obtain ⟨a2,r2,rfl,h2,h⟩:=Dn h;obtain ⟨a3,r3,rfl,h3,h⟩:=Dn h;obtain rfl:=Wn h;obtain ⟨x0,rfl,k0⟩:=Bf6 h0;obtain ⟨x1,rfl,k1⟩:=K3 h1;obtain ⟨x2,rfl,k2⟩:=K3 h2;obtain ⟨d,k3,rfl⟩:=Hg7 h3;exact ⟨⟨x0,x1,x2,d⟩,⟨k0,k1,k2,k3⟩,by simp [Rec.cells]⟩
theorem Bf7 {p:PV} (h:Sh.s.ok p):∃x,S7 x∧p= .s x:=by have h':p.scal=true∧Sh.s.okC [p]:=h;obtain ⟨x,hx,hs⟩:=Bf6 h'.2;injection hx with hx;exact ⟨x,hs,hx⟩
theorem Gk6 {p:PV} (h:Bk6.ok p):∃r:Rec,r.wf∧p=r.pv:=by obtain ⟨ds,rfl,h⟩:∃ds,p= .a ds∧Bk6.okC ds:=h;obtain ⟨r,hr,rfl⟩:=Hg6 h;exact ⟨r,hr,rfl⟩
theorem Wm {h0:Sh} {hs:List Sh}:∀{qs:List PV},Oks (h0::hs) qs→∃p q,qs=p::q∧h0.ok p∧Oks hs q
 |[],h=>by cases h
 |p::q,h=>⟨p,q,rfl,h.1,h.2⟩
theorem Gk5:∀{qs:List PV},Oks [] qs→qs=[]
 |[],_=>rfl
 |_::_,h=>by cases h
end Go.X
