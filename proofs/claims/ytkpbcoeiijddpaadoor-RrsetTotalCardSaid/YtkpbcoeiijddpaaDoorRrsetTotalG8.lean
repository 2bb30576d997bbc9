/- The program's data out of the readings. -/
import Derived.Test.YtkpbcoeiijddpaaDoorRrsetTotalG6
set_option maxHeartbeats 1000000
set_option linter.unusedVariables false
set_option linter.unusedSimpArgs false
namespace Go.X
open Go
def Bm0:Sh:= .st [.st [.b, .i .u64, .i .u64], .s, .s, .s, .i .i64, .i .i64, .i .i64, .i .i64, .i .i64, .i .i64, .i .u64]
def sw:Sh:= .st [.s, .i .i64, .i .i64,Bm0]
theorem Cb {f:Sh} {fs:List Sh} {cs:List PV} (h:Sh.okCs (f::fs) cs):∃a b,cs=a++b∧f.okC a∧Sh.okCs fs b:=by simpa only [Sh.okCs] using h
theorem K4 {cs:List PV} (h:Sh.okCs [] cs):cs=[]:=by simpa only [Sh.okCs] using h
theorem Ut {fs:List Sh} {cs:List PV} (h:(Sh.st fs).okC cs):Sh.okCs fs cs:=by simpa only [Sh.okC] using h
theorem ux {cs:List PV} (h:Sh.s.okC cs):∃x,cs=[.s x]∧rn x:=by simp only [Sh.okC] at h;exact h
theorem Dc8 {cs:List PV} (h:Sh.b.okC cs):∃x,cs=[.b x]:=by simpa only [Sh.okC] using h
theorem Hy {cs:List PV} (h:(Sh.i .i64).okC cs):∃x,cs=[.i .i64 x]∧Vv x:=by simp only [Sh.okC] at h;exact h
theorem Tj {cs:List PV} (h:(Sh.i .u64).okC cs):∃x,cs=[.i .u64 x]∧Bf2 x:=by simp only [Sh.okC] at h;exact h
theorem Br2 {cs:List PV} (h:Bm0.okC cs):∃d:Dat,d.wf∧cs=d.cells:=by obtain ⟨c0,r0,rfl,h0,h⟩:=Cb (Ut h);obtain ⟨a1,r1,rfl,h1,h⟩:=Cb h;obtain ⟨a2,r2,rfl,h2,h⟩:=Cb h;obtain ⟨a3,r3,rfl,h3,h⟩:=Cb h;obtain ⟨a4,r4,rfl,h4,h⟩:=Cb h;obtain ⟨a5,r5,rfl,h5,h⟩:=Cb h;obtain ⟨a6,r6,rfl,h6,h⟩:=Cb h;obtain ⟨a7,r7,rfl,h7,h⟩:=Cb h;obtain ⟨a8,r8,rfl,h8,h⟩:=Cb h;obtain ⟨a9,r9,rfl,h9,h⟩:=Cb h;obtain ⟨a10,r10,rfl,h10,h⟩:=Cb h;obtain rfl:=K4 h;obtain ⟨b0,s0,rfl,g0,g⟩:=Cb (Ut h0);obtain ⟨b1,s1,rfl,g1,g⟩:=Cb g;obtain ⟨b2,s2,rfl,g2,g⟩:=Cb g;obtain rfl:=K4 g;obtain ⟨v6,rfl⟩:=Dc8 g0;obtain ⟨hi,rfl,k1⟩:=Tj g1;obtain ⟨lo,rfl,k2⟩:=Tj g2;obtain ⟨x1,rfl,k3⟩:=ux h1;obtain ⟨x2,rfl,k4⟩:=ux h2;obtain ⟨x3,rfl,k5⟩:=ux h3;obtain ⟨x4,rfl,k6⟩:=Hy h4;obtain ⟨x5,rfl,k7⟩:=Hy h5;obtain ⟨x6,rfl,k8⟩:=Hy h6;obtain ⟨x7,rfl,k9⟩:=Hy h7;obtain ⟨x8,rfl,k10⟩:=Hy h8;obtain ⟨x9,rfl,k11⟩:=Hy h9;obtain ⟨x10,rfl,k12⟩:=Tj h10;exact ⟨⟨v6,hi,lo,x1,x2,x3,x4,x5,x6,x7,x8,x9,x10⟩,⟨k1,k2,k3,k4,k5,k6,k7,k8,k9,k10,k11,k12⟩,rfl⟩
theorem ed {cs:List PV} (h:sw.okC cs):∃r:Rec,r.wf∧cs=r.cells:=by obtain ⟨a0,r0,rfl,h0,h⟩:=Cb (Ut h);obtain ⟨a1,r1,rfl,h1,h⟩:=Cb h;obtain ⟨a2,r2,rfl,h2,h⟩:=Cb h;obtain ⟨a3,r3,rfl,h3,h⟩:=Cb h;obtain rfl:=K4 h;obtain ⟨x0,rfl,k0⟩:=ux h0;obtain ⟨x1,rfl,k1⟩:=Hy h1;obtain ⟨x2,rfl,k2⟩:=Hy h2;obtain ⟨d,k3,rfl⟩:=Br2 h3;exact ⟨⟨x0,x1,x2,d⟩,⟨k0,k1,k2,k3⟩,by simp [Rec.cells]⟩
theorem uv {h0:Sh} {hs:List Sh}:∀{qs:List PV},Oks (h0::hs) qs→∃p q,qs=p::q∧h0.ok p∧Oks hs q
 |[],h=>by cases h
 |p::q,h=>⟨p,q,rfl,h.1,h.2⟩
theorem An5:∀{qs:List PV},Oks [] qs→qs=[]
 |[],_=>rfl
 |_::_,h=>by cases h
end Go.X
