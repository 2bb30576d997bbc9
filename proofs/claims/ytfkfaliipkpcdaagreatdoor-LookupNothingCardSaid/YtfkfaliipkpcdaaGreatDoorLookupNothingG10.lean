/- The program's data out of the readings. -/
import Derived.Test.YtfkfaliipkpcdaaGreatDoorLookupNothingG8
open List renaming mem_cons→Am,mem_cons_self→Gv,mem_cons_of_mem→M2
set_option maxHeartbeats 1000000
set_option linter.unusedVariables false
set_option linter.unusedSimpArgs false
namespace Go.X
open Go
def Gp8:Sh:= .st [.st [.b, .i .u64, .i .u64], .s, .s, .s, .i .i64, .i .i64, .i .i64, .i .i64, .i .i64, .i .i64, .i .u64]
def Tb:Sh:= .st [.s, .i .i64, .i .i64,Gp8]
def Ap0:Sh:= .l Tb
def Zc:Sh:= .st [.s,Ap0]
theorem Dw {f:Sh} {fs:List Sh} {cs:List PV} (h:Sh.okCs (f::fs) cs):∃a b,cs=a++b∧f.okC a∧Sh.okCs fs b:=by simpa only [Sh.okCs] using h
theorem Nh {cs:List PV} (h:Sh.okCs [] cs):cs=[]:=by simpa only [Sh.okCs] using h
theorem Z8 {fs:List Sh} {cs:List PV} (h:(Sh.st fs).okC cs):Sh.okCs fs cs:=by simpa only [Sh.okC] using h
theorem Ax3 {cs:List PV} (h:Sh.s.okC cs):∃x,cs=[.s x]∧Yx x:=by simp only [Sh.okC] at h;exact h
theorem If0 {cs:List PV} (h:Sh.b.okC cs):∃x,cs=[.b x]:=by simpa only [Sh.okC] using h
theorem Jr {cs:List PV} (h:(Sh.i .i64).okC cs):∃x,cs=[.i .i64 x]∧fx x:=by simp only [Sh.okC] at h;exact h
theorem ig {cs:List PV} (h:(Sh.i .u64).okC cs):∃x,cs=[.i .u64 x]∧Gd7 x:=by simp only [Sh.okC] at h;exact h
theorem Hy4 {cs:List PV} (h:Gp8.okC cs):∃d:Dat,d.wf∧cs=d.cells:=by obtain ⟨c0,r0,rfl,h0,h⟩:=Dw (Z8 h);obtain ⟨a1,r1,rfl,h1,h⟩:=Dw h;obtain ⟨a2,r2,rfl,h2,h⟩:=Dw h;obtain ⟨a3,r3,rfl,h3,h⟩:=Dw h;obtain ⟨a4,r4,rfl,h4,h⟩:=Dw h;obtain ⟨a5,r5,rfl,h5,h⟩:=Dw h;obtain ⟨a6,r6,rfl,h6,h⟩:=Dw h;obtain ⟨a7,r7,rfl,h7,h⟩:=Dw h;obtain ⟨a8,r8,rfl,h8,h⟩:=Dw h;obtain ⟨a9,r9,rfl,h9,h⟩:=Dw h;obtain ⟨a10,r10,rfl,h10,h⟩:=Dw h;obtain rfl:=Nh h;obtain ⟨b0,s0,rfl,g0,g⟩:=Dw (Z8 h0);obtain ⟨b1,s1,rfl,g1,g⟩:=Dw g;obtain ⟨b2,s2,rfl,g2,g⟩:=Dw g;obtain rfl:=Nh g;obtain ⟨v6,rfl⟩:=If0 g0;obtain ⟨hi,rfl,k1⟩:=ig g1;obtain ⟨lo,rfl,k2⟩:=ig g2;obtain ⟨x1,rfl,k3⟩:=Ax3 h1;obtain ⟨x2,rfl,k4⟩:=Ax3 h2;obtain ⟨x3,rfl,k5⟩:=Ax3 h3;obtain ⟨x4,rfl,k6⟩:=Jr h4;obtain ⟨x5,rfl,k7⟩:=Jr h5;obtain ⟨x6,rfl,k8⟩:=Jr h6;obtain ⟨x7,rfl,k9⟩:=Jr h7;obtain ⟨x8,rfl,k10⟩:=Jr h8;obtain ⟨x9,rfl,k11⟩:=Jr h9;obtain ⟨x10,rfl,k12⟩:=ig h10;exact ⟨⟨v6,hi,lo,x1,x2,x3,x4,x5,x6,x7,x8,x9,x10⟩,⟨k1,k2,k3,k4,k5,k6,k7,k8,k9,k10,k11,k12⟩,rfl⟩
theorem Hy3 {cs:List PV} (h:Tb.okC cs):∃r:Rec,r.wf∧cs=r.cells:=by obtain ⟨a0,r0,rfl,h0,h⟩:=Dw (Z8 h);obtain ⟨a1,r1,rfl,h1,h⟩:=Dw h;obtain ⟨a2,r2,rfl,h2,h⟩:=Dw h;obtain ⟨a3,r3,rfl,h3,h⟩:=Dw h;obtain rfl:=Nh h;obtain ⟨x0,rfl,k0⟩:=Ax3 h0;obtain ⟨x1,rfl,k1⟩:=Jr h1;obtain ⟨x2,rfl,k2⟩:=Jr h2;obtain ⟨d,k3,rfl⟩:=Hy4 h3;exact ⟨⟨x0,x1,x2,d⟩,⟨k0,k1,k2,k3⟩,by simp [Rec.cells]⟩
theorem Fp0 {cs:List PV} (h:Ap0.okC cs):∃l:List Rec,Ar8 l∧cs=[Ah l]:=by
 have h':∃xs,cs=[.l Tb.size xs]∧xs.length≤maxLen∧∀x,x∈xs→if Tb.agg then∃ds,x= .a ds∧Tb.okC ds else x.scal=true∧Tb.okC [x]:=by unfold Ap0 at h;simpa only [Sh.okC] using h
 obtain ⟨xs,rfl,hl,hx⟩:=h';have go:∀xs:List PV,(∀x,x∈xs→if Tb.agg then∃ds,x= .a ds∧Tb.okC ds else x.scal=true∧Tb.okC [x])→∃l:List Rec,(∀r∈l,r.wf)∧xs=l.map Rec.pv:=by
  intro xs
  induction xs with
  |nil=>exact fun _=>⟨[],fun r h=>(by cases h),rfl⟩
  |cons x xs ih=>
   intro hx;obtain ⟨l,h1,rfl⟩:=ih (fun y hy=>hx y (M2 _ hy));have:=hx x (Gv ..);obtain ⟨ds,rfl,hd⟩:∃ds,x= .a ds∧Tb.okC ds:=this;obtain ⟨r,hr,rfl⟩:=Hy3 hd;refine ⟨r::l,fun y hy=> ?_,rfl⟩;rcases Am.1 hy with rfl|hy
   ·exact hr
   ·exact h1 y hy
 obtain ⟨l,h1,rfl⟩:=go xs hx;exact ⟨l,⟨by simpa [maxLen] using hl,h1⟩,rfl⟩
theorem Fn9 {p:PV} (h:Zc.ok p):∃z:Zone,z.wf∧p=z.pv:=by obtain ⟨ds,rfl,h⟩:∃ds,p= .a ds∧Zc.okC ds:=h;obtain ⟨a0,r0,rfl,h0,h⟩:=Dw (Z8 h);obtain ⟨a1,r1,rfl,h1,h⟩:=Dw h;obtain rfl:=Nh h;obtain ⟨x0,rfl,k0⟩:=Ax3 h0;obtain ⟨l,k1,rfl⟩:=Fp0 h1;exact ⟨⟨x0,l⟩,⟨k0,k1⟩,rfl⟩
theorem Ds8 {p:PV} (h:Zc.ok p):∃z:Zone,z.wf∧p=z.pv:=Fn9 h
theorem tn {h0:Sh} {hs:List Sh}:∀{qs:List PV},Oks (h0::hs) qs→∃p q,qs=p::q∧h0.ok p∧Oks hs q
 |[],h=>by cases h
 |p::q,h=>⟨p,q,rfl,h.1,h.2⟩
theorem Fn8:∀{qs:List PV},Oks [] qs→qs=[]
 |[],_=>rfl
 |_::_,h=>by cases h
end Go.X
