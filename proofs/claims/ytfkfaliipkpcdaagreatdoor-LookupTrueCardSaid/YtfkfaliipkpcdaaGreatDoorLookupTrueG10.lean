/- The program's data out of the readings. -/
import Derived.Test.YtfkfaliipkpcdaaGreatDoorLookupTrueG8
open List renaming mem_cons→Am,mem_cons_self→Gq,mem_cons_of_mem→M0
set_option maxHeartbeats 1000000
set_option linter.unusedVariables false
set_option linter.unusedSimpArgs false
namespace Go.X
open Go
def Gn7:Sh:= .st [.st [.b, .i .u64, .i .u64], .s, .s, .s, .i .i64, .i .i64, .i .i64, .i .i64, .i .i64, .i .i64, .i .u64]
def Tc:Sh:= .st [.s, .i .i64, .i .i64,Gn7]
def An7:Sh:= .l Tc
def Zd:Sh:= .st [.s,An7]
theorem Dw {f:Sh} {fs:List Sh} {cs:List PV} (h:Sh.okCs (f::fs) cs):∃a b,cs=a++b∧f.okC a∧Sh.okCs fs b:=by simpa only [Sh.okCs] using h
theorem Nf {cs:List PV} (h:Sh.okCs [] cs):cs=[]:=by simpa only [Sh.okCs] using h
theorem aj {fs:List Sh} {cs:List PV} (h:(Sh.st fs).okC cs):Sh.okCs fs cs:=by simpa only [Sh.okC] using h
theorem Ax3 {cs:List PV} (h:Sh.s.okC cs):∃x,cs=[.s x]∧Yx x:=by simp only [Sh.okC] at h;exact h
theorem Id1 {cs:List PV} (h:Sh.b.okC cs):∃x,cs=[.b x]:=by simpa only [Sh.okC] using h
theorem Js {cs:List PV} (h:(Sh.i .i64).okC cs):∃x,cs=[.i .i64 x]∧fb x:=by simp only [Sh.okC] at h;exact h
theorem im {cs:List PV} (h:(Sh.i .u64).okC cs):∃x,cs=[.i .u64 x]∧Gc6 x:=by simp only [Sh.okC] at h;exact h
theorem Hx4 {cs:List PV} (h:Gn7.okC cs):∃d:Dat,d.wf∧cs=d.cells:=by obtain ⟨c0,r0,rfl,h0,h⟩:=Dw (aj h);obtain ⟨a1,r1,rfl,h1,h⟩:=Dw h;obtain ⟨a2,r2,rfl,h2,h⟩:=Dw h;obtain ⟨a3,r3,rfl,h3,h⟩:=Dw h;obtain ⟨a4,r4,rfl,h4,h⟩:=Dw h;obtain ⟨a5,r5,rfl,h5,h⟩:=Dw h;obtain ⟨a6,r6,rfl,h6,h⟩:=Dw h;obtain ⟨a7,r7,rfl,h7,h⟩:=Dw h;obtain ⟨a8,r8,rfl,h8,h⟩:=Dw h;obtain ⟨a9,r9,rfl,h9,h⟩:=Dw h;obtain ⟨a10,r10,rfl,h10,h⟩:=Dw h;obtain rfl:=Nf h;obtain ⟨b0,s0,rfl,g0,g⟩:=Dw (aj h0);obtain ⟨b1,s1,rfl,g1,g⟩:=Dw g;obtain ⟨b2,s2,rfl,g2,g⟩:=Dw g;obtain rfl:=Nf g;obtain ⟨v6,rfl⟩:=Id1 g0;obtain ⟨hi,rfl,k1⟩:=im g1;obtain ⟨lo,rfl,k2⟩:=im g2;obtain ⟨x1,rfl,k3⟩:=Ax3 h1;obtain ⟨x2,rfl,k4⟩:=Ax3 h2;obtain ⟨x3,rfl,k5⟩:=Ax3 h3;obtain ⟨x4,rfl,k6⟩:=Js h4;obtain ⟨x5,rfl,k7⟩:=Js h5;obtain ⟨x6,rfl,k8⟩:=Js h6;obtain ⟨x7,rfl,k9⟩:=Js h7;obtain ⟨x8,rfl,k10⟩:=Js h8;obtain ⟨x9,rfl,k11⟩:=Js h9;obtain ⟨x10,rfl,k12⟩:=im h10;exact ⟨⟨v6,hi,lo,x1,x2,x3,x4,x5,x6,x7,x8,x9,x10⟩,⟨k1,k2,k3,k4,k5,k6,k7,k8,k9,k10,k11,k12⟩,rfl⟩
theorem Hx3 {cs:List PV} (h:Tc.okC cs):∃r:Rec,r.wf∧cs=r.cells:=by obtain ⟨a0,r0,rfl,h0,h⟩:=Dw (aj h);obtain ⟨a1,r1,rfl,h1,h⟩:=Dw h;obtain ⟨a2,r2,rfl,h2,h⟩:=Dw h;obtain ⟨a3,r3,rfl,h3,h⟩:=Dw h;obtain rfl:=Nf h;obtain ⟨x0,rfl,k0⟩:=Ax3 h0;obtain ⟨x1,rfl,k1⟩:=Js h1;obtain ⟨x2,rfl,k2⟩:=Js h2;obtain ⟨d,k3,rfl⟩:=Hx4 h3;exact ⟨⟨x0,x1,x2,d⟩,⟨k0,k1,k2,k3⟩,by simp [Rec.cells]⟩
theorem Fm7 {cs:List PV} (h:An7.okC cs):∃l:List Rec,Ar5 l∧cs=[Ah l]:=by
 have h':∃xs,cs=[.l Tc.size xs]∧xs.length≤maxLen∧∀x,x∈xs→if Tc.agg then∃ds,x= .a ds∧Tc.okC ds else x.scal=true∧Tc.okC [x]:=by unfold An7 at h;simpa only [Sh.okC] using h
 obtain ⟨xs,rfl,hl,hx⟩:=h';have go:∀xs:List PV,(∀x,x∈xs→if Tc.agg then∃ds,x= .a ds∧Tc.okC ds else x.scal=true∧Tc.okC [x])→∃l:List Rec,(∀r∈l,r.wf)∧xs=l.map Rec.pv:=by
  intro xs
  induction xs with
  |nil=>exact fun _=>⟨[],fun r h=>(by cases h),rfl⟩
  |cons x xs ih=>
   intro hx;obtain ⟨l,h1,rfl⟩:=ih (fun y hy=>hx y (M0 _ hy));have:=hx x (Gq ..);obtain ⟨ds,rfl,hd⟩:∃ds,x= .a ds∧Tc.okC ds:=this;obtain ⟨r,hr,rfl⟩:=Hx3 hd;refine ⟨r::l,fun y hy=> ?_,rfl⟩;rcases Am.1 hy with rfl|hy
   ·exact hr
   ·exact h1 y hy
 obtain ⟨l,h1,rfl⟩:=go xs hx;exact ⟨l,⟨by simpa [maxLen] using hl,h1⟩,rfl⟩
theorem Fm6 {p:PV} (h:Zd.ok p):∃z:Zone,z.wf∧p=z.pv:=by obtain ⟨ds,rfl,h⟩:∃ds,p= .a ds∧Zd.okC ds:=h;obtain ⟨a0,r0,rfl,h0,h⟩:=Dw (aj h);obtain ⟨a1,r1,rfl,h1,h⟩:=Dw h;obtain rfl:=Nf h;obtain ⟨x0,rfl,k0⟩:=Ax3 h0;obtain ⟨l,k1,rfl⟩:=Fm7 h1;exact ⟨⟨x0,l⟩,⟨k0,k1⟩,rfl⟩
theorem Ds5 {p:PV} (h:Zd.ok p):∃z:Zone,z.wf∧p=z.pv:=Fm6 h
theorem tt {h0:Sh} {hs:List Sh}:∀{qs:List PV},Oks (h0::hs) qs→∃p q,qs=p::q∧h0.ok p∧Oks hs q
 |[],h=>by cases h
 |p::q,h=>⟨p,q,rfl,h.1,h.2⟩
theorem Fm5:∀{qs:List PV},Oks [] qs→qs=[]
 |[],_=>rfl
 |_::_,h=>by cases h
end Go.X
