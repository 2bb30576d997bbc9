/- The program's data out of the readings. -/
import Derived.Test.YtfnmphjdknjkmaaGreatDoorNsecAbsentG8
open List renaming mem_cons→Am,mem_cons_self→Gk,mem_cons_of_mem→M7
set_option maxHeartbeats 1000000
set_option linter.unusedVariables false
set_option linter.unusedSimpArgs false
namespace Go.X
open Go
def Hf4:Sh:= .st [.st [.b, .i .u64, .i .u64], .s, .s, .s, .i .i64, .i .i64, .i .i64, .i .i64, .i .i64, .i .i64, .i .u64]
def Tp:Sh:= .st [.s, .i .i64, .i .i64,Hf4]
def Ux:Sh:= .l Tp
theorem Dp {f:Sh} {fs:List Sh} {cs:List PV} (h:Sh.okCs (f::fs) cs):∃a b,cs=a++b∧f.okC a∧Sh.okCs fs b:=by simpa only [Sh.okCs] using h
theorem Xw {cs:List PV} (h:Sh.okCs [] cs):cs=[]:=by simpa only [Sh.okCs] using h
theorem Bm0 {fs:List Sh} {cs:List PV} (h:(Sh.st fs).okC cs):Sh.okCs fs cs:=by simpa only [Sh.okC] using h
theorem Bm1 {cs:List PV} (h:Sh.s.okC cs):∃x,cs=[.s x]∧Qh x:=by simp only [Sh.okC] at h;exact h
theorem Jz7 {cs:List PV} (h:Sh.b.okC cs):∃x,cs=[.b x]:=by simpa only [Sh.okC] using h
theorem K8 {cs:List PV} (h:(Sh.i .i64).okC cs):∃x,cs=[.i .i64 x]∧gy x:=by simp only [Sh.okC] at h;exact h
theorem jm {cs:List PV} (h:(Sh.i .u64).okC cs):∃x,cs=[.i .u64 x]∧Hw3 x:=by simp only [Sh.okC] at h;exact h
theorem Ij7 {cs:List PV} (h:Hf4.okC cs):∃d:Dat,d.wf∧cs=d.cells:=by obtain ⟨c0,r0,rfl,h0,h⟩:=Dp (Bm0 h);obtain ⟨a1,r1,rfl,h1,h⟩:=Dp h;obtain ⟨a2,r2,rfl,h2,h⟩:=Dp h;obtain ⟨a3,r3,rfl,h3,h⟩:=Dp h;obtain ⟨a4,r4,rfl,h4,h⟩:=Dp h;obtain ⟨a5,r5,rfl,h5,h⟩:=Dp h;obtain ⟨a6,r6,rfl,h6,h⟩:=Dp h;obtain ⟨a7,r7,rfl,h7,h⟩:=Dp h;obtain ⟨a8,r8,rfl,h8,h⟩:=Dp h;obtain ⟨a9,r9,rfl,h9,h⟩:=Dp h;obtain ⟨a10,r10,rfl,h10,h⟩:=Dp h;obtain rfl:=Xw h;obtain ⟨b0,s0,rfl,g0,g⟩:=Dp (Bm0 h0);obtain ⟨b1,s1,rfl,g1,g⟩:=Dp g;obtain ⟨b2,s2,rfl,g2,g⟩:=Dp g;obtain rfl:=Xw g;obtain ⟨v6,rfl⟩:=Jz7 g0;obtain ⟨hi,rfl,k1⟩:=jm g1;obtain ⟨lo,rfl,k2⟩:=jm g2;obtain ⟨x1,rfl,k3⟩:=Bm1 h1;obtain ⟨x2,rfl,k4⟩:=Bm1 h2;obtain ⟨x3,rfl,k5⟩:=Bm1 h3;obtain ⟨x4,rfl,k6⟩:=K8 h4;obtain ⟨x5,rfl,k7⟩:=K8 h5;obtain ⟨x6,rfl,k8⟩:=K8 h6;obtain ⟨x7,rfl,k9⟩:=K8 h7;obtain ⟨x8,rfl,k10⟩:=K8 h8;obtain ⟨x9,rfl,k11⟩:=K8 h9;obtain ⟨x10,rfl,k12⟩:=jm h10;exact ⟨⟨v6,hi,lo,x1,x2,x3,x4,x5,x6,x7,x8,x9,x10⟩,⟨k1,k2,k3,k4,k5,k6,k7,k8,k9,k10,k11,k12⟩,rfl⟩
theorem Ij6 {cs:List PV} (h:Tp.okC cs):∃r:Rec,r.wf∧cs=r.cells:=by obtain ⟨a0,r0,rfl,h0,h⟩:=Dp (Bm0 h);obtain ⟨a1,r1,rfl,h1,h⟩:=Dp h;obtain ⟨a2,r2,rfl,h2,h⟩:=Dp h;obtain ⟨a3,r3,rfl,h3,h⟩:=Dp h;obtain rfl:=Xw h;obtain ⟨x0,rfl,k0⟩:=Bm1 h0;obtain ⟨x1,rfl,k1⟩:=K8 h1;obtain ⟨x2,rfl,k2⟩:=K8 h2;obtain ⟨d,k3,rfl⟩:=Ij7 h3;exact ⟨⟨x0,x1,x2,d⟩,⟨k0,k1,k2,k3⟩,by simp [Rec.cells]⟩
theorem Gd2 {cs:List PV} (h:Ux.okC cs):∃l:List Rec,jy l∧cs=[Al l]:=by
 have h':∃xs,cs=[.l Tp.size xs]∧xs.length≤maxLen∧∀x,x∈xs→if Tp.agg then∃ds,x= .a ds∧Tp.okC ds else x.scal=true∧Tp.okC [x]:=by unfold Ux at h;simpa only [Sh.okC] using h
 obtain ⟨xs,rfl,hl,hx⟩:=h';have go:∀xs:List PV,(∀x,x∈xs→if Tp.agg then∃ds,x= .a ds∧Tp.okC ds else x.scal=true∧Tp.okC [x])→∃l:List Rec,(∀r∈l,r.wf)∧xs=l.map Rec.pv:=by
  intro xs
  induction xs with
  |nil=>exact fun _=>⟨[],fun r h=>(by cases h),rfl⟩
  |cons x xs ih=>
   intro hx;obtain ⟨l,h1,rfl⟩:=ih (fun y hy=>hx y (M7 _ hy));have:=hx x (Gk ..);obtain ⟨ds,rfl,hd⟩:∃ds,x= .a ds∧Tp.okC ds:=this;obtain ⟨r,hr,rfl⟩:=Ij6 hd;refine ⟨r::l,fun y hy=> ?_,rfl⟩;rcases Am.1 hy with rfl|hy
   ·exact hr
   ·exact h1 y hy
 obtain ⟨l,h1,rfl⟩:=go xs hx;exact ⟨l,⟨by simpa [maxLen] using hl,h1⟩,rfl⟩
theorem Bm2 {p:PV} (h:Sh.s.ok p):∃x,Qh x∧p= .s x:=by have h':p.scal=true∧Sh.s.okC [p]:=h;obtain ⟨x,hx,hs⟩:=Bm1 h'.2;injection hx with hx;exact ⟨x,hs,hx⟩
theorem Ez1 {p:PV} (h:Ux.ok p):∃l,jy l∧p=Al l:=by have h':p.scal=true∧Ux.okC [p]:=h;obtain ⟨l,hl,hp⟩:=Gd2 h'.2;injection hp with hp;exact ⟨l,hl,hp⟩
theorem Xv {h0:Sh} {hs:List Sh}:∀{qs:List PV},Oks (h0::hs) qs→∃p q,qs=p::q∧h0.ok p∧Oks hs q
 |[],h=>by cases h
 |p::q,h=>⟨p,q,rfl,h.1,h.2⟩
theorem Gd1:∀{qs:List PV},Oks [] qs→qs=[]
 |[],_=>rfl
 |_::_,h=>by cases h
end Go.X
