/- The program's data out of the readings. -/
import Derived.Test.YtkpbcoeiijddpaaGreatDoorRrsetSetsG8
open List renaming mem_cons→A6,mem_cons_of_mem→K6,mem_cons_self→Rm
set_option maxHeartbeats 1000000
set_option linter.unusedVariables false
set_option linter.unusedSimpArgs false
namespace Go.X
open Go
def Fs1:Sh:= .st [.st [.b, .i .u64, .i .u64], .s, .s, .s, .i .i64, .i .i64, .i .i64, .i .i64, .i .i64, .i .i64, .i .u64]
def P5:Sh:= .st [.s, .i .i64, .i .i64,Fs1]
def Ql:Sh:= .l P5
theorem Dc {f:Sh} {fs:List Sh} {cs:List PV} (h:Sh.okCs (f::fs) cs):∃a b,cs=a++b∧f.okC a∧Sh.okCs fs b:=by simpa only [Sh.okCs] using h
theorem Ss {cs:List PV} (h:Sh.okCs [] cs):cs=[]:=by simpa only [Sh.okCs] using h
theorem xh {fs:List Sh} {cs:List PV} (h:(Sh.st fs).okC cs):Sh.okCs fs cs:=by simpa only [Sh.okC] using h
theorem xl {cs:List PV} (h:Sh.s.okC cs):∃x,cs=[.s x]∧d8 x:=by simp only [Sh.okC] at h;exact h
theorem Hf6 {cs:List PV} (h:Sh.b.okC cs):∃x,cs=[.b x]:=by simpa only [Sh.okC] using h
theorem If {cs:List PV} (h:(Sh.i .i64).okC cs):∃x,cs=[.i .i64 x]∧X0 x:=by simp only [Sh.okC] at h;exact h
theorem Y4 {cs:List PV} (h:(Sh.i .u64).okC cs):∃x,cs=[.i .u64 x]∧Gr3 x:=by simp only [Sh.okC] at h;exact h
theorem Gw0 {cs:List PV} (h:Fs1.okC cs):∃d:Dat,d.wf∧cs=d.cells:=by obtain ⟨c0,r0,rfl,h0,h⟩:=Dc (xh h);obtain ⟨a1,r1,rfl,h1,h⟩:=Dc h;obtain ⟨a2,r2,rfl,h2,h⟩:=Dc h;obtain ⟨a3,r3,rfl,h3,h⟩:=Dc h;obtain ⟨a4,r4,rfl,h4,h⟩:=Dc h;obtain ⟨a5,r5,rfl,h5,h⟩:=Dc h;obtain ⟨a6,r6,rfl,h6,h⟩:=Dc h;obtain ⟨a7,r7,rfl,h7,h⟩:=Dc h;obtain ⟨a8,r8,rfl,h8,h⟩:=Dc h;obtain ⟨a9,r9,rfl,h9,h⟩:=Dc h;obtain ⟨a10,r10,rfl,h10,h⟩:=Dc h;obtain rfl:=Ss h;obtain ⟨b0,s0,rfl,g0,g⟩:=Dc (xh h0);obtain ⟨b1,s1,rfl,g1,g⟩:=Dc g;obtain ⟨b2,s2,rfl,g2,g⟩:=Dc g;obtain rfl:=Ss g;obtain ⟨v6,rfl⟩:=Hf6 g0;obtain ⟨hi,rfl,k1⟩:=Y4 g1;obtain ⟨lo,rfl,k2⟩:=Y4 g2;obtain ⟨x1,rfl,k3⟩:=xl h1;obtain ⟨x2,rfl,k4⟩:=xl h2;obtain ⟨x3,rfl,k5⟩:=xl h3;obtain ⟨x4,rfl,k6⟩:=If h4;obtain ⟨x5,rfl,k7⟩:=If h5;obtain ⟨x6,rfl,k8⟩:=If h6;obtain ⟨x7,rfl,k9⟩:=If h7;obtain ⟨x8,rfl,k10⟩:=If h8;obtain ⟨x9,rfl,k11⟩:=If h9;obtain ⟨x10,rfl,k12⟩:=Y4 h10;exact ⟨⟨v6,hi,lo,x1,x2,x3,x4,x5,x6,x7,x8,x9,x10⟩,⟨k1,k2,k3,k4,k5,k6,k7,k8,k9,k10,k11,k12⟩,rfl⟩
theorem Gv9 {cs:List PV} (h:P5.okC cs):∃r:Rec,r.wf∧cs=r.cells:=by obtain ⟨a0,r0,rfl,h0,h⟩:=Dc (xh h);obtain ⟨a1,r1,rfl,h1,h⟩:=Dc h;obtain ⟨a2,r2,rfl,h2,h⟩:=Dc h;obtain ⟨a3,r3,rfl,h3,h⟩:=Dc h;obtain rfl:=Ss h;obtain ⟨x0,rfl,k0⟩:=xl h0;obtain ⟨x1,rfl,k1⟩:=If h1;obtain ⟨x2,rfl,k2⟩:=If h2;obtain ⟨d,k3,rfl⟩:=Gw0 h3;exact ⟨⟨x0,x1,x2,d⟩,⟨k0,k1,k2,k3⟩,by simp [Rec.cells]⟩
theorem Es2 {cs:List PV} (h:Ql.okC cs):∃l:List Rec,Vb l∧cs=[Al l]:=by
 have h':∃xs,cs=[.l P5.size xs]∧xs.length≤maxLen∧∀x,x∈xs→if P5.agg then∃ds,x= .a ds∧P5.okC ds else x.scal=true∧P5.okC [x]:=by unfold Ql at h;simpa only [Sh.okC] using h
 obtain ⟨xs,rfl,hl,hx⟩:=h';have go:∀xs:List PV,(∀x,x∈xs→if P5.agg then∃ds,x= .a ds∧P5.okC ds else x.scal=true∧P5.okC [x])→∃l:List Rec,(∀r∈l,r.wf)∧xs=l.map Rec.pv:=by
  intro xs
  induction xs with
  |nil=>exact fun _=>⟨[],fun r h=>(by cases h),rfl⟩
  |cons x xs ih=>
   intro hx;obtain ⟨l,h1,rfl⟩:=ih (fun y hy=>hx y (K6 _ hy));have:=hx x (Rm ..);obtain ⟨ds,rfl,hd⟩:∃ds,x= .a ds∧P5.okC ds:=this;obtain ⟨r,hr,rfl⟩:=Gv9 hd;refine ⟨r::l,fun y hy=> ?_,rfl⟩;rcases A6.1 hy with rfl|hy
   ·exact hr
   ·exact h1 y hy
 obtain ⟨l,h1,rfl⟩:=go xs hx;exact ⟨l,⟨by simpa [maxLen] using hl,h1⟩,rfl⟩
theorem Es3 {p:PV} (h:Sh.s.ok p):∃x,d8 x∧p= .s x:=by have h':p.scal=true∧Sh.s.okC [p]:=h;obtain ⟨x,hx,hs⟩:=xl h'.2;injection hx with hx;exact ⟨x,hs,hx⟩
theorem Es4 {p:PV} (h:(Sh.i .i64).ok p):∃x,X0 x∧p= .i .i64 x:=by have h':p.scal=true∧(Sh.i .i64).okC [p]:=h;obtain ⟨x,hx,hs⟩:=If h'.2;injection hx with hx;exact ⟨x,hs,hx⟩
theorem Ch9 {p:PV} (h:Ql.ok p):∃l,Vb l∧p=Al l:=by have h':p.scal=true∧Ql.okC [p]:=h;obtain ⟨l,hl,hp⟩:=Es2 h'.2;injection hp with hp;exact ⟨l,hl,hp⟩
theorem Sr {h0:Sh} {hs:List Sh}:∀{qs:List PV},Oks (h0::hs) qs→∃p q,qs=p::q∧h0.ok p∧Oks hs q
 |[],h=>by cases h
 |p::q,h=>⟨p,q,rfl,h.1,h.2⟩
theorem Es1:∀{qs:List PV},Oks [] qs→qs=[]
 |[],_=>rfl
 |_::_,h=>by cases h
end Go.X
