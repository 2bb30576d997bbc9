/- The program's data out of the readings. -/
import Derived.Test.YtkpbcoeiijddpaaDoorRrsetUnpacksG6
open List renaming mem_cons→A7,mem_cons_of_mem→J1,mem_cons_self→Pf
set_option maxHeartbeats 1000000
set_option linter.unusedVariables false
set_option linter.unusedSimpArgs false
namespace Go.X
open Go
def Dk2:Sh:= .st [.st [.b, .i .u64, .i .u64], .s, .s, .s, .i .i64, .i .i64, .i .i64, .i .i64, .i .i64, .i .i64, .i .u64]
def N8:Sh:= .st [.s, .i .i64, .i .i64,Dk2]
def Og:Sh:= .l N8
theorem Dw {f:Sh} {fs:List Sh} {cs:List PV} (h:Sh.okCs (f::fs) cs):∃a b,cs=a++b∧f.okC a∧Sh.okCs fs b:=by simpa only [Sh.okCs] using h
theorem Qy {cs:List PV} (h:Sh.okCs [] cs):cs=[]:=by simpa only [Sh.okCs] using h
theorem l6 {fs:List Sh} {cs:List PV} (h:(Sh.st fs).okC cs):Sh.okCs fs cs:=by simpa only [Sh.okC] using h
theorem Ab4 {cs:List PV} (h:Sh.s.okC cs):∃x,cs=[.s x]∧Av5 x:=by simp only [Sh.okC] at h;exact h
theorem Em7 {cs:List PV} (h:Sh.b.okC cs):∃x,cs=[.b x]:=by simpa only [Sh.okC] using h
theorem Ic {cs:List PV} (h:(Sh.i .i64).okC cs):∃x,cs=[.i .i64 x]∧X0 x:=by simp only [Sh.okC] at h;exact h
theorem Vq {cs:List PV} (h:(Sh.i .u64).okC cs):∃x,cs=[.i .u64 x]∧Eq7 x:=by simp only [Sh.okC] at h;exact h
theorem Dw7 {cs:List PV} (h:Dk2.okC cs):∃d:Dat,d.wf∧cs=d.cells:=by obtain ⟨c0,r0,rfl,h0,h⟩:=Dw (l6 h);obtain ⟨a1,r1,rfl,h1,h⟩:=Dw h;obtain ⟨a2,r2,rfl,h2,h⟩:=Dw h;obtain ⟨a3,r3,rfl,h3,h⟩:=Dw h;obtain ⟨a4,r4,rfl,h4,h⟩:=Dw h;obtain ⟨a5,r5,rfl,h5,h⟩:=Dw h;obtain ⟨a6,r6,rfl,h6,h⟩:=Dw h;obtain ⟨a7,r7,rfl,h7,h⟩:=Dw h;obtain ⟨a8,r8,rfl,h8,h⟩:=Dw h;obtain ⟨a9,r9,rfl,h9,h⟩:=Dw h;obtain ⟨a10,r10,rfl,h10,h⟩:=Dw h;obtain rfl:=Qy h;obtain ⟨b0,s0,rfl,g0,g⟩:=Dw (l6 h0);obtain ⟨b1,s1,rfl,g1,g⟩:=Dw g;obtain ⟨b2,s2,rfl,g2,g⟩:=Dw g;obtain rfl:=Qy g;obtain ⟨v6,rfl⟩:=Em7 g0;obtain ⟨hi,rfl,k1⟩:=Vq g1;obtain ⟨lo,rfl,k2⟩:=Vq g2;obtain ⟨x1,rfl,k3⟩:=Ab4 h1;obtain ⟨x2,rfl,k4⟩:=Ab4 h2;obtain ⟨x3,rfl,k5⟩:=Ab4 h3;obtain ⟨x4,rfl,k6⟩:=Ic h4;obtain ⟨x5,rfl,k7⟩:=Ic h5;obtain ⟨x6,rfl,k8⟩:=Ic h6;obtain ⟨x7,rfl,k9⟩:=Ic h7;obtain ⟨x8,rfl,k10⟩:=Ic h8;obtain ⟨x9,rfl,k11⟩:=Ic h9;obtain ⟨x10,rfl,k12⟩:=Vq h10;exact ⟨⟨v6,hi,lo,x1,x2,x3,x4,x5,x6,x7,x8,x9,x10⟩,⟨k1,k2,k3,k4,k5,k6,k7,k8,k9,k10,k11,k12⟩,rfl⟩
theorem Dw6 {cs:List PV} (h:N8.okC cs):∃r:Rec,r.wf∧cs=r.cells:=by obtain ⟨a0,r0,rfl,h0,h⟩:=Dw (l6 h);obtain ⟨a1,r1,rfl,h1,h⟩:=Dw h;obtain ⟨a2,r2,rfl,h2,h⟩:=Dw h;obtain ⟨a3,r3,rfl,h3,h⟩:=Dw h;obtain rfl:=Qy h;obtain ⟨x0,rfl,k0⟩:=Ab4 h0;obtain ⟨x1,rfl,k1⟩:=Ic h1;obtain ⟨x2,rfl,k2⟩:=Ic h2;obtain ⟨d,k3,rfl⟩:=Dw7 h3;exact ⟨⟨x0,x1,x2,d⟩,⟨k0,k1,k2,k3⟩,by simp [Rec.cells]⟩
theorem Cw7 {cs:List PV} (h:Og.okC cs):∃l:List Rec,Sy l∧cs=[Al l]:=by
 have h':∃xs,cs=[.l N8.size xs]∧xs.length≤maxLen∧∀x,x∈xs→if N8.agg then∃ds,x= .a ds∧N8.okC ds else x.scal=true∧N8.okC [x]:=by unfold Og at h;simpa only [Sh.okC] using h
 obtain ⟨xs,rfl,hl,hx⟩:=h';have go:∀xs:List PV,(∀x,x∈xs→if N8.agg then∃ds,x= .a ds∧N8.okC ds else x.scal=true∧N8.okC [x])→∃l:List Rec,(∀r∈l,r.wf)∧xs=l.map Rec.pv:=by
  intro xs
  induction xs with
  |nil=>exact fun _=>⟨[],fun r h=>(by cases h),rfl⟩
  |cons x xs ih=>
   intro hx;obtain ⟨l,h1,rfl⟩:=ih (fun y hy=>hx y (J1 _ hy));have:=hx x (Pf ..);obtain ⟨ds,rfl,hd⟩:∃ds,x= .a ds∧N8.okC ds:=this;obtain ⟨r,hr,rfl⟩:=Dw6 hd;refine ⟨r::l,fun y hy=> ?_,rfl⟩;rcases A7.1 hy with rfl|hy
   ·exact hr
   ·exact h1 y hy
 obtain ⟨l,h1,rfl⟩:=go xs hx;exact ⟨l,⟨by simpa [maxLen] using hl,h1⟩,rfl⟩
theorem Ab5 {p:PV} (h:Og.ok p):∃l,Sy l∧p=Al l:=by have h':p.scal=true∧Og.okC [p]:=h;obtain ⟨l,hl,hp⟩:=Cw7 h'.2;injection hp with hp;exact ⟨l,hl,hp⟩
theorem Ab2 {h0:Sh} {hs:List Sh}:∀{qs:List PV},Oks (h0::hs) qs→∃p q,qs=p::q∧h0.ok p∧Oks hs q
 |[],h=>by cases h
 |p::q,h=>⟨p,q,rfl,h.1,h.2⟩
theorem Cw6:∀{qs:List PV},Oks [] qs→qs=[]
 |[],_=>rfl
 |_::_,h=>by cases h
end Go.X
