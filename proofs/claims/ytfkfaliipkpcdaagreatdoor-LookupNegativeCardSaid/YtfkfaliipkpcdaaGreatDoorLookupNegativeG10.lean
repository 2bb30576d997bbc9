/- The program's data out of the readings. -/
import Derived.Test.YtfkfaliipkpcdaaGreatDoorLookupNegativeG8
open List renaming mem_cons→Am,mem_cons_self→Gy,mem_cons_of_mem→Nz
set_option maxHeartbeats 1000000
set_option linter.unusedVariables false
set_option linter.unusedSimpArgs false
namespace Go.X
open Go
def Hh2:Sh:= .st [.st [.b, .i .u64, .i .u64], .s, .s, .s, .i .i64, .i .i64, .i .i64, .i .i64, .i .i64, .i .i64, .i .u64]
def Uy:Sh:= .st [.s, .i .i64, .i .i64,Hh2]
def Bk6:Sh:= .l Uy
def bc:Sh:= .st [.s,Bk6]
theorem Dx {f:Sh} {fs:List Sh} {cs:List PV} (h:Sh.okCs (f::fs) cs):∃a b,cs=a++b∧f.okC a∧Sh.okCs fs b:=by simpa only [Sh.okCs] using h
theorem N7 {cs:List PV} (h:Sh.okCs [] cs):cs=[]:=by simpa only [Sh.okCs] using h
theorem c7 {fs:List Sh} {cs:List PV} (h:(Sh.st fs).okC cs):Sh.okCs fs cs:=by simpa only [Sh.okC] using h
theorem Ad8 {cs:List PV} (h:Sh.s.okC cs):∃x,cs=[.s x]∧W7 x:=by simp only [Sh.okC] at h;exact h
theorem Jy1 {cs:List PV} (h:Sh.b.okC cs):∃x,cs=[.b x]:=by simpa only [Sh.okC] using h
theorem J7 {cs:List PV} (h:(Sh.i .i64).okC cs):∃x,cs=[.i .i64 x]∧jj x:=by simp only [Sh.okC] at h;exact h
theorem lc {cs:List PV} (h:(Sh.i .u64).okC cs):∃x,cs=[.i .u64 x]∧Hx8 x:=by simp only [Sh.okC] at h;exact h
theorem Ik9 {cs:List PV} (h:Hh2.okC cs):∃d:Dat,d.wf∧cs=d.cells:=by obtain ⟨c0,r0,rfl,h0,h⟩:=Dx (c7 h);obtain ⟨a1,r1,rfl,h1,h⟩:=Dx h;obtain ⟨a2,r2,rfl,h2,h⟩:=Dx h;obtain ⟨a3,r3,rfl,h3,h⟩:=Dx h;obtain ⟨a4,r4,rfl,h4,h⟩:=Dx h;obtain ⟨a5,r5,rfl,h5,h⟩:=Dx h;obtain ⟨a6,r6,rfl,h6,h⟩:=Dx h;obtain ⟨a7,r7,rfl,h7,h⟩:=Dx h;obtain ⟨a8,r8,rfl,h8,h⟩:=Dx h;obtain ⟨a9,r9,rfl,h9,h⟩:=Dx h;obtain ⟨a10,r10,rfl,h10,h⟩:=Dx h;obtain rfl:=N7 h;obtain ⟨b0,s0,rfl,g0,g⟩:=Dx (c7 h0);obtain ⟨b1,s1,rfl,g1,g⟩:=Dx g;obtain ⟨b2,s2,rfl,g2,g⟩:=Dx g;obtain rfl:=N7 g;obtain ⟨v6,rfl⟩:=Jy1 g0;obtain ⟨hi,rfl,k1⟩:=lc g1;obtain ⟨lo,rfl,k2⟩:=lc g2;obtain ⟨x1,rfl,k3⟩:=Ad8 h1;obtain ⟨x2,rfl,k4⟩:=Ad8 h2;obtain ⟨x3,rfl,k5⟩:=Ad8 h3;obtain ⟨x4,rfl,k6⟩:=J7 h4;obtain ⟨x5,rfl,k7⟩:=J7 h5;obtain ⟨x6,rfl,k8⟩:=J7 h6;obtain ⟨x7,rfl,k9⟩:=J7 h7;obtain ⟨x8,rfl,k10⟩:=J7 h8;obtain ⟨x9,rfl,k11⟩:=J7 h9;obtain ⟨x10,rfl,k12⟩:=lc h10;exact ⟨⟨v6,hi,lo,x1,x2,x3,x4,x5,x6,x7,x8,x9,x10⟩,⟨k1,k2,k3,k4,k5,k6,k7,k8,k9,k10,k11,k12⟩,rfl⟩
theorem Ik8 {cs:List PV} (h:Uy.okC cs):∃r:Rec,r.wf∧cs=r.cells:=by obtain ⟨a0,r0,rfl,h0,h⟩:=Dx (c7 h);obtain ⟨a1,r1,rfl,h1,h⟩:=Dx h;obtain ⟨a2,r2,rfl,h2,h⟩:=Dx h;obtain ⟨a3,r3,rfl,h3,h⟩:=Dx h;obtain rfl:=N7 h;obtain ⟨x0,rfl,k0⟩:=Ad8 h0;obtain ⟨x1,rfl,k1⟩:=J7 h1;obtain ⟨x2,rfl,k2⟩:=J7 h2;obtain ⟨d,k3,rfl⟩:=Ik9 h3;exact ⟨⟨x0,x1,x2,d⟩,⟨k0,k1,k2,k3⟩,by simp [Rec.cells]⟩
theorem Gf5 {cs:List PV} (h:Bk6.okC cs):∃l:List Rec,Bv7 l∧cs=[Ag l]:=by
 have h':∃xs,cs=[.l Uy.size xs]∧xs.length≤maxLen∧∀x,x∈xs→if Uy.agg then∃ds,x= .a ds∧Uy.okC ds else x.scal=true∧Uy.okC [x]:=by unfold Bk6 at h;simpa only [Sh.okC] using h
 obtain ⟨xs,rfl,hl,hx⟩:=h';have go:∀xs:List PV,(∀x,x∈xs→if Uy.agg then∃ds,x= .a ds∧Uy.okC ds else x.scal=true∧Uy.okC [x])→∃l:List Rec,(∀r∈l,r.wf)∧xs=l.map Rec.pv:=by
  intro xs
  induction xs with
  |nil=>exact fun _=>⟨[],fun r h=>(by cases h),rfl⟩
  |cons x xs ih=>
   intro hx;obtain ⟨l,h1,rfl⟩:=ih (fun y hy=>hx y (Nz _ hy));have:=hx x (Gy ..);obtain ⟨ds,rfl,hd⟩:∃ds,x= .a ds∧Uy.okC ds:=this;obtain ⟨r,hr,rfl⟩:=Ik8 hd;refine ⟨r::l,fun y hy=> ?_,rfl⟩;rcases Am.1 hy with rfl|hy
   ·exact hr
   ·exact h1 y hy
 obtain ⟨l,h1,rfl⟩:=go xs hx;exact ⟨l,⟨by simpa [maxLen] using hl,h1⟩,rfl⟩
theorem Gf4 {p:PV} (h:bc.ok p):∃z:Zone,z.wf∧p=z.pv:=by obtain ⟨ds,rfl,h⟩:∃ds,p= .a ds∧bc.okC ds:=h;obtain ⟨a0,r0,rfl,h0,h⟩:=Dx (c7 h);obtain ⟨a1,r1,rfl,h1,h⟩:=Dx h;obtain rfl:=N7 h;obtain ⟨x0,rfl,k0⟩:=Ad8 h0;obtain ⟨l,k1,rfl⟩:=Gf5 h1;exact ⟨⟨x0,l⟩,⟨k0,k1⟩,rfl⟩
theorem Ed1 {p:PV} (h:bc.ok p):∃z:Zone,z.wf∧p=z.pv:=Gf4 h
theorem w9 {h0:Sh} {hs:List Sh}:∀{qs:List PV},Oks (h0::hs) qs→∃p q,qs=p::q∧h0.ok p∧Oks hs q
 |[],h=>by cases h
 |p::q,h=>⟨p,q,rfl,h.1,h.2⟩
theorem Gf3:∀{qs:List PV},Oks [] qs→qs=[]
 |[],_=>rfl
 |_::_,h=>by cases h
end Go.X
