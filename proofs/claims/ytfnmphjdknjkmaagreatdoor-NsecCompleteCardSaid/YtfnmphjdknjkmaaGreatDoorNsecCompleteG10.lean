/- The program's data out of the readings. -/
import Derived.Test.YtfnmphjdknjkmaaGreatDoorNsecCompleteG8
open List renaming mem_cons→Am,mem_cons_self→G0,mem_cons_of_mem→O3
set_option maxHeartbeats 1000000
set_option linter.defProp false
set_option linter.unusedVariables false
set_option linter.unusedSimpArgs false
namespace Go.X
open Go
def Fm6:Sh:= .st [.st [.b, .i .u64, .i .u64], .s, .s, .s, .i .i64, .i .i64, .i .i64, .i .i64, .i .i64, .i .i64, .i .u64]
def W0:Sh:= .st [.s, .i .i64, .i .i64,Fm6]
def Bh9:Sh:= .l W0
def im:Sh:= .st [.s,Bh9]
def Dc {f:Sh} {fs:List Sh} {cs:List PV} (h:Sh.okCs (f::fs) cs):∃a b,cs=a++b∧f.okC a∧Sh.okCs fs b:=by simpa only [Sh.okCs] using h
def Pr {cs:List PV} (h:Sh.okCs [] cs):cs=[]:=by simpa only [Sh.okCs] using h
def jl {fs:List Sh} {cs:List PV} (h:(Sh.st fs).okC cs):Sh.okCs fs cs:=by simpa only [Sh.okC] using h
def Bj6 {cs:List PV} (h:Sh.s.okC cs):∃x,cs=[.s x]∧Q8 x:=by simp only [Sh.okC] at h;exact h
def Hg6 {cs:List PV} (h:Sh.b.okC cs):∃x,cs=[.b x]:=by simpa only [Sh.okC] using h
def K7 {cs:List PV} (h:(Sh.i .i64).okC cs):∃x,cs=[.i .i64 x]∧S6 x:=by simp only [Sh.okC] at h;exact h
def s7 {cs:List PV} (h:(Sh.i .u64).okC cs):∃x,cs=[.i .u64 x]∧Dj7 x:=by simp only [Sh.okC] at h;exact h
def Gx2 {cs:List PV} (h:Fm6.okC cs):∃d:Dat,d.wf∧cs=d.cells:=by obtain ⟨c0,r0,rfl,h0,h⟩:=Dc (jl h);obtain ⟨a1,r1,rfl,h1,h⟩:=Dc h;obtain ⟨a2,r2,rfl,h2,h⟩:=Dc h;obtain ⟨a3,r3,rfl,h3,h⟩:=Dc h;obtain ⟨a4,r4,rfl,h4,h⟩:=Dc h;obtain ⟨a5,r5,rfl,h5,h⟩:=Dc h;obtain ⟨a6,r6,rfl,h6,h⟩:=Dc h;obtain ⟨a7,r7,rfl,h7,h⟩:=Dc h;obtain ⟨a8,r8,rfl,h8,h⟩:=Dc h;obtain ⟨a9,r9,rfl,h9,h⟩:=Dc h;obtain ⟨a10,r10,rfl,h10,h⟩:=Dc h;obtain rfl:=Pr h;obtain ⟨b0,s0,rfl,g0,g⟩:=Dc (jl h0);obtain ⟨b1,s1,rfl,g1,g⟩:=Dc g;obtain ⟨b2,s2,rfl,g2,g⟩:=Dc g;obtain rfl:=Pr g;obtain ⟨v6,rfl⟩:=Hg6 g0;obtain ⟨hi,rfl,k1⟩:=s7 g1;obtain ⟨lo,rfl,k2⟩:=s7 g2;obtain ⟨x1,rfl,k3⟩:=Bj6 h1;obtain ⟨x2,rfl,k4⟩:=Bj6 h2;obtain ⟨x3,rfl,k5⟩:=Bj6 h3;obtain ⟨x4,rfl,k6⟩:=K7 h4;obtain ⟨x5,rfl,k7⟩:=K7 h5;obtain ⟨x6,rfl,k8⟩:=K7 h6;obtain ⟨x7,rfl,k9⟩:=K7 h7;obtain ⟨x8,rfl,k10⟩:=K7 h8;obtain ⟨x9,rfl,k11⟩:=K7 h9;obtain ⟨x10,rfl,k12⟩:=s7 h10;exact ⟨⟨v6,hi,lo,x1,x2,x3,x4,x5,x6,x7,x8,x9,x10⟩,⟨k1,k2,k3,k4,k5,k6,k7,k8,k9,k10,k11,k12⟩,rfl⟩
def Gx1 {cs:List PV} (h:W0.okC cs):∃r:Rec,r.wf∧cs=r.cells:=by obtain ⟨a0,r0,rfl,h0,h⟩:=Dc (jl h);obtain ⟨a1,r1,rfl,h1,h⟩:=Dc h;obtain ⟨a2,r2,rfl,h2,h⟩:=Dc h;obtain ⟨a3,r3,rfl,h3,h⟩:=Dc h;obtain rfl:=Pr h;obtain ⟨x0,rfl,k0⟩:=Bj6 h0;obtain ⟨x1,rfl,k1⟩:=K7 h1;obtain ⟨x2,rfl,k2⟩:=K7 h2;obtain ⟨d,k3,rfl⟩:=Gx2 h3;exact ⟨⟨x0,x1,x2,d⟩,⟨k0,k1,k2,k3⟩,by simp [Rec.cells]⟩
def Ep8 {cs:List PV} (h:Bh9.okC cs):∃l:List Rec,Bm8 l∧cs=[Ag l]:=by
 have h':∃xs,cs=[.l W0.size xs]∧xs.length≤maxLen∧∀x,x∈xs→if W0.agg then∃ds,x= .a ds∧W0.okC ds else x.scal=true∧W0.okC [x]:=by unfold Bh9 at h;simpa only [Sh.okC] using h
 obtain ⟨xs,rfl,hl,hx⟩:=h';have go:∀xs:List PV,(∀x,x∈xs→if W0.agg then∃ds,x= .a ds∧W0.okC ds else x.scal=true∧W0.okC [x])→∃l:List Rec,(∀r∈l,r.wf)∧xs=l.map Rec.pv:=by
  intro xs
  induction xs with
  |nil=>exact fun _=>⟨[],fun r h=>(by cases h),rfl⟩
  |cons x xs ih=>
   intro hx;obtain ⟨l,h1,rfl⟩:=ih (fun y hy=>hx y (O3 _ hy));have:=hx x (G0 ..);obtain ⟨ds,rfl,hd⟩:∃ds,x= .a ds∧W0.okC ds:=this;obtain ⟨r,hr,rfl⟩:=Gx1 hd;refine ⟨r::l,fun y hy=> ?_,rfl⟩;rcases Am.1 hy with rfl|hy
   ·exact hr
   ·exact h1 y hy
 obtain ⟨l,h1,rfl⟩:=go xs hx;exact ⟨l,⟨by simpa [maxLen] using hl,h1⟩,rfl⟩
def Ep7 {p:PV} (h:im.ok p):∃z:Zone,z.wf∧p=z.pv:=by obtain ⟨ds,rfl,h⟩:∃ds,p= .a ds∧im.okC ds:=h;obtain ⟨a0,r0,rfl,h0,h⟩:=Dc (jl h);obtain ⟨a1,r1,rfl,h1,h⟩:=Dc h;obtain rfl:=Pr h;obtain ⟨x0,rfl,k0⟩:=Bj6 h0;obtain ⟨l,k1,rfl⟩:=Ep8 h1;exact ⟨⟨x0,l⟩,⟨k0,k1⟩,rfl⟩
def Dl7 {p:PV} (h:im.ok p):∃z:Zone,z.wf∧p=z.pv:=Ep7 h
def Az8 {h0:Sh} {hs:List Sh}:∀{qs:List PV},Oks (h0::hs) qs→∃p q,qs=p::q∧h0.ok p∧Oks hs q
 |[],h=>by cases h
 |p::q,h=>⟨p,q,rfl,h.1,h.2⟩
def Ep6:∀{qs:List PV},Oks [] qs→qs=[]
 |[],_=>rfl
 |_::_,h=>by cases h
end Go.X
