/- The program's data out of the readings. -/
import Derived.Test.YtfnmphjdknjkmaaGreatDoorNsecSoundG8
open List renaming mem_cons→Am,mem_cons_self→Gr,mem_cons_of_mem→Ot
set_option maxHeartbeats 1000000
set_option linter.defProp false
set_option linter.unusedVariables false
set_option linter.unusedSimpArgs false
namespace Go.X
open Go
def Fh8:Sh:= .st [.st [.b, .i .u64, .i .u64], .s, .s, .s, .i .i64, .i .i64, .i .i64, .i .i64, .i .i64, .i .i64, .i .u64]
def Wc:Sh:= .st [.s, .i .i64, .i .i64,Fh8]
def Bg3:Sh:= .l Wc
def iq:Sh:= .st [.s,Bg3]
def Dz {f:Sh} {fs:List Sh} {cs:List PV} (h:Sh.okCs (f::fs) cs):∃a b,cs=a++b∧f.okC a∧Sh.okCs fs b:=by simpa only [Sh.okCs] using h
def Pf {cs:List PV} (h:Sh.okCs [] cs):cs=[]:=by simpa only [Sh.okCs] using h
def jx {fs:List Sh} {cs:List PV} (h:(Sh.st fs).okC cs):Sh.okCs fs cs:=by simpa only [Sh.okC] using h
def rc {cs:List PV} (h:Sh.s.okC cs):∃x,cs=[.s x]∧Pq x:=by simp only [Sh.okC] at h;exact h
def Hf3 {cs:List PV} (h:Sh.b.okC cs):∃x,cs=[.b x]:=by simpa only [Sh.okC] using h
def K8 {cs:List PV} (h:(Sh.i .i64).okC cs):∃x,cs=[.i .i64 x]∧Sm x:=by simp only [Sh.okC] at h;exact h
def rz {cs:List PV} (h:(Sh.i .u64).okC cs):∃x,cs=[.i .u64 x]∧Ct0 x:=by simp only [Sh.okC] at h;exact h
def Gv5 {cs:List PV} (h:Fh8.okC cs):∃d:Dat,d.wf∧cs=d.cells:=by obtain ⟨c0,r0,rfl,h0,h⟩:=Dz (jx h);obtain ⟨a1,r1,rfl,h1,h⟩:=Dz h;obtain ⟨a2,r2,rfl,h2,h⟩:=Dz h;obtain ⟨a3,r3,rfl,h3,h⟩:=Dz h;obtain ⟨a4,r4,rfl,h4,h⟩:=Dz h;obtain ⟨a5,r5,rfl,h5,h⟩:=Dz h;obtain ⟨a6,r6,rfl,h6,h⟩:=Dz h;obtain ⟨a7,r7,rfl,h7,h⟩:=Dz h;obtain ⟨a8,r8,rfl,h8,h⟩:=Dz h;obtain ⟨a9,r9,rfl,h9,h⟩:=Dz h;obtain ⟨a10,r10,rfl,h10,h⟩:=Dz h;obtain rfl:=Pf h;obtain ⟨b0,s0,rfl,g0,g⟩:=Dz (jx h0);obtain ⟨b1,s1,rfl,g1,g⟩:=Dz g;obtain ⟨b2,s2,rfl,g2,g⟩:=Dz g;obtain rfl:=Pf g;obtain ⟨v6,rfl⟩:=Hf3 g0;obtain ⟨hi,rfl,k1⟩:=rz g1;obtain ⟨lo,rfl,k2⟩:=rz g2;obtain ⟨x1,rfl,k3⟩:=rc h1;obtain ⟨x2,rfl,k4⟩:=rc h2;obtain ⟨x3,rfl,k5⟩:=rc h3;obtain ⟨x4,rfl,k6⟩:=K8 h4;obtain ⟨x5,rfl,k7⟩:=K8 h5;obtain ⟨x6,rfl,k8⟩:=K8 h6;obtain ⟨x7,rfl,k9⟩:=K8 h7;obtain ⟨x8,rfl,k10⟩:=K8 h8;obtain ⟨x9,rfl,k11⟩:=K8 h9;obtain ⟨x10,rfl,k12⟩:=rz h10;exact ⟨⟨v6,hi,lo,x1,x2,x3,x4,x5,x6,x7,x8,x9,x10⟩,⟨k1,k2,k3,k4,k5,k6,k7,k8,k9,k10,k11,k12⟩,rfl⟩
def Gv4 {cs:List PV} (h:Wc.okC cs):∃r:Rec,r.wf∧cs=r.cells:=by obtain ⟨a0,r0,rfl,h0,h⟩:=Dz (jx h);obtain ⟨a1,r1,rfl,h1,h⟩:=Dz h;obtain ⟨a2,r2,rfl,h2,h⟩:=Dz h;obtain ⟨a3,r3,rfl,h3,h⟩:=Dz h;obtain rfl:=Pf h;obtain ⟨x0,rfl,k0⟩:=rc h0;obtain ⟨x1,rfl,k1⟩:=K8 h1;obtain ⟨x2,rfl,k2⟩:=K8 h2;obtain ⟨d,k3,rfl⟩:=Gv5 h3;exact ⟨⟨x0,x1,x2,d⟩,⟨k0,k1,k2,k3⟩,by simp [Rec.cells]⟩
def En4 {cs:List PV} (h:Bg3.okC cs):∃l:List Rec,Bl1 l∧cs=[Ag l]:=by
 have h':∃xs,cs=[.l Wc.size xs]∧xs.length≤maxLen∧∀x,x∈xs→if Wc.agg then∃ds,x= .a ds∧Wc.okC ds else x.scal=true∧Wc.okC [x]:=by unfold Bg3 at h;simpa only [Sh.okC] using h
 obtain ⟨xs,rfl,hl,hx⟩:=h';have go:∀xs:List PV,(∀x,x∈xs→if Wc.agg then∃ds,x= .a ds∧Wc.okC ds else x.scal=true∧Wc.okC [x])→∃l:List Rec,(∀r∈l,r.wf)∧xs=l.map Rec.pv:=by
  intro xs
  induction xs with
  |nil=>exact fun _=>⟨[],fun r h=>(by cases h),rfl⟩
  |cons x xs ih=>
   intro hx;obtain ⟨l,h1,rfl⟩:=ih (fun y hy=>hx y (Ot _ hy));have:=hx x (Gr ..);obtain ⟨ds,rfl,hd⟩:∃ds,x= .a ds∧Wc.okC ds:=this;obtain ⟨r,hr,rfl⟩:=Gv4 hd;refine ⟨r::l,fun y hy=> ?_,rfl⟩;rcases Am.1 hy with rfl|hy
   ·exact hr
   ·exact h1 y hy
 obtain ⟨l,h1,rfl⟩:=go xs hx;exact ⟨l,⟨by simpa [maxLen] using hl,h1⟩,rfl⟩
def En3 {p:PV} (h:iq.ok p):∃z:Zone,z.wf∧p=z.pv:=by obtain ⟨ds,rfl,h⟩:∃ds,p= .a ds∧iq.okC ds:=h;obtain ⟨a0,r0,rfl,h0,h⟩:=Dz (jx h);obtain ⟨a1,r1,rfl,h1,h⟩:=Dz h;obtain rfl:=Pf h;obtain ⟨x0,rfl,k0⟩:=rc h0;obtain ⟨l,k1,rfl⟩:=En4 h1;exact ⟨⟨x0,l⟩,⟨k0,k1⟩,rfl⟩
def En6 {p:PV} (h:Sh.s.ok p):∃x,Pq x∧p= .s x:=by have h':p.scal=true∧Sh.s.okC [p]:=h;obtain ⟨x,hx,hs⟩:=rc h'.2;injection hx with hx;exact ⟨x,hs,hx⟩
def Dh0 {p:PV} (h:iq.ok p):∃z:Zone,z.wf∧p=z.pv:=En3 h
def aw {h0:Sh} {hs:List Sh}:∀{qs:List PV},Oks (h0::hs) qs→∃p q,qs=p::q∧h0.ok p∧Oks hs q
 |[],h=>by cases h
 |p::q,h=>⟨p,q,rfl,h.1,h.2⟩
def En2:∀{qs:List PV},Oks [] qs→qs=[]
 |[],_=>rfl
 |_::_,h=>by cases h
end Go.X
