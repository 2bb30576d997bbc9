/- The program's data out of the readings. -/
import Derived.Test.YtfnmphjdknjkmaaGreatDoorNsecEmptyG8
open List renaming mem_cons→Am,mem_cons_self→Gq,mem_cons_of_mem→M9
set_option maxHeartbeats 1000000
set_option linter.unusedVariables false
set_option linter.unusedSimpArgs false
namespace Go.X
open Go
def Hh4:Sh:= .st [.st [.b, .i .u64, .i .u64], .s, .s, .s, .i .i64, .i .i64, .i .i64, .i .i64, .i .i64, .i .i64, .i .u64]
def T2:Sh:= .st [.s, .i .i64, .i .i64,Hh4]
def Ud:Sh:= .l T2
theorem Dc {f:Sh} {fs:List Sh} {cs:List PV} (h:Sh.okCs (f::fs) cs):∃a b,cs=a++b∧f.okC a∧Sh.okCs fs b:=by simpa only [Sh.okCs] using h
theorem Qs {cs:List PV} (h:Sh.okCs [] cs):cs=[]:=by simpa only [Sh.okCs] using h
theorem wj {fs:List Sh} {cs:List PV} (h:(Sh.st fs).okC cs):Sh.okCs fs cs:=by simpa only [Sh.okC] using h
theorem Al4 {cs:List PV} (h:Sh.s.okC cs):∃x,cs=[.s x]∧Qm x:=by simp only [Sh.okC] at h;exact h
theorem Jc8 {cs:List PV} (h:Sh.b.okC cs):∃x,cs=[.b x]:=by simpa only [Sh.okC] using h
theorem Kk {cs:List PV} (h:(Sh.i .i64).okC cs):∃x,cs=[.i .i64 x]∧ik x:=by simp only [Sh.okC] at h;exact h
theorem kj {cs:List PV} (h:(Sh.i .u64).okC cs):∃x,cs=[.i .u64 x]∧Hy3 x:=by simp only [Sh.okC] at h;exact h
theorem Iq7 {cs:List PV} (h:Hh4.okC cs):∃d:Dat,d.wf∧cs=d.cells:=by obtain ⟨c0,r0,rfl,h0,h⟩:=Dc (wj h);obtain ⟨a1,r1,rfl,h1,h⟩:=Dc h;obtain ⟨a2,r2,rfl,h2,h⟩:=Dc h;obtain ⟨a3,r3,rfl,h3,h⟩:=Dc h;obtain ⟨a4,r4,rfl,h4,h⟩:=Dc h;obtain ⟨a5,r5,rfl,h5,h⟩:=Dc h;obtain ⟨a6,r6,rfl,h6,h⟩:=Dc h;obtain ⟨a7,r7,rfl,h7,h⟩:=Dc h;obtain ⟨a8,r8,rfl,h8,h⟩:=Dc h;obtain ⟨a9,r9,rfl,h9,h⟩:=Dc h;obtain ⟨a10,r10,rfl,h10,h⟩:=Dc h;obtain rfl:=Qs h;obtain ⟨b0,s0,rfl,g0,g⟩:=Dc (wj h0);obtain ⟨b1,s1,rfl,g1,g⟩:=Dc g;obtain ⟨b2,s2,rfl,g2,g⟩:=Dc g;obtain rfl:=Qs g;obtain ⟨v6,rfl⟩:=Jc8 g0;obtain ⟨hi,rfl,k1⟩:=kj g1;obtain ⟨lo,rfl,k2⟩:=kj g2;obtain ⟨x1,rfl,k3⟩:=Al4 h1;obtain ⟨x2,rfl,k4⟩:=Al4 h2;obtain ⟨x3,rfl,k5⟩:=Al4 h3;obtain ⟨x4,rfl,k6⟩:=Kk h4;obtain ⟨x5,rfl,k7⟩:=Kk h5;obtain ⟨x6,rfl,k8⟩:=Kk h6;obtain ⟨x7,rfl,k9⟩:=Kk h7;obtain ⟨x8,rfl,k10⟩:=Kk h8;obtain ⟨x9,rfl,k11⟩:=Kk h9;obtain ⟨x10,rfl,k12⟩:=kj h10;exact ⟨⟨v6,hi,lo,x1,x2,x3,x4,x5,x6,x7,x8,x9,x10⟩,⟨k1,k2,k3,k4,k5,k6,k7,k8,k9,k10,k11,k12⟩,rfl⟩
theorem Iq6 {cs:List PV} (h:T2.okC cs):∃r:Rec,r.wf∧cs=r.cells:=by obtain ⟨a0,r0,rfl,h0,h⟩:=Dc (wj h);obtain ⟨a1,r1,rfl,h1,h⟩:=Dc h;obtain ⟨a2,r2,rfl,h2,h⟩:=Dc h;obtain ⟨a3,r3,rfl,h3,h⟩:=Dc h;obtain rfl:=Qs h;obtain ⟨x0,rfl,k0⟩:=Al4 h0;obtain ⟨x1,rfl,k1⟩:=Kk h1;obtain ⟨x2,rfl,k2⟩:=Kk h2;obtain ⟨d,k3,rfl⟩:=Iq7 h3;exact ⟨⟨x0,x1,x2,d⟩,⟨k0,k1,k2,k3⟩,by simp [Rec.cells]⟩
theorem Gg0 {cs:List PV} (h:Ud.okC cs):∃l:List Rec,jp l∧cs=[Al l]:=by
 have h':∃xs,cs=[.l T2.size xs]∧xs.length≤maxLen∧∀x,x∈xs→if T2.agg then∃ds,x= .a ds∧T2.okC ds else x.scal=true∧T2.okC [x]:=by unfold Ud at h;simpa only [Sh.okC] using h
 obtain ⟨xs,rfl,hl,hx⟩:=h';have go:∀xs:List PV,(∀x,x∈xs→if T2.agg then∃ds,x= .a ds∧T2.okC ds else x.scal=true∧T2.okC [x])→∃l:List Rec,(∀r∈l,r.wf)∧xs=l.map Rec.pv:=by
  intro xs
  induction xs with
  |nil=>exact fun _=>⟨[],fun r h=>(by cases h),rfl⟩
  |cons x xs ih=>
   intro hx;obtain ⟨l,h1,rfl⟩:=ih (fun y hy=>hx y (M9 _ hy));have:=hx x (Gq ..);obtain ⟨ds,rfl,hd⟩:∃ds,x= .a ds∧T2.okC ds:=this;obtain ⟨r,hr,rfl⟩:=Iq6 hd;refine ⟨r::l,fun y hy=> ?_,rfl⟩;rcases Am.1 hy with rfl|hy
   ·exact hr
   ·exact h1 y hy
 obtain ⟨l,h1,rfl⟩:=go xs hx;exact ⟨l,⟨by simpa [maxLen] using hl,h1⟩,rfl⟩
theorem Gg2 {p:PV} (h:Sh.s.ok p):∃x,Qm x∧p= .s x:=by have h':p.scal=true∧Sh.s.okC [p]:=h;obtain ⟨x,hx,hs⟩:=Al4 h'.2;injection hx with hx;exact ⟨x,hs,hx⟩
theorem Ez8 {p:PV} (h:Ud.ok p):∃l,jp l∧p=Al l:=by have h':p.scal=true∧Ud.okC [p]:=h;obtain ⟨l,hl,hp⟩:=Gg0 h'.2;injection hp with hp;exact ⟨l,hl,hp⟩
theorem Xc {h0:Sh} {hs:List Sh}:∀{qs:List PV},Oks (h0::hs) qs→∃p q,qs=p::q∧h0.ok p∧Oks hs q
 |[],h=>by cases h
 |p::q,h=>⟨p,q,rfl,h.1,h.2⟩
theorem Gf9:∀{qs:List PV},Oks [] qs→qs=[]
 |[],_=>rfl
 |_::_,h=>by cases h
end Go.X
