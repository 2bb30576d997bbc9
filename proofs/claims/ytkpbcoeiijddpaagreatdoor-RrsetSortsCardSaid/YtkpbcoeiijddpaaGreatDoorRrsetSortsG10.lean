/- The program's data out of the readings. -/
import Derived.Test.YtkpbcoeiijddpaaGreatDoorRrsetSortsG8
open List renaming mem_cons→Ap,mem_cons_of_mem→Lj,mem_cons_self→R4
set_option maxHeartbeats 1000000
set_option linter.unusedVariables false
set_option linter.unusedSimpArgs false
namespace Go.X
open Go
def Fl6:Sh:= .st [.st [.b, .i .u64, .i .u64], .s, .s, .s, .i .i64, .i .i64, .i .i64, .i .i64, .i .i64, .i .i64, .i .u64]
def Qy:Sh:= .st [.s, .i .i64, .i .i64,Fl6]
def Q2:Sh:= .l Qy
theorem Df {f:Sh} {fs:List Sh} {cs:List PV} (h:Sh.okCs (f::fs) cs):∃a b,cs=a++b∧f.okC a∧Sh.okCs fs b:=by simpa only [Sh.okCs] using h
theorem S8 {cs:List PV} (h:Sh.okCs [] cs):cs=[]:=by simpa only [Sh.okCs] using h
theorem xb {fs:List Sh} {cs:List PV} (h:(Sh.st fs).okC cs):Sh.okCs fs cs:=by simpa only [Sh.okC] using h
theorem Ch6 {cs:List PV} (h:Sh.s.okC cs):∃x,cs=[.s x]∧pj x:=by simp only [Sh.okC] at h;exact h
theorem Hb3 {cs:List PV} (h:Sh.b.okC cs):∃x,cs=[.b x]:=by simpa only [Sh.okC] using h
theorem Jj {cs:List PV} (h:(Sh.i .i64).okC cs):∃x,cs=[.i .i64 x]∧f7 x:=by simp only [Sh.okC] at h;exact h
theorem Y1 {cs:List PV} (h:(Sh.i .u64).okC cs):∃x,cs=[.i .u64 x]∧Gm8 x:=by simp only [Sh.okC] at h;exact h
theorem Ft5 {cs:List PV} (h:Fl6.okC cs):∃d:Dat,d.wf∧cs=d.cells:=by obtain ⟨c0,r0,rfl,h0,h⟩:=Df (xb h);obtain ⟨a1,r1,rfl,h1,h⟩:=Df h;obtain ⟨a2,r2,rfl,h2,h⟩:=Df h;obtain ⟨a3,r3,rfl,h3,h⟩:=Df h;obtain ⟨a4,r4,rfl,h4,h⟩:=Df h;obtain ⟨a5,r5,rfl,h5,h⟩:=Df h;obtain ⟨a6,r6,rfl,h6,h⟩:=Df h;obtain ⟨a7,r7,rfl,h7,h⟩:=Df h;obtain ⟨a8,r8,rfl,h8,h⟩:=Df h;obtain ⟨a9,r9,rfl,h9,h⟩:=Df h;obtain ⟨a10,r10,rfl,h10,h⟩:=Df h;obtain rfl:=S8 h;obtain ⟨b0,s0,rfl,g0,g⟩:=Df (xb h0);obtain ⟨b1,s1,rfl,g1,g⟩:=Df g;obtain ⟨b2,s2,rfl,g2,g⟩:=Df g;obtain rfl:=S8 g;obtain ⟨v6,rfl⟩:=Hb3 g0;obtain ⟨hi,rfl,k1⟩:=Y1 g1;obtain ⟨lo,rfl,k2⟩:=Y1 g2;obtain ⟨x1,rfl,k3⟩:=Ch6 h1;obtain ⟨x2,rfl,k4⟩:=Ch6 h2;obtain ⟨x3,rfl,k5⟩:=Ch6 h3;obtain ⟨x4,rfl,k6⟩:=Jj h4;obtain ⟨x5,rfl,k7⟩:=Jj h5;obtain ⟨x6,rfl,k8⟩:=Jj h6;obtain ⟨x7,rfl,k9⟩:=Jj h7;obtain ⟨x8,rfl,k10⟩:=Jj h8;obtain ⟨x9,rfl,k11⟩:=Jj h9;obtain ⟨x10,rfl,k12⟩:=Y1 h10;exact ⟨⟨v6,hi,lo,x1,x2,x3,x4,x5,x6,x7,x8,x9,x10⟩,⟨k1,k2,k3,k4,k5,k6,k7,k8,k9,k10,k11,k12⟩,rfl⟩
theorem Ft4 {cs:List PV} (h:Qy.okC cs):∃r:Rec,r.wf∧cs=r.cells:=by obtain ⟨a0,r0,rfl,h0,h⟩:=Df (xb h);obtain ⟨a1,r1,rfl,h1,h⟩:=Df h;obtain ⟨a2,r2,rfl,h2,h⟩:=Df h;obtain ⟨a3,r3,rfl,h3,h⟩:=Df h;obtain rfl:=S8 h;obtain ⟨x0,rfl,k0⟩:=Ch6 h0;obtain ⟨x1,rfl,k1⟩:=Jj h1;obtain ⟨x2,rfl,k2⟩:=Jj h2;obtain ⟨d,k3,rfl⟩:=Ft5 h3;exact ⟨⟨x0,x1,x2,d⟩,⟨k0,k1,k2,k3⟩,by simp [Rec.cells]⟩
theorem Eh9 {cs:List PV} (h:Q2.okC cs):∃l:List Rec,Vm l∧cs=[Al l]:=by
 have h':∃xs,cs=[.l Qy.size xs]∧xs.length≤maxLen∧∀x,x∈xs→if Qy.agg then∃ds,x= .a ds∧Qy.okC ds else x.scal=true∧Qy.okC [x]:=by unfold Q2 at h;simpa only [Sh.okC] using h
 obtain ⟨xs,rfl,hl,hx⟩:=h';have go:∀xs:List PV,(∀x,x∈xs→if Qy.agg then∃ds,x= .a ds∧Qy.okC ds else x.scal=true∧Qy.okC [x])→∃l:List Rec,(∀r∈l,r.wf)∧xs=l.map Rec.pv:=by
  intro xs
  induction xs with
  |nil=>exact fun _=>⟨[],fun r h=>(by cases h),rfl⟩
  |cons x xs ih=>
   intro hx;obtain ⟨l,h1,rfl⟩:=ih (fun y hy=>hx y (Lj _ hy));have:=hx x (R4 ..);obtain ⟨ds,rfl,hd⟩:∃ds,x= .a ds∧Qy.okC ds:=this;obtain ⟨r,hr,rfl⟩:=Ft4 hd;refine ⟨r::l,fun y hy=> ?_,rfl⟩;rcases Ap.1 hy with rfl|hy
   ·exact hr
   ·exact h1 y hy
 obtain ⟨l,h1,rfl⟩:=go xs hx;exact ⟨l,⟨by simpa [maxLen] using hl,h1⟩,rfl⟩
theorem Ch7 {p:PV} (h:Q2.ok p):∃l,Vm l∧p=Al l:=by have h':p.scal=true∧Q2.okC [p]:=h;obtain ⟨l,hl,hp⟩:=Eh9 h'.2;injection hp with hp;exact ⟨l,hl,hp⟩
theorem Ch4 {h0:Sh} {hs:List Sh}:∀{qs:List PV},Oks (h0::hs) qs→∃p q,qs=p::q∧h0.ok p∧Oks hs q
 |[],h=>by cases h
 |p::q,h=>⟨p,q,rfl,h.1,h.2⟩
theorem Eh8:∀{qs:List PV},Oks [] qs→qs=[]
 |[],_=>rfl
 |_::_,h=>by cases h
end Go.X
