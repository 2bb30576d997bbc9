/- The program's data out of the readings. -/
import Derived.Test.YtkpbcoeiijddpaaGreatDoorRrsetPairsG8
open List renaming mem_cons→A7,mem_cons_of_mem→Kp,mem_cons_self→Q9
set_option maxHeartbeats 1000000
set_option linter.unusedVariables false
set_option linter.unusedSimpArgs false
namespace Go.X
open Go
def Fg0:Sh:= .st [.st [.b, .i .u64, .i .u64], .s, .s, .s, .i .i64, .i .i64, .i .i64, .i .i64, .i .i64, .i .i64, .i .u64]
def Pp:Sh:= .st [.s, .i .i64, .i .i64,Fg0]
def Ms:Sh:= .l Pp
theorem Dz {f:Sh} {fs:List Sh} {cs:List PV} (h:Sh.okCs (f::fs) cs):∃a b,cs=a++b∧f.okC a∧Sh.okCs fs b:=by simpa only [Sh.okCs] using h
theorem Sq {cs:List PV} (h:Sh.okCs [] cs):cs=[]:=by simpa only [Sh.okCs] using h
theorem vf {fs:List Sh} {cs:List PV} (h:(Sh.st fs).okC cs):Sh.okCs fs cs:=by simpa only [Sh.okC] using h
theorem Cd3 {cs:List PV} (h:Sh.s.okC cs):∃x,cs=[.s x]∧ng x:=by simp only [Sh.okC] at h;exact h
theorem Hw8 {cs:List PV} (h:Sh.b.okC cs):∃x,cs=[.b x]:=by simpa only [Sh.okC] using h
theorem I5 {cs:List PV} (h:(Sh.i .i64).okC cs):∃x,cs=[.i .i64 x]∧ew x:=by simp only [Sh.okC] at h;exact h
theorem X9 {cs:List PV} (h:(Sh.i .u64).okC cs):∃x,cs=[.i .u64 x]∧Gf0 x:=by simp only [Sh.okC] at h;exact h
theorem Fp9 {cs:List PV} (h:Fg0.okC cs):∃d:Dat,d.wf∧cs=d.cells:=by obtain ⟨c0,r0,rfl,h0,h⟩:=Dz (vf h);obtain ⟨a1,r1,rfl,h1,h⟩:=Dz h;obtain ⟨a2,r2,rfl,h2,h⟩:=Dz h;obtain ⟨a3,r3,rfl,h3,h⟩:=Dz h;obtain ⟨a4,r4,rfl,h4,h⟩:=Dz h;obtain ⟨a5,r5,rfl,h5,h⟩:=Dz h;obtain ⟨a6,r6,rfl,h6,h⟩:=Dz h;obtain ⟨a7,r7,rfl,h7,h⟩:=Dz h;obtain ⟨a8,r8,rfl,h8,h⟩:=Dz h;obtain ⟨a9,r9,rfl,h9,h⟩:=Dz h;obtain ⟨a10,r10,rfl,h10,h⟩:=Dz h;obtain rfl:=Sq h;obtain ⟨b0,s0,rfl,g0,g⟩:=Dz (vf h0);obtain ⟨b1,s1,rfl,g1,g⟩:=Dz g;obtain ⟨b2,s2,rfl,g2,g⟩:=Dz g;obtain rfl:=Sq g;obtain ⟨v6,rfl⟩:=Hw8 g0;obtain ⟨hi,rfl,k1⟩:=X9 g1;obtain ⟨lo,rfl,k2⟩:=X9 g2;obtain ⟨x1,rfl,k3⟩:=Cd3 h1;obtain ⟨x2,rfl,k4⟩:=Cd3 h2;obtain ⟨x3,rfl,k5⟩:=Cd3 h3;obtain ⟨x4,rfl,k6⟩:=I5 h4;obtain ⟨x5,rfl,k7⟩:=I5 h5;obtain ⟨x6,rfl,k8⟩:=I5 h6;obtain ⟨x7,rfl,k9⟩:=I5 h7;obtain ⟨x8,rfl,k10⟩:=I5 h8;obtain ⟨x9,rfl,k11⟩:=I5 h9;obtain ⟨x10,rfl,k12⟩:=X9 h10;exact ⟨⟨v6,hi,lo,x1,x2,x3,x4,x5,x6,x7,x8,x9,x10⟩,⟨k1,k2,k3,k4,k5,k6,k7,k8,k9,k10,k11,k12⟩,rfl⟩
theorem Fp8 {cs:List PV} (h:Pp.okC cs):∃r:Rec,r.wf∧cs=r.cells:=by obtain ⟨a0,r0,rfl,h0,h⟩:=Dz (vf h);obtain ⟨a1,r1,rfl,h1,h⟩:=Dz h;obtain ⟨a2,r2,rfl,h2,h⟩:=Dz h;obtain ⟨a3,r3,rfl,h3,h⟩:=Dz h;obtain rfl:=Sq h;obtain ⟨x0,rfl,k0⟩:=Cd3 h0;obtain ⟨x1,rfl,k1⟩:=I5 h1;obtain ⟨x2,rfl,k2⟩:=I5 h2;obtain ⟨d,k3,rfl⟩:=Fp9 h3;exact ⟨⟨x0,x1,x2,d⟩,⟨k0,k1,k2,k3⟩,by simp [Rec.cells]⟩
theorem Eg5 {cs:List PV} (h:Ms.okC cs):∃l:List Rec,Rr l∧cs=[Af l]:=by
 have h':∃xs,cs=[.l Pp.size xs]∧xs.length≤maxLen∧∀x,x∈xs→if Pp.agg then∃ds,x= .a ds∧Pp.okC ds else x.scal=true∧Pp.okC [x]:=by unfold Ms at h;simpa only [Sh.okC] using h
 obtain ⟨xs,rfl,hl,hx⟩:=h';have go:∀xs:List PV,(∀x,x∈xs→if Pp.agg then∃ds,x= .a ds∧Pp.okC ds else x.scal=true∧Pp.okC [x])→∃l:List Rec,(∀r∈l,r.wf)∧xs=l.map Rec.pv:=by
  intro xs
  induction xs with
  |nil=>exact fun _=>⟨[],fun r h=>(by cases h),rfl⟩
  |cons x xs ih=>
   intro hx;obtain ⟨l,h1,rfl⟩:=ih (fun y hy=>hx y (Kp _ hy));have:=hx x (Q9 ..);obtain ⟨ds,rfl,hd⟩:∃ds,x= .a ds∧Pp.okC ds:=this;obtain ⟨r,hr,rfl⟩:=Fp8 hd;refine ⟨r::l,fun y hy=> ?_,rfl⟩;rcases A7.1 hy with rfl|hy
   ·exact hr
   ·exact h1 y hy
 obtain ⟨l,h1,rfl⟩:=go xs hx;exact ⟨l,⟨by simpa [maxLen] using hl,h1⟩,rfl⟩
theorem dy {p:PV} (h:Ms.ok p):∃l,Rr l∧p=Af l:=by have h':p.scal=true∧Ms.okC [p]:=h;obtain ⟨l,hl,hp⟩:=Eg5 h'.2;injection hp with hp;exact ⟨l,hl,hp⟩
theorem dx {h0:Sh} {hs:List Sh}:∀{qs:List PV},Oks (h0::hs) qs→∃p q,qs=p::q∧h0.ok p∧Oks hs q
 |[],h=>by cases h
 |p::q,h=>⟨p,q,rfl,h.1,h.2⟩
theorem Eg4:∀{qs:List PV},Oks [] qs→qs=[]
 |[],_=>rfl
 |_::_,h=>by cases h
end Go.X
