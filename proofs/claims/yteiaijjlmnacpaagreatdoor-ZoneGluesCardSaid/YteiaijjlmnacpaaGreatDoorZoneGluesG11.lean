/- The program's data out of the readings. -/
import Derived.Test.YteiaijjlmnacpaaGreatDoorZoneGluesG8
open List renaming mem_cons→Al,mem_cons_self→Fj,mem_cons_of_mem→Ic
set_option maxHeartbeats 1000000
set_option linter.unusedVariables false
set_option linter.unusedSimpArgs false
namespace Go.X
open Go
def It4:Sh:= .st [.st [.b, .i .u64, .i .u64], .s, .s, .s, .i .i64, .i .i64, .i .i64, .i .i64, .i .i64, .i .i64, .i .u64]
def Ub:Sh:= .st [.s, .i .i64, .i .i64,It4]
def Bh1:Sh:= .l Ub
def bf:Sh:= .st [.s,Bh1]
theorem Dl {f:Sh} {fs:List Sh} {cs:List PV} (h:Sh.okCs (f::fs) cs):∃a b,cs=a++b∧f.okC a∧Sh.okCs fs b:=by simpa only [Sh.okCs] using h
theorem Rj {cs:List PV} (h:Sh.okCs [] cs):cs=[]:=by simpa only [Sh.okCs] using h
theorem xv {fs:List Sh} {cs:List PV} (h:(Sh.st fs).okC cs):Sh.okCs fs cs:=by simpa only [Sh.okC] using h
theorem As5 {cs:List PV} (h:Sh.s.okC cs):∃x,cs=[.s x]∧J4 x:=by
 simp only [Sh.okC] at h
 exact h
theorem Kt2 {cs:List PV} (h:Sh.b.okC cs):∃x,cs=[.b x]:=by simpa only [Sh.okC] using h
theorem Lv {cs:List PV} (h:(Sh.i .i64).okC cs):∃x,cs=[.i .i64 x]∧ml x:=by
 simp only [Sh.okC] at h
 exact h
theorem lw {cs:List PV} (h:(Sh.i .u64).okC cs):∃x,cs=[.i .u64 x]∧Ir3 x:=by
 simp only [Sh.okC] at h
 exact h
theorem Jc3 {cs:List PV} (h:It4.okC cs):∃d:Dat,d.wf∧cs=d.cells:=by
 obtain ⟨c0,r0,rfl,h0,h⟩:=Dl (xv h)
 obtain ⟨a1,r1,rfl,h1,h⟩:=Dl h
 obtain ⟨a2,r2,rfl,h2,h⟩:=Dl h
 obtain ⟨a3,r3,rfl,h3,h⟩:=Dl h
 obtain ⟨a4,r4,rfl,h4,h⟩:=Dl h
 obtain ⟨a5,r5,rfl,h5,h⟩:=Dl h
 obtain ⟨a6,r6,rfl,h6,h⟩:=Dl h
 obtain ⟨a7,r7,rfl,h7,h⟩:=Dl h
 obtain ⟨a8,r8,rfl,h8,h⟩:=Dl h
 obtain ⟨a9,r9,rfl,h9,h⟩:=Dl h
 obtain ⟨a10,r10,rfl,h10,h⟩:=Dl h
 obtain rfl:=Rj h
 obtain ⟨b0,s0,rfl,g0,g⟩:=Dl (xv h0)
 obtain ⟨b1,s1,rfl,g1,g⟩:=Dl g
 obtain ⟨b2,s2,rfl,g2,g⟩:=Dl g
 obtain rfl:=Rj g
 obtain ⟨v6,rfl⟩:=Kt2 g0
 obtain ⟨hi,rfl,k1⟩:=lw g1
 obtain ⟨lo,rfl,k2⟩:=lw g2
 obtain ⟨x1,rfl,k3⟩:=As5 h1
 obtain ⟨x2,rfl,k4⟩:=As5 h2
 obtain ⟨x3,rfl,k5⟩:=As5 h3
 obtain ⟨x4,rfl,k6⟩:=Lv h4
 obtain ⟨x5,rfl,k7⟩:=Lv h5
 obtain ⟨x6,rfl,k8⟩:=Lv h6
 obtain ⟨x7,rfl,k9⟩:=Lv h7
 obtain ⟨x8,rfl,k10⟩:=Lv h8
 obtain ⟨x9,rfl,k11⟩:=Lv h9
 obtain ⟨x10,rfl,k12⟩:=lw h10
 exact ⟨⟨v6,hi,lo,x1,x2,x3,x4,x5,x6,x7,x8,x9,x10⟩,⟨k1,k2,k3,k4,k5,k6,k7,k8,k9,k10,k11,k12⟩,rfl⟩
theorem Jc2 {cs:List PV} (h:Ub.okC cs):∃r:Rec,r.wf∧cs=r.cells:=by
 obtain ⟨a0,r0,rfl,h0,h⟩:=Dl (xv h)
 obtain ⟨a1,r1,rfl,h1,h⟩:=Dl h
 obtain ⟨a2,r2,rfl,h2,h⟩:=Dl h
 obtain ⟨a3,r3,rfl,h3,h⟩:=Dl h
 obtain rfl:=Rj h
 obtain ⟨x0,rfl,k0⟩:=As5 h0
 obtain ⟨x1,rfl,k1⟩:=Lv h1
 obtain ⟨x2,rfl,k2⟩:=Lv h2
 obtain ⟨d,k3,rfl⟩:=Jc3 h3
 exact ⟨⟨x0,x1,x2,d⟩,⟨k0,k1,k2,k3⟩,by simp [Rec.cells]⟩
theorem Hr8 {cs:List PV} (h:Bh1.okC cs):∃l:List Rec,Bl5 l∧cs=[Ad l]:=by
 have h':∃xs,cs=[.l Ub.size xs]∧xs.length≤maxLen∧∀x,x∈xs→if Ub.agg then∃ds,x= .a ds∧Ub.okC ds else x.scal=true∧Ub.okC [x]:=by
  unfold Bh1 at h
  simpa only [Sh.okC] using h
 obtain ⟨xs,rfl,hl,hx⟩:=h'
 have go:∀xs:List PV,(∀x,x∈xs→if Ub.agg then∃ds,x= .a ds∧Ub.okC ds else x.scal=true∧Ub.okC [x])→∃l:List Rec,(∀r∈l,r.wf)∧xs=l.map Rec.pv:=by
  intro xs
  induction xs with
  |nil=>exact fun _=>⟨[],fun r h=>(by cases h),rfl⟩
  |cons x xs ih=>
   intro hx
   obtain ⟨l,h1,rfl⟩:=ih (fun y hy=>hx y (Ic _ hy))
   have:=hx x (Fj ..)
   obtain ⟨ds,rfl,hd⟩:∃ds,x= .a ds∧Ub.okC ds:=this
   obtain ⟨r,hr,rfl⟩:=Jc2 hd
   refine ⟨r::l,fun y hy=> ?_,rfl⟩
   rcases Al.1 hy with rfl|hy
   ·exact hr
   ·exact h1 y hy
 obtain ⟨l,h1,rfl⟩:=go xs hx
 exact ⟨l,⟨by simpa [maxLen] using hl,h1⟩,rfl⟩
theorem Hr6 {p:PV} (h:bf.ok p):∃z:Zone,z.wf∧p=z.pv:=by
 obtain ⟨ds,rfl,h⟩:∃ds,p= .a ds∧bf.okC ds:=h
 obtain ⟨a0,r0,rfl,h0,h⟩:=Dl (xv h)
 obtain ⟨a1,r1,rfl,h1,h⟩:=Dl h
 obtain rfl:=Rj h
 obtain ⟨x0,rfl,k0⟩:=As5 h0
 obtain ⟨l,k1,rfl⟩:=Hr8 h1
 exact ⟨⟨x0,l⟩,⟨k0,k1⟩,rfl⟩
theorem Fc6 {p:PV} (h:bf.ok p):∃z:Zone,z.wf∧p=z.pv:=Hr6 h
theorem xq {h0:Sh} {hs:List Sh}:∀{qs:List PV},Oks (h0::hs) qs→∃p q,qs=p::q∧h0.ok p∧Oks hs q
 |[],h=>by cases h
 |p::q,h=>⟨p,q,rfl,h.1,h.2⟩
theorem Hr5:∀{qs:List PV},Oks [] qs→qs=[]
 |[],_=>rfl
 |_::_,h=>by cases h
end Go.X
