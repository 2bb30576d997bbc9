/- The program's data out of the readings. -/
import Derived.Test.YteiaijjlmnacpaaGreatDoorZoneCutsG8
open List renaming mem_cons→Ag,mem_cons_self→Gy,mem_cons_of_mem→N4
set_option maxHeartbeats 1000000
set_option linter.unusedVariables false
set_option linter.unusedSimpArgs false
namespace Go.X
open Go
def Jg0:Sh:= .st [.st [.b,.i .u64,.i .u64],.s,.s,.s,.i .i64,.i .i64,.i .i64,.i .i64,.i .i64,.i .i64,.i .u64]
def U7:Sh:= .st [.s,.i .i64,.i .i64,Jg0]
def Br1:Sh:= .l U7
def dz:Sh:= .st [.s,Br1]
theorem Dm {f:Sh} {fs:List Sh} {cs:List PV} (h:Sh.okCs (f::fs) cs):∃a b,cs=a++b∧f.okC a∧Sh.okCs fs b:=by simpa only [Sh.okCs] using h
theorem Rm {cs:List PV} (h:Sh.okCs [] cs):cs=[]:=by simpa only [Sh.okCs] using h
theorem zq {fs:List Sh} {cs:List PV} (h:(Sh.st fs).okC cs):Sh.okCs fs cs:=by simpa only [Sh.okC] using h
theorem Bv6 {cs:List PV} (h:Sh.s.okC cs):∃x,cs=[.s x]∧K3 x:=by
 simp only [Sh.okC] at h
 exact h
theorem Lg2 {cs:List PV} (h:Sh.b.okC cs):∃x,cs=[.b x]:=by simpa only [Sh.okC] using h
theorem Lc {cs:List PV} (h:(Sh.i .i64).okC cs):∃x,cs=[.i .i64 x]∧om x:=by
 simp only [Sh.okC] at h
 exact h
theorem m8 {cs:List PV} (h:(Sh.i .u64).okC cs):∃x,cs=[.i .u64 x]∧Jc9 x:=by
 simp only [Sh.okC] at h
 exact h
theorem Kk0 {cs:List PV} (h:Jg0.okC cs):∃d:Dat,d.wf∧cs=d.cells:=by
 obtain ⟨c0,r0,rfl,h0,h⟩:=Dm (zq h)
 obtain ⟨a1,r1,rfl,h1,h⟩:=Dm h
 obtain ⟨a2,r2,rfl,h2,h⟩:=Dm h
 obtain ⟨a3,r3,rfl,h3,h⟩:=Dm h
 obtain ⟨a4,r4,rfl,h4,h⟩:=Dm h
 obtain ⟨a5,r5,rfl,h5,h⟩:=Dm h
 obtain ⟨a6,r6,rfl,h6,h⟩:=Dm h
 obtain ⟨a7,r7,rfl,h7,h⟩:=Dm h
 obtain ⟨a8,r8,rfl,h8,h⟩:=Dm h
 obtain ⟨a9,r9,rfl,h9,h⟩:=Dm h
 obtain ⟨a10,r10,rfl,h10,h⟩:=Dm h
 obtain rfl:=Rm h
 obtain ⟨b0,s0,rfl,g0,g⟩:=Dm (zq h0)
 obtain ⟨b1,s1,rfl,g1,g⟩:=Dm g
 obtain ⟨b2,s2,rfl,g2,g⟩:=Dm g
 obtain rfl:=Rm g
 obtain ⟨v6,rfl⟩:=Lg2 g0
 obtain ⟨hi,rfl,k1⟩:=m8 g1
 obtain ⟨lo,rfl,k2⟩:=m8 g2
 obtain ⟨x1,rfl,k3⟩:=Bv6 h1
 obtain ⟨x2,rfl,k4⟩:=Bv6 h2
 obtain ⟨x3,rfl,k5⟩:=Bv6 h3
 obtain ⟨x4,rfl,k6⟩:=Lc h4
 obtain ⟨x5,rfl,k7⟩:=Lc h5
 obtain ⟨x6,rfl,k8⟩:=Lc h6
 obtain ⟨x7,rfl,k9⟩:=Lc h7
 obtain ⟨x8,rfl,k10⟩:=Lc h8
 obtain ⟨x9,rfl,k11⟩:=Lc h9
 obtain ⟨x10,rfl,k12⟩:=m8 h10
 exact ⟨⟨v6,hi,lo,x1,x2,x3,x4,x5,x6,x7,x8,x9,x10⟩,⟨k1,k2,k3,k4,k5,k6,k7,k8,k9,k10,k11,k12⟩,rfl⟩
theorem Kj9 {cs:List PV} (h:U7.okC cs):∃r:Rec,r.wf∧cs=r.cells:=by
 obtain ⟨a0,r0,rfl,h0,h⟩:=Dm (zq h)
 obtain ⟨a1,r1,rfl,h1,h⟩:=Dm h
 obtain ⟨a2,r2,rfl,h2,h⟩:=Dm h
 obtain ⟨a3,r3,rfl,h3,h⟩:=Dm h
 obtain rfl:=Rm h
 obtain ⟨x0,rfl,k0⟩:=Bv6 h0
 obtain ⟨x1,rfl,k1⟩:=Lc h1
 obtain ⟨x2,rfl,k2⟩:=Lc h2
 obtain ⟨d,k3,rfl⟩:=Kk0 h3
 exact ⟨⟨x0,x1,x2,d⟩,⟨k0,k1,k2,k3⟩,by simp [Rec.cells]⟩
theorem Id1 {cs:List PV} (h:Br1.okC cs):∃l:List Rec,Bs5 l∧cs=[Ad l]:=by
 have h':∃xs,cs=[.l U7.size xs]∧xs.length≤maxLen∧∀x,x∈xs→if U7.agg then∃ds,x= .a ds∧U7.okC ds else x.scal=true∧U7.okC [x]:=by
  unfold Br1 at h
  simpa only [Sh.okC] using h
 obtain ⟨xs,rfl,hl,hx⟩:=h'
 have go:∀xs:List PV,(∀x,x∈xs→if U7.agg then∃ds,x= .a ds∧U7.okC ds else x.scal=true∧U7.okC [x])→∃l:List Rec,(∀r∈l,r.wf)∧xs=l.map Rec.pv:=by
  intro xs
  induction xs with
  |nil=>exact fun _=>⟨[],fun r h=>(by cases h),rfl⟩
  |cons x xs ih=>
   intro hx
   obtain ⟨l,h1,rfl⟩:=ih (fun y hy=>hx y (N4 _ hy))
   have:=hx x (Gy ..)
   obtain ⟨ds,rfl,hd⟩:∃ds,x= .a ds∧U7.okC ds:=this
   obtain ⟨r,hr,rfl⟩:=Kj9 hd
   refine ⟨r::l,fun y hy=> ?_,rfl⟩
   rcases Ag.1 hy with rfl|hy
   ·exact hr
   ·exact h1 y hy
 obtain ⟨l,h1,rfl⟩:=go xs hx
 exact ⟨l,⟨by simpa [maxLen] using hl,h1⟩,rfl⟩
theorem Id0 {p:PV} (h:dz.ok p):∃z:Zone,z.wf∧p=z.pv:=by
 obtain ⟨ds,rfl,h⟩:∃ds,p= .a ds∧dz.okC ds:=h
 obtain ⟨a0,r0,rfl,h0,h⟩:=Dm (zq h)
 obtain ⟨a1,r1,rfl,h1,h⟩:=Dm h
 obtain rfl:=Rm h
 obtain ⟨x0,rfl,k0⟩:=Bv6 h0
 obtain ⟨l,k1,rfl⟩:=Id1 h1
 exact ⟨⟨x0,l⟩,⟨k0,k1⟩,rfl⟩
theorem Id2 {p:PV} (h:Sh.s.ok p):∃x,K3 x∧p= .s x:=by
 have h':p.scal=true∧Sh.s.okC [p]:=h
 obtain ⟨x,hx,hs⟩:=Bv6 h'.2
 injection hx with hx
 exact ⟨x,hs,hx⟩
theorem Fn8 {p:PV} (h:dz.ok p):∃z:Zone,z.wf∧p=z.pv:=Id0 h
theorem zk {h0:Sh} {hs:List Sh}:∀{qs:List PV},Oks (h0::hs) qs→∃p q,qs=p::q∧h0.ok p∧Oks hs q
 |[],h=>by cases h
 |p::q,h=>⟨p,q,rfl,h.1,h.2⟩
theorem Ic9:∀{qs:List PV},Oks [] qs→qs=[]
 |[],_=>rfl
 |_::_,h=>by cases h
end Go.X
