/- The program's data out of the readings. -/
import Derived.Test.YteiaijjlmnacpaaGreatDoorZoneShufflesG8
open List renaming mem_cons→Ah,mem_cons_self→E4,mem_cons_of_mem→H2
set_option maxHeartbeats 1000000
set_option linter.unusedVariables false
set_option linter.unusedSimpArgs false
namespace Go.X
open Go
def Gv3:Sh:= .st [.st [.b, .i .u64, .i .u64], .s, .s, .s, .i .i64, .i .i64, .i .i64, .i .i64, .i .i64, .i .i64, .i .u64]
def Sj:Sh:= .st [.s, .i .i64, .i .i64,Gv3]
def Ay4:Sh:= .l Sj
def Yx:Sh:= .st [.s,Ay4]
theorem Dy {f:Sh} {fs:List Sh} {cs:List PV} (h:Sh.okCs (f::fs) cs):∃a b,cs=a++b∧f.okC a∧Sh.okCs fs b:=by simpa only [Sh.okCs] using h
theorem Pd {cs:List PV} (h:Sh.okCs [] cs):cs=[]:=by simpa only [Sh.okCs] using h
theorem oz {fs:List Sh} {cs:List PV} (h:(Sh.st fs).okC cs):Sh.okCs fs cs:=by simpa only [Sh.okC] using h
theorem An2 {cs:List PV} (h:Sh.s.okC cs):∃x,cs=[.s x]∧Py x:=by
 simp only [Sh.okC] at h
 exact h
theorem Hp3 {cs:List PV} (h:Sh.b.okC cs):∃x,cs=[.b x]:=by simpa only [Sh.okC] using h
theorem Kc {cs:List PV} (h:(Sh.i .i64).okC cs):∃x,cs=[.i .i64 x]∧gj x:=by
 simp only [Sh.okC] at h
 exact h
theorem ez {cs:List PV} (h:(Sh.i .u64).okC cs):∃x,cs=[.i .u64 x]∧Gk2 x:=by
 simp only [Sh.okC] at h
 exact h
theorem Gf2 {cs:List PV} (h:Gv3.okC cs):∃d:Dat,d.wf∧cs=d.cells:=by
 obtain ⟨c0,r0,rfl,h0,h⟩:=Dy (oz h)
 obtain ⟨a1,r1,rfl,h1,h⟩:=Dy h
 obtain ⟨a2,r2,rfl,h2,h⟩:=Dy h
 obtain ⟨a3,r3,rfl,h3,h⟩:=Dy h
 obtain ⟨a4,r4,rfl,h4,h⟩:=Dy h
 obtain ⟨a5,r5,rfl,h5,h⟩:=Dy h
 obtain ⟨a6,r6,rfl,h6,h⟩:=Dy h
 obtain ⟨a7,r7,rfl,h7,h⟩:=Dy h
 obtain ⟨a8,r8,rfl,h8,h⟩:=Dy h
 obtain ⟨a9,r9,rfl,h9,h⟩:=Dy h
 obtain ⟨a10,r10,rfl,h10,h⟩:=Dy h
 obtain rfl:=Pd h
 obtain ⟨b0,s0,rfl,g0,g⟩:=Dy (oz h0)
 obtain ⟨b1,s1,rfl,g1,g⟩:=Dy g
 obtain ⟨b2,s2,rfl,g2,g⟩:=Dy g
 obtain rfl:=Pd g
 obtain ⟨v6,rfl⟩:=Hp3 g0
 obtain ⟨hi,rfl,k1⟩:=ez g1
 obtain ⟨lo,rfl,k2⟩:=ez g2
 obtain ⟨x1,rfl,k3⟩:=An2 h1
 obtain ⟨x2,rfl,k4⟩:=An2 h2
 obtain ⟨x3,rfl,k5⟩:=An2 h3
 obtain ⟨x4,rfl,k6⟩:=Kc h4
 obtain ⟨x5,rfl,k7⟩:=Kc h5
 obtain ⟨x6,rfl,k8⟩:=Kc h6
 obtain ⟨x7,rfl,k9⟩:=Kc h7
 obtain ⟨x8,rfl,k10⟩:=Kc h8
 obtain ⟨x9,rfl,k11⟩:=Kc h9
 obtain ⟨x10,rfl,k12⟩:=ez h10
 exact ⟨⟨v6,hi,lo,x1,x2,x3,x4,x5,x6,x7,x8,x9,x10⟩,⟨k1,k2,k3,k4,k5,k6,k7,k8,k9,k10,k11,k12⟩,rfl⟩
theorem Gf1 {cs:List PV} (h:Sj.okC cs):∃r:Rec,r.wf∧cs=r.cells:=by
 obtain ⟨a0,r0,rfl,h0,h⟩:=Dy (oz h)
 obtain ⟨a1,r1,rfl,h1,h⟩:=Dy h
 obtain ⟨a2,r2,rfl,h2,h⟩:=Dy h
 obtain ⟨a3,r3,rfl,h3,h⟩:=Dy h
 obtain rfl:=Pd h
 obtain ⟨x0,rfl,k0⟩:=An2 h0
 obtain ⟨x1,rfl,k1⟩:=Kc h1
 obtain ⟨x2,rfl,k2⟩:=Kc h2
 obtain ⟨d,k3,rfl⟩:=Gf2 h3
 exact ⟨⟨x0,x1,x2,d⟩,⟨k0,k1,k2,k3⟩,by simp [Rec.cells]⟩
theorem Fk4 {cs:List PV} (h:Ay4.okC cs):∃l:List Rec,Az8 l∧cs=[Af l]:=by
 have h':∃xs,cs=[.l Sj.size xs]∧xs.length≤maxLen∧∀x,x∈xs→if Sj.agg then∃ds,x= .a ds∧Sj.okC ds else x.scal=true∧Sj.okC [x]:=by
  unfold Ay4 at h
  simpa only [Sh.okC] using h
 obtain ⟨xs,rfl,hl,hx⟩:=h'
 have go:∀xs:List PV,(∀x,x∈xs→if Sj.agg then∃ds,x= .a ds∧Sj.okC ds else x.scal=true∧Sj.okC [x])→∃l:List Rec,(∀r∈l,r.wf)∧xs=l.map Rec.pv:=by
  intro xs
  induction xs with
  |nil=>exact fun _=>⟨[],fun r h=>(by cases h),rfl⟩
  |cons x xs ih=>
   intro hx
   obtain ⟨l,h1,rfl⟩:=ih (fun y hy=>hx y (H2 _ hy))
   have:=hx x (E4 ..)
   obtain ⟨ds,rfl,hd⟩:∃ds,x= .a ds∧Sj.okC ds:=this
   obtain ⟨r,hr,rfl⟩:=Gf1 hd
   refine ⟨r::l,fun y hy=> ?_,rfl⟩
   rcases Ah.1 hy with rfl|hy
   ·exact hr
   ·exact h1 y hy
 obtain ⟨l,h1,rfl⟩:=go xs hx
 exact ⟨l,⟨by simpa [maxLen] using hl,h1⟩,rfl⟩
theorem Fk3 {p:PV} (h:Yx.ok p):∃z:Zone,z.wf∧p=z.pv:=by
 obtain ⟨ds,rfl,h⟩:∃ds,p= .a ds∧Yx.okC ds:=h
 obtain ⟨a0,r0,rfl,h0,h⟩:=Dy (oz h)
 obtain ⟨a1,r1,rfl,h1,h⟩:=Dy h
 obtain rfl:=Pd h
 obtain ⟨x0,rfl,k0⟩:=An2 h0
 obtain ⟨l,k1,rfl⟩:=Fk4 h1
 exact ⟨⟨x0,l⟩,⟨k0,k1⟩,rfl⟩
theorem Dv6 {p:PV} (h:Yx.ok p):∃z:Zone,z.wf∧p=z.pv:=Fk3 h
theorem oy {h0:Sh} {hs:List Sh}:∀{qs:List PV},Oks (h0::hs) qs→∃p q,qs=p::q∧h0.ok p∧Oks hs q
 |[],h=>by cases h
 |p::q,h=>⟨p,q,rfl,h.1,h.2⟩
theorem Fk2:∀{qs:List PV},Oks [] qs→qs=[]
 |[],_=>rfl
 |_::_,h=>by cases h
end Go.X
