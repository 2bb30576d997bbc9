/- The program's data out of the readings. -/
import Derived.Test.YteiaijjlmnacpaaGreatDoorZoneExistsG8
open List renaming mem_cons→Af,mem_cons_self→F2,mem_cons_of_mem→Mc
set_option maxHeartbeats 1000000
set_option linter.unusedVariables false
set_option linter.unusedSimpArgs false
namespace Go.X
open Go
def Gw8:Sh:= .st [.st [.b, .i .u64, .i .u64], .s, .s, .s, .i .i64, .i .i64, .i .i64, .i .i64, .i .i64, .i .i64, .i .u64]
def Sb:Sh:= .st [.s, .i .i64, .i .i64,Gw8]
def Az9:Sh:= .l Sb
def Yl:Sh:= .st [.s,Az9]
theorem Dy {f:Sh} {fs:List Sh} {cs:List PV} (h:Sh.okCs (f::fs) cs):∃a b,cs=a++b∧f.okC a∧Sh.okCs fs b:=by simpa only [Sh.okCs] using h
theorem Pp {cs:List PV} (h:Sh.okCs [] cs):cs=[]:=by simpa only [Sh.okCs] using h
theorem o7 {fs:List Sh} {cs:List PV} (h:(Sh.st fs).okC cs):Sh.okCs fs cs:=by simpa only [Sh.okC] using h
theorem yp {cs:List PV} (h:Sh.s.okC cs):∃x,cs=[.s x]∧Mp x:=by
 simp only [Sh.okC] at h
 exact h
theorem Hr6 {cs:List PV} (h:Sh.b.okC cs):∃x,cs=[.b x]:=by simpa only [Sh.okC] using h
theorem Kz {cs:List PV} (h:(Sh.i .i64).okC cs):∃x,cs=[.i .i64 x]∧g8 x:=by
 simp only [Sh.okC] at h
 exact h
theorem fg {cs:List PV} (h:(Sh.i .u64).okC cs):∃x,cs=[.i .u64 x]∧Gq7 x:=by
 simp only [Sh.okC] at h
 exact h
theorem Gg7 {cs:List PV} (h:Gw8.okC cs):∃d:Dat,d.wf∧cs=d.cells:=by
 obtain ⟨c0,r0,rfl,h0,h⟩:=Dy (o7 h)
 obtain ⟨a1,r1,rfl,h1,h⟩:=Dy h
 obtain ⟨a2,r2,rfl,h2,h⟩:=Dy h
 obtain ⟨a3,r3,rfl,h3,h⟩:=Dy h
 obtain ⟨a4,r4,rfl,h4,h⟩:=Dy h
 obtain ⟨a5,r5,rfl,h5,h⟩:=Dy h
 obtain ⟨a6,r6,rfl,h6,h⟩:=Dy h
 obtain ⟨a7,r7,rfl,h7,h⟩:=Dy h
 obtain ⟨a8,r8,rfl,h8,h⟩:=Dy h
 obtain ⟨a9,r9,rfl,h9,h⟩:=Dy h
 obtain ⟨a10,r10,rfl,h10,h⟩:=Dy h
 obtain rfl:=Pp h
 obtain ⟨b0,s0,rfl,g0,g⟩:=Dy (o7 h0)
 obtain ⟨b1,s1,rfl,g1,g⟩:=Dy g
 obtain ⟨b2,s2,rfl,g2,g⟩:=Dy g
 obtain rfl:=Pp g
 obtain ⟨v6,rfl⟩:=Hr6 g0
 obtain ⟨hi,rfl,k1⟩:=fg g1
 obtain ⟨lo,rfl,k2⟩:=fg g2
 obtain ⟨x1,rfl,k3⟩:=yp h1
 obtain ⟨x2,rfl,k4⟩:=yp h2
 obtain ⟨x3,rfl,k5⟩:=yp h3
 obtain ⟨x4,rfl,k6⟩:=Kz h4
 obtain ⟨x5,rfl,k7⟩:=Kz h5
 obtain ⟨x6,rfl,k8⟩:=Kz h6
 obtain ⟨x7,rfl,k9⟩:=Kz h7
 obtain ⟨x8,rfl,k10⟩:=Kz h8
 obtain ⟨x9,rfl,k11⟩:=Kz h9
 obtain ⟨x10,rfl,k12⟩:=fg h10
 exact ⟨⟨v6,hi,lo,x1,x2,x3,x4,x5,x6,x7,x8,x9,x10⟩,⟨k1,k2,k3,k4,k5,k6,k7,k8,k9,k10,k11,k12⟩,rfl⟩
theorem Gg6 {cs:List PV} (h:Sb.okC cs):∃r:Rec,r.wf∧cs=r.cells:=by
 obtain ⟨a0,r0,rfl,h0,h⟩:=Dy (o7 h)
 obtain ⟨a1,r1,rfl,h1,h⟩:=Dy h
 obtain ⟨a2,r2,rfl,h2,h⟩:=Dy h
 obtain ⟨a3,r3,rfl,h3,h⟩:=Dy h
 obtain rfl:=Pp h
 obtain ⟨x0,rfl,k0⟩:=yp h0
 obtain ⟨x1,rfl,k1⟩:=Kz h1
 obtain ⟨x2,rfl,k2⟩:=Kz h2
 obtain ⟨d,k3,rfl⟩:=Gg7 h3
 exact ⟨⟨x0,x1,x2,d⟩,⟨k0,k1,k2,k3⟩,by simp [Rec.cells]⟩
theorem Fv0 {cs:List PV} (h:Az9.okC cs):∃l:List Rec,Ac3 l∧cs=[Ag l]:=by
 have h':∃xs,cs=[.l Sb.size xs]∧xs.length≤maxLen∧∀x,x∈xs→if Sb.agg then∃ds,x= .a ds∧Sb.okC ds else x.scal=true∧Sb.okC [x]:=by
  unfold Az9 at h
  simpa only [Sh.okC] using h
 obtain ⟨xs,rfl,hl,hx⟩:=h'
 have go:∀xs:List PV,(∀x,x∈xs→if Sb.agg then∃ds,x= .a ds∧Sb.okC ds else x.scal=true∧Sb.okC [x])→∃l:List Rec,(∀r∈l,r.wf)∧xs=l.map Rec.pv:=by
  intro xs
  induction xs with
  |nil=>exact fun _=>⟨[],fun r h=>(by cases h),rfl⟩
  |cons x xs ih=>
   intro hx
   obtain ⟨l,h1,rfl⟩:=ih (fun y hy=>hx y (Mc _ hy))
   have:=hx x (F2 ..)
   obtain ⟨ds,rfl,hd⟩:∃ds,x= .a ds∧Sb.okC ds:=this
   obtain ⟨r,hr,rfl⟩:=Gg6 hd
   refine ⟨r::l,fun y hy=> ?_,rfl⟩
   rcases Af.1 hy with rfl|hy
   ·exact hr
   ·exact h1 y hy
 obtain ⟨l,h1,rfl⟩:=go xs hx
 exact ⟨l,⟨by simpa [maxLen] using hl,h1⟩,rfl⟩
theorem Fq9 {p:PV} (h:Yl.ok p):∃z:Zone,z.wf∧p=z.pv:=by
 obtain ⟨ds,rfl,h⟩:∃ds,p= .a ds∧Yl.okC ds:=h
 obtain ⟨a0,r0,rfl,h0,h⟩:=Dy (o7 h)
 obtain ⟨a1,r1,rfl,h1,h⟩:=Dy h
 obtain rfl:=Pp h
 obtain ⟨x0,rfl,k0⟩:=yp h0
 obtain ⟨l,k1,rfl⟩:=Fv0 h1
 exact ⟨⟨x0,l⟩,⟨k0,k1⟩,rfl⟩
theorem Fv1 {p:PV} (h:Sh.s.ok p):∃x,Mp x∧p= .s x:=by
 have h':p.scal=true∧Sh.s.okC [p]:=h
 obtain ⟨x,hx,hs⟩:=yp h'.2
 injection hx with hx
 exact ⟨x,hs,hx⟩
theorem Dw6 {p:PV} (h:Yl.ok p):∃z:Zone,z.wf∧p=z.pv:=Fq9 h
theorem o6 {h0:Sh} {hs:List Sh}:∀{qs:List PV},Oks (h0::hs) qs→∃p q,qs=p::q∧h0.ok p∧Oks hs q
 |[],h=>by cases h
 |p::q,h=>⟨p,q,rfl,h.1,h.2⟩
theorem Fq8:∀{qs:List PV},Oks [] qs→qs=[]
 |[],_=>rfl
 |_::_,h=>by cases h
end Go.X
