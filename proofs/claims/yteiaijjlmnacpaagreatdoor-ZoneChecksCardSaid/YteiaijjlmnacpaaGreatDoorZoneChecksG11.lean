/- The program's data out of the readings. -/
import Derived.Test.YteiaijjlmnacpaaGreatDoorZoneChecksG8
open List renaming mem_cons→Ah,mem_cons_self→Gk,mem_cons_of_mem→M2
set_option maxHeartbeats 1000000
set_option linter.unusedVariables false
set_option linter.unusedSimpArgs false
namespace Go.X
open Go
def Ix2:Sh:= .st [.st [.b, .i .u64, .i .u64], .s, .s, .s, .i .i64, .i .i64, .i .i64, .i .i64, .i .i64, .i .i64, .i .u64]
def Tv:Sh:= .st [.s, .i .i64, .i .i64,Ix2]
def Bq8:Sh:= .l Tv
def Zv:Sh:= .st [.s,Bq8]
theorem Dd {f:Sh} {fs:List Sh} {cs:List PV} (h:Sh.okCs (f::fs) cs):∃a b,cs=a++b∧f.okC a∧Sh.okCs fs b:=by simpa only [Sh.okCs] using h
theorem Qq {cs:List PV} (h:Sh.okCs [] cs):cs=[]:=by simpa only [Sh.okCs] using h
theorem sq {fs:List Sh} {cs:List PV} (h:(Sh.st fs).okC cs):Sh.okCs fs cs:=by simpa only [Sh.okC] using h
theorem Bg8 {cs:List PV} (h:Sh.s.okC cs):∃x,cs=[.s x]∧L9 x:=by
 simp only [Sh.okC] at h
 exact h
theorem Kv6 {cs:List PV} (h:Sh.b.okC cs):∃x,cs=[.b x]:=by simpa only [Sh.okC] using h
theorem Kp {cs:List PV} (h:(Sh.i .i64).okC cs):∃x,cs=[.i .i64 x]∧jb x:=by
 simp only [Sh.okC] at h
 exact h
theorem ik {cs:List PV} (h:(Sh.i .u64).okC cs):∃x,cs=[.i .u64 x]∧Iv1 x:=by
 simp only [Sh.okC] at h
 exact h
theorem Im1 {cs:List PV} (h:Ix2.okC cs):∃d:Dat,d.wf∧cs=d.cells:=by
 obtain ⟨c0,r0,rfl,h0,h⟩:=Dd (sq h)
 obtain ⟨a1,r1,rfl,h1,h⟩:=Dd h
 obtain ⟨a2,r2,rfl,h2,h⟩:=Dd h
 obtain ⟨a3,r3,rfl,h3,h⟩:=Dd h
 obtain ⟨a4,r4,rfl,h4,h⟩:=Dd h
 obtain ⟨a5,r5,rfl,h5,h⟩:=Dd h
 obtain ⟨a6,r6,rfl,h6,h⟩:=Dd h
 obtain ⟨a7,r7,rfl,h7,h⟩:=Dd h
 obtain ⟨a8,r8,rfl,h8,h⟩:=Dd h
 obtain ⟨a9,r9,rfl,h9,h⟩:=Dd h
 obtain ⟨a10,r10,rfl,h10,h⟩:=Dd h
 obtain rfl:=Qq h
 obtain ⟨b0,s0,rfl,g0,g⟩:=Dd (sq h0)
 obtain ⟨b1,s1,rfl,g1,g⟩:=Dd g
 obtain ⟨b2,s2,rfl,g2,g⟩:=Dd g
 obtain rfl:=Qq g
 obtain ⟨v6,rfl⟩:=Kv6 g0
 obtain ⟨hi,rfl,k1⟩:=ik g1
 obtain ⟨lo,rfl,k2⟩:=ik g2
 obtain ⟨x1,rfl,k3⟩:=Bg8 h1
 obtain ⟨x2,rfl,k4⟩:=Bg8 h2
 obtain ⟨x3,rfl,k5⟩:=Bg8 h3
 obtain ⟨x4,rfl,k6⟩:=Kp h4
 obtain ⟨x5,rfl,k7⟩:=Kp h5
 obtain ⟨x6,rfl,k8⟩:=Kp h6
 obtain ⟨x7,rfl,k9⟩:=Kp h7
 obtain ⟨x8,rfl,k10⟩:=Kp h8
 obtain ⟨x9,rfl,k11⟩:=Kp h9
 obtain ⟨x10,rfl,k12⟩:=ik h10
 exact ⟨⟨v6,hi,lo,x1,x2,x3,x4,x5,x6,x7,x8,x9,x10⟩,⟨k1,k2,k3,k4,k5,k6,k7,k8,k9,k10,k11,k12⟩,rfl⟩
theorem Im0 {cs:List PV} (h:Tv.okC cs):∃r:Rec,r.wf∧cs=r.cells:=by
 obtain ⟨a0,r0,rfl,h0,h⟩:=Dd (sq h)
 obtain ⟨a1,r1,rfl,h1,h⟩:=Dd h
 obtain ⟨a2,r2,rfl,h2,h⟩:=Dd h
 obtain ⟨a3,r3,rfl,h3,h⟩:=Dd h
 obtain rfl:=Qq h
 obtain ⟨x0,rfl,k0⟩:=Bg8 h0
 obtain ⟨x1,rfl,k1⟩:=Kp h1
 obtain ⟨x2,rfl,k2⟩:=Kp h2
 obtain ⟨d,k3,rfl⟩:=Im1 h3
 exact ⟨⟨x0,x1,x2,d⟩,⟨k0,k1,k2,k3⟩,by simp [Rec.cells]⟩
theorem Hw2 {cs:List PV} (h:Bq8.okC cs):∃l:List Rec,Bw3 l∧cs=[Af l]:=by
 have h':∃xs,cs=[.l Tv.size xs]∧xs.length≤maxLen∧∀x,x∈xs→if Tv.agg then∃ds,x= .a ds∧Tv.okC ds else x.scal=true∧Tv.okC [x]:=by
  unfold Bq8 at h
  simpa only [Sh.okC] using h
 obtain ⟨xs,rfl,hl,hx⟩:=h'
 have go:∀xs:List PV,(∀x,x∈xs→if Tv.agg then∃ds,x= .a ds∧Tv.okC ds else x.scal=true∧Tv.okC [x])→∃l:List Rec,(∀r∈l,r.wf)∧xs=l.map Rec.pv:=by
  intro xs
  induction xs with
  |nil=>exact fun _=>⟨[],fun r h=>(by cases h),rfl⟩
  |cons x xs ih=>
   intro hx
   obtain ⟨l,h1,rfl⟩:=ih (fun y hy=>hx y (M2 _ hy))
   have:=hx x (Gk ..)
   obtain ⟨ds,rfl,hd⟩:∃ds,x= .a ds∧Tv.okC ds:=this
   obtain ⟨r,hr,rfl⟩:=Im0 hd
   refine ⟨r::l,fun y hy=> ?_,rfl⟩
   rcases Ah.1 hy with rfl|hy
   ·exact hr
   ·exact h1 y hy
 obtain ⟨l,h1,rfl⟩:=go xs hx
 exact ⟨l,⟨by simpa [maxLen] using hl,h1⟩,rfl⟩
theorem Hw1 {p:PV} (h:Zv.ok p):∃z:Zone,z.wf∧p=z.pv:=by
 obtain ⟨ds,rfl,h⟩:∃ds,p= .a ds∧Zv.okC ds:=h
 obtain ⟨a0,r0,rfl,h0,h⟩:=Dd (sq h)
 obtain ⟨a1,r1,rfl,h1,h⟩:=Dd h
 obtain rfl:=Qq h
 obtain ⟨x0,rfl,k0⟩:=Bg8 h0
 obtain ⟨l,k1,rfl⟩:=Hw2 h1
 exact ⟨⟨x0,l⟩,⟨k0,k1⟩,rfl⟩
theorem Es1 {p:PV} (h:Zv.ok p):∃z:Zone,z.wf∧p=z.pv:=Hw1 h
theorem Er9 {h0:Sh} {hs:List Sh}:∀{qs:List PV},Oks (h0::hs) qs→∃p q,qs=p::q∧h0.ok p∧Oks hs q
 |[],h=>by cases h
 |p::q,h=>⟨p,q,rfl,h.1,h.2⟩
theorem Hw0:∀{qs:List PV},Oks [] qs→qs=[]
 |[],_=>rfl
 |_::_,h=>by cases h
end Go.X
