/- The program's data out of the readings. -/
import Derived.Test.YteiaijjlmnacpaaGreatDoorZoneSerialsG8
open List renaming mem_cons→Ah,mem_cons_self→F5,mem_cons_of_mem→Mh
set_option maxHeartbeats 1000000
set_option linter.unusedVariables false
set_option linter.unusedSimpArgs false
namespace Go.X
open Go
def Gx9:Sh:= .st [.st [.b, .i .u64, .i .u64], .s, .s, .s, .i .i64, .i .i64, .i .i64, .i .i64, .i .i64, .i .i64, .i .u64]
def Sg:Sh:= .st [.s, .i .i64, .i .i64,Gx9]
def Ab5:Sh:= .l Sg
def Yh:Sh:= .st [.s,Ab5]
theorem Dc {f:Sh} {fs:List Sh} {cs:List PV} (h:Sh.okCs (f::fs) cs):∃a b,cs=a++b∧f.okC a∧Sh.okCs fs b:=by simpa only [Sh.okCs] using h
theorem Pt {cs:List PV} (h:Sh.okCs [] cs):cs=[]:=by simpa only [Sh.okCs] using h
theorem o2 {fs:List Sh} {cs:List PV} (h:(Sh.st fs).okC cs):Sh.okCs fs cs:=by simpa only [Sh.okC] using h
theorem Ar5 {cs:List PV} (h:Sh.s.okC cs):∃x,cs=[.s x]∧Pp x:=by
 simp only [Sh.okC] at h
 exact h
theorem Hs9 {cs:List PV} (h:Sh.b.okC cs):∃x,cs=[.b x]:=by simpa only [Sh.okC] using h
theorem Kh {cs:List PV} (h:(Sh.i .i64).okC cs):∃x,cs=[.i .i64 x]∧af x:=by
 simp only [Sh.okC] at h
 exact h
theorem fg {cs:List PV} (h:(Sh.i .u64).okC cs):∃x,cs=[.i .u64 x]∧Gv8 x:=by
 simp only [Sh.okC] at h
 exact h
theorem Gh9 {cs:List PV} (h:Gx9.okC cs):∃d:Dat,d.wf∧cs=d.cells:=by
 obtain ⟨c0,r0,rfl,h0,h⟩:=Dc (o2 h)
 obtain ⟨a1,r1,rfl,h1,h⟩:=Dc h
 obtain ⟨a2,r2,rfl,h2,h⟩:=Dc h
 obtain ⟨a3,r3,rfl,h3,h⟩:=Dc h
 obtain ⟨a4,r4,rfl,h4,h⟩:=Dc h
 obtain ⟨a5,r5,rfl,h5,h⟩:=Dc h
 obtain ⟨a6,r6,rfl,h6,h⟩:=Dc h
 obtain ⟨a7,r7,rfl,h7,h⟩:=Dc h
 obtain ⟨a8,r8,rfl,h8,h⟩:=Dc h
 obtain ⟨a9,r9,rfl,h9,h⟩:=Dc h
 obtain ⟨a10,r10,rfl,h10,h⟩:=Dc h
 obtain rfl:=Pt h
 obtain ⟨b0,s0,rfl,g0,g⟩:=Dc (o2 h0)
 obtain ⟨b1,s1,rfl,g1,g⟩:=Dc g
 obtain ⟨b2,s2,rfl,g2,g⟩:=Dc g
 obtain rfl:=Pt g
 obtain ⟨v6,rfl⟩:=Hs9 g0
 obtain ⟨hi,rfl,k1⟩:=fg g1
 obtain ⟨lo,rfl,k2⟩:=fg g2
 obtain ⟨x1,rfl,k3⟩:=Ar5 h1
 obtain ⟨x2,rfl,k4⟩:=Ar5 h2
 obtain ⟨x3,rfl,k5⟩:=Ar5 h3
 obtain ⟨x4,rfl,k6⟩:=Kh h4
 obtain ⟨x5,rfl,k7⟩:=Kh h5
 obtain ⟨x6,rfl,k8⟩:=Kh h6
 obtain ⟨x7,rfl,k9⟩:=Kh h7
 obtain ⟨x8,rfl,k10⟩:=Kh h8
 obtain ⟨x9,rfl,k11⟩:=Kh h9
 obtain ⟨x10,rfl,k12⟩:=fg h10
 exact ⟨⟨v6,hi,lo,x1,x2,x3,x4,x5,x6,x7,x8,x9,x10⟩,⟨k1,k2,k3,k4,k5,k6,k7,k8,k9,k10,k11,k12⟩,rfl⟩
theorem Gh8 {cs:List PV} (h:Sg.okC cs):∃r:Rec,r.wf∧cs=r.cells:=by
 obtain ⟨a0,r0,rfl,h0,h⟩:=Dc (o2 h)
 obtain ⟨a1,r1,rfl,h1,h⟩:=Dc h
 obtain ⟨a2,r2,rfl,h2,h⟩:=Dc h
 obtain ⟨a3,r3,rfl,h3,h⟩:=Dc h
 obtain rfl:=Pt h
 obtain ⟨x0,rfl,k0⟩:=Ar5 h0
 obtain ⟨x1,rfl,k1⟩:=Kh h1
 obtain ⟨x2,rfl,k2⟩:=Kh h2
 obtain ⟨d,k3,rfl⟩:=Gh9 h3
 exact ⟨⟨x0,x1,x2,d⟩,⟨k0,k1,k2,k3⟩,by simp [Rec.cells]⟩
theorem Fw1 {cs:List PV} (h:Ab5.okC cs):∃l:List Rec,Ad1 l∧cs=[Af l]:=by
 have h':∃xs,cs=[.l Sg.size xs]∧xs.length≤maxLen∧∀x,x∈xs→if Sg.agg then∃ds,x= .a ds∧Sg.okC ds else x.scal=true∧Sg.okC [x]:=by
  unfold Ab5 at h
  simpa only [Sh.okC] using h
 obtain ⟨xs,rfl,hl,hx⟩:=h'
 have go:∀xs:List PV,(∀x,x∈xs→if Sg.agg then∃ds,x= .a ds∧Sg.okC ds else x.scal=true∧Sg.okC [x])→∃l:List Rec,(∀r∈l,r.wf)∧xs=l.map Rec.pv:=by
  intro xs
  induction xs with
  |nil=>exact fun _=>⟨[],fun r h=>(by cases h),rfl⟩
  |cons x xs ih=>
   intro hx
   obtain ⟨l,h1,rfl⟩:=ih (fun y hy=>hx y (Mh _ hy))
   have:=hx x (F5 ..)
   obtain ⟨ds,rfl,hd⟩:∃ds,x= .a ds∧Sg.okC ds:=this
   obtain ⟨r,hr,rfl⟩:=Gh8 hd
   refine ⟨r::l,fun y hy=> ?_,rfl⟩
   rcases Ah.1 hy with rfl|hy
   ·exact hr
   ·exact h1 y hy
 obtain ⟨l,h1,rfl⟩:=go xs hx
 exact ⟨l,⟨by simpa [maxLen] using hl,h1⟩,rfl⟩
theorem Fw0 {p:PV} (h:Yh.ok p):∃z:Zone,z.wf∧p=z.pv:=by
 obtain ⟨ds,rfl,h⟩:∃ds,p= .a ds∧Yh.okC ds:=h
 obtain ⟨a0,r0,rfl,h0,h⟩:=Dc (o2 h)
 obtain ⟨a1,r1,rfl,h1,h⟩:=Dc h
 obtain rfl:=Pt h
 obtain ⟨x0,rfl,k0⟩:=Ar5 h0
 obtain ⟨l,k1,rfl⟩:=Fw1 h1
 exact ⟨⟨x0,l⟩,⟨k0,k1⟩,rfl⟩
theorem Dx7 {p:PV} (h:Yh.ok p):∃z:Zone,z.wf∧p=z.pv:=Fw0 h
theorem o0 {h0:Sh} {hs:List Sh}:∀{qs:List PV},Oks (h0::hs) qs→∃p q,qs=p::q∧h0.ok p∧Oks hs q
 |[],h=>by cases h
 |p::q,h=>⟨p,q,rfl,h.1,h.2⟩
theorem Fv9:∀{qs:List PV},Oks [] qs→qs=[]
 |[],_=>rfl
 |_::_,h=>by cases h
end Go.X
