/- The program's data out of the readings. -/
import Derived.Test.YtfnmphjdknjkmaaGreatDoorNsecOrderG8
open List renaming mem_cons→Am,mem_cons_self→F9,mem_cons_of_mem→M1
set_option maxHeartbeats 1000000
set_option linter.unusedVariables false
set_option linter.unusedSimpArgs false
namespace Go.X
open Go
def Gs0:Sh:= .st [.st [.b, .i .u64, .i .u64], .s, .s, .s, .i .i64, .i .i64, .i .i64, .i .i64, .i .i64, .i .i64, .i .u64]
def Tz:Sh:= .st [.s, .i .i64, .i .i64,Gs0]
def Bq5:Sh:= .l Tz
def Zs:Sh:= .st [.s,Bq5]
theorem Dy {f:Sh} {fs:List Sh} {cs:List PV} (h:Sh.okCs (f::fs) cs):∃a b,cs=a++b∧f.okC a∧Sh.okCs fs b:=by simpa only [Sh.okCs] using h
theorem Qb {cs:List PV} (h:Sh.okCs [] cs):cs=[]:=by simpa only [Sh.okCs] using h
theorem ux {fs:List Sh} {cs:List PV} (h:(Sh.st fs).okC cs):Sh.okCs fs cs:=by simpa only [Sh.okC] using h
theorem Bg6 {cs:List PV} (h:Sh.s.okC cs):∃x,cs=[.s x]∧Tj x:=by simp only [Sh.okC] at h;exact h
theorem Ih8 {cs:List PV} (h:Sh.b.okC cs):∃x,cs=[.b x]:=by simpa only [Sh.okC] using h
theorem K3 {cs:List PV} (h:(Sh.i .i64).okC cs):∃x,cs=[.i .i64 x]∧P8 x:=by simp only [Sh.okC] at h;exact h
theorem jy {cs:List PV} (h:(Sh.i .u64).okC cs):∃x,cs=[.i .u64 x]∧Db9 x:=by simp only [Sh.okC] at h;exact h
theorem Hb0 {cs:List PV} (h:Gs0.okC cs):∃d:Dat,d.wf∧cs=d.cells:=by obtain ⟨c0,r0,rfl,h0,h⟩:=Dy (ux h);obtain ⟨a1,r1,rfl,h1,h⟩:=Dy h;obtain ⟨a2,r2,rfl,h2,h⟩:=Dy h;obtain ⟨a3,r3,rfl,h3,h⟩:=Dy h;obtain ⟨a4,r4,rfl,h4,h⟩:=Dy h;obtain ⟨a5,r5,rfl,h5,h⟩:=Dy h;obtain ⟨a6,r6,rfl,h6,h⟩:=Dy h;obtain ⟨a7,r7,rfl,h7,h⟩:=Dy h;obtain ⟨a8,r8,rfl,h8,h⟩:=Dy h;obtain ⟨a9,r9,rfl,h9,h⟩:=Dy h;obtain ⟨a10,r10,rfl,h10,h⟩:=Dy h;obtain rfl:=Qb h;obtain ⟨b0,s0,rfl,g0,g⟩:=Dy (ux h0);obtain ⟨b1,s1,rfl,g1,g⟩:=Dy g;obtain ⟨b2,s2,rfl,g2,g⟩:=Dy g;obtain rfl:=Qb g;obtain ⟨v6,rfl⟩:=Ih8 g0;obtain ⟨hi,rfl,k1⟩:=jy g1;obtain ⟨lo,rfl,k2⟩:=jy g2;obtain ⟨x1,rfl,k3⟩:=Bg6 h1;obtain ⟨x2,rfl,k4⟩:=Bg6 h2;obtain ⟨x3,rfl,k5⟩:=Bg6 h3;obtain ⟨x4,rfl,k6⟩:=K3 h4;obtain ⟨x5,rfl,k7⟩:=K3 h5;obtain ⟨x6,rfl,k8⟩:=K3 h6;obtain ⟨x7,rfl,k9⟩:=K3 h7;obtain ⟨x8,rfl,k10⟩:=K3 h8;obtain ⟨x9,rfl,k11⟩:=K3 h9;obtain ⟨x10,rfl,k12⟩:=jy h10;exact ⟨⟨v6,hi,lo,x1,x2,x3,x4,x5,x6,x7,x8,x9,x10⟩,⟨k1,k2,k3,k4,k5,k6,k7,k8,k9,k10,k11,k12⟩,rfl⟩
theorem Hz9 {cs:List PV} (h:Tz.okC cs):∃r:Rec,r.wf∧cs=r.cells:=by obtain ⟨a0,r0,rfl,h0,h⟩:=Dy (ux h);obtain ⟨a1,r1,rfl,h1,h⟩:=Dy h;obtain ⟨a2,r2,rfl,h2,h⟩:=Dy h;obtain ⟨a3,r3,rfl,h3,h⟩:=Dy h;obtain rfl:=Qb h;obtain ⟨x0,rfl,k0⟩:=Bg6 h0;obtain ⟨x1,rfl,k1⟩:=K3 h1;obtain ⟨x2,rfl,k2⟩:=K3 h2;obtain ⟨d,k3,rfl⟩:=Hb0 h3;exact ⟨⟨x0,x1,x2,d⟩,⟨k0,k1,k2,k3⟩,by simp [Rec.cells]⟩
theorem Fr0 {cs:List PV} (h:Bq5.okC cs):∃l:List Rec,Bw1 l∧cs=[Al l]:=by
 have h':∃xs,cs=[.l Tz.size xs]∧xs.length≤maxLen∧∀x,x∈xs→if Tz.agg then∃ds,x= .a ds∧Tz.okC ds else x.scal=true∧Tz.okC [x]:=by unfold Bq5 at h;simpa only [Sh.okC] using h
 obtain ⟨xs,rfl,hl,hx⟩:=h';have go:∀xs:List PV,(∀x,x∈xs→if Tz.agg then∃ds,x= .a ds∧Tz.okC ds else x.scal=true∧Tz.okC [x])→∃l:List Rec,(∀r∈l,r.wf)∧xs=l.map Rec.pv:=by
  intro xs
  induction xs with
  |nil=>exact fun _=>⟨[],fun r h=>(by cases h),rfl⟩
  |cons x xs ih=>
   intro hx;obtain ⟨l,h1,rfl⟩:=ih (fun y hy=>hx y (M1 _ hy));have:=hx x (F9 ..);obtain ⟨ds,rfl,hd⟩:∃ds,x= .a ds∧Tz.okC ds:=this;obtain ⟨r,hr,rfl⟩:=Hz9 hd;refine ⟨r::l,fun y hy=> ?_,rfl⟩;rcases Am.1 hy with rfl|hy
   ·exact hr
   ·exact h1 y hy
 obtain ⟨l,h1,rfl⟩:=go xs hx;exact ⟨l,⟨by simpa [maxLen] using hl,h1⟩,rfl⟩
theorem Fp9 {p:PV} (h:Zs.ok p):∃z:Zone,z.wf∧p=z.pv:=by obtain ⟨ds,rfl,h⟩:∃ds,p= .a ds∧Zs.okC ds:=h;obtain ⟨a0,r0,rfl,h0,h⟩:=Dy (ux h);obtain ⟨a1,r1,rfl,h1,h⟩:=Dy h;obtain rfl:=Qb h;obtain ⟨x0,rfl,k0⟩:=Bg6 h0;obtain ⟨l,k1,rfl⟩:=Fr0 h1;exact ⟨⟨x0,l⟩,⟨k0,k1⟩,rfl⟩
theorem Ej3 {p:PV} (h:Zs.ok p):∃z:Zone,z.wf∧p=z.pv:=Fp9 h
theorem Ej1 {h0:Sh} {hs:List Sh}:∀{qs:List PV},Oks (h0::hs) qs→∃p q,qs=p::q∧h0.ok p∧Oks hs q
 |[],h=>by cases h
 |p::q,h=>⟨p,q,rfl,h.1,h.2⟩
theorem Fp8:∀{qs:List PV},Oks [] qs→qs=[]
 |[],_=>rfl
 |_::_,h=>by cases h
end Go.X
