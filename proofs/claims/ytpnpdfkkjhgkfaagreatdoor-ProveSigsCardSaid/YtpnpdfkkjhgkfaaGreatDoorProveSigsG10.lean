/- The program's data out of the readings. -/
import Derived.Test.YtpnpdfkkjhgkfaaGreatDoorProveSigsG8
open List renaming mem_cons→An,mem_cons_self→Gj,mem_cons_of_mem→M2
set_option maxHeartbeats 1000000
set_option linter.defProp false
set_option linter.unusedVariables false
set_option linter.unusedSimpArgs false
namespace Go.X
open Go
def Ef2:Sh:= .st [.st [.b, .i .u64, .i .u64], .s, .s, .s, .i .i64, .i .i64, .i .i64, .i .i64, .i .i64, .i .i64, .i .u64]
def Tn:Sh:= .st [.s, .i .i64, .i .i64,Ef2]
def Ry:Sh:= .l Tn
def Zd:Sh:= .st [.s,Ry]
def Df {f:Sh} {fs:List Sh} {cs:List PV} (h:Sh.okCs (f::fs) cs):∃a b,cs=a++b∧f.okC a∧Sh.okCs fs b:=by simpa only [Sh.okCs] using h
def Qf {cs:List PV} (h:Sh.okCs [] cs):cs=[]:=by simpa only [Sh.okCs] using h
def pk {fs:List Sh} {cs:List PV} (h:(Sh.st fs).okC cs):Sh.okCs fs cs:=by simpa only [Sh.okC] using h
def At4 {cs:List PV} (h:Sh.s.okC cs):∃x,cs=[.s x]∧Mc x:=by simp only [Sh.okC] at h;exact h
def Gx0 {cs:List PV} (h:Sh.b.okC cs):∃x,cs=[.b x]:=by simpa only [Sh.okC] using h
def Kn {cs:List PV} (h:(Sh.i .i64).okC cs):∃x,cs=[.i .i64 x]∧ez x:=by simp only [Sh.okC] at h;exact h
def g9 {cs:List PV} (h:(Sh.i .u64).okC cs):∃x,cs=[.i .u64 x]∧Ex1 x:=by simp only [Sh.okC] at h;exact h
def Er2 {cs:List PV} (h:Ef2.okC cs):∃d:Dat,d.wf∧cs=d.cells:=by obtain ⟨c0,r0,rfl,h0,h⟩:=Df (pk h);obtain ⟨a1,r1,rfl,h1,h⟩:=Df h;obtain ⟨a2,r2,rfl,h2,h⟩:=Df h;obtain ⟨a3,r3,rfl,h3,h⟩:=Df h;obtain ⟨a4,r4,rfl,h4,h⟩:=Df h;obtain ⟨a5,r5,rfl,h5,h⟩:=Df h;obtain ⟨a6,r6,rfl,h6,h⟩:=Df h;obtain ⟨a7,r7,rfl,h7,h⟩:=Df h;obtain ⟨a8,r8,rfl,h8,h⟩:=Df h;obtain ⟨a9,r9,rfl,h9,h⟩:=Df h;obtain ⟨a10,r10,rfl,h10,h⟩:=Df h;obtain rfl:=Qf h;obtain ⟨b0,s0,rfl,g0,g⟩:=Df (pk h0);obtain ⟨b1,s1,rfl,g1,g⟩:=Df g;obtain ⟨b2,s2,rfl,g2,g⟩:=Df g;obtain rfl:=Qf g;obtain ⟨v6,rfl⟩:=Gx0 g0;obtain ⟨hi,rfl,k1⟩:=g9 g1;obtain ⟨lo,rfl,k2⟩:=g9 g2;obtain ⟨x1,rfl,k3⟩:=At4 h1;obtain ⟨x2,rfl,k4⟩:=At4 h2;obtain ⟨x3,rfl,k5⟩:=At4 h3;obtain ⟨x4,rfl,k6⟩:=Kn h4;obtain ⟨x5,rfl,k7⟩:=Kn h5;obtain ⟨x6,rfl,k8⟩:=Kn h6;obtain ⟨x7,rfl,k9⟩:=Kn h7;obtain ⟨x8,rfl,k10⟩:=Kn h8;obtain ⟨x9,rfl,k11⟩:=Kn h9;obtain ⟨x10,rfl,k12⟩:=g9 h10;exact ⟨⟨v6,hi,lo,x1,x2,x3,x4,x5,x6,x7,x8,x9,x10⟩,⟨k1,k2,k3,k4,k5,k6,k7,k8,k9,k10,k11,k12⟩,rfl⟩
def Er1 {cs:List PV} (h:Tn.okC cs):∃r:Rec,r.wf∧cs=r.cells:=by obtain ⟨a0,r0,rfl,h0,h⟩:=Df (pk h);obtain ⟨a1,r1,rfl,h1,h⟩:=Df h;obtain ⟨a2,r2,rfl,h2,h⟩:=Df h;obtain ⟨a3,r3,rfl,h3,h⟩:=Df h;obtain rfl:=Qf h;obtain ⟨x0,rfl,k0⟩:=At4 h0;obtain ⟨x1,rfl,k1⟩:=Kn h1;obtain ⟨x2,rfl,k2⟩:=Kn h2;obtain ⟨d,k3,rfl⟩:=Er2 h3;exact ⟨⟨x0,x1,x2,d⟩,⟨k0,k1,k2,k3⟩,by simp [Rec.cells]⟩
def At3 {cs:List PV} (h:Ry.okC cs):∃l:List Rec,gf l∧cs=[Ag l]:=by
 have h':∃xs,cs=[.l Tn.size xs]∧xs.length≤maxLen∧∀x,x∈xs→if Tn.agg then∃ds,x= .a ds∧Tn.okC ds else x.scal=true∧Tn.okC [x]:=by unfold Ry at h;simpa only [Sh.okC] using h
 obtain ⟨xs,rfl,hl,hx⟩:=h';have go:∀xs:List PV,(∀x,x∈xs→if Tn.agg then∃ds,x= .a ds∧Tn.okC ds else x.scal=true∧Tn.okC [x])→∃l:List Rec,(∀r∈l,r.wf)∧xs=l.map Rec.pv:=by
  intro xs
  induction xs with
  |nil=>exact fun _=>⟨[],fun r h=>(by cases h),rfl⟩
  |cons x xs ih=>
   intro hx;obtain ⟨l,h1,rfl⟩:=ih (fun y hy=>hx y (M2 _ hy));have:=hx x (Gj ..);obtain ⟨ds,rfl,hd⟩:∃ds,x= .a ds∧Tn.okC ds:=this;obtain ⟨r,hr,rfl⟩:=Er1 hd;refine ⟨r::l,fun y hy=> ?_,rfl⟩;rcases An.1 hy with rfl|hy
   ·exact hr
   ·exact h1 y hy
 obtain ⟨l,h1,rfl⟩:=go xs hx;exact ⟨l,⟨by simpa [maxLen] using hl,h1⟩,rfl⟩
def Dn2 {p:PV} (h:Zd.ok p):∃z:Zone,z.wf∧p=z.pv:=by obtain ⟨ds,rfl,h⟩:∃ds,p= .a ds∧Zd.okC ds:=h;obtain ⟨a0,r0,rfl,h0,h⟩:=Df (pk h);obtain ⟨a1,r1,rfl,h1,h⟩:=Df h;obtain rfl:=Qf h;obtain ⟨x0,rfl,k0⟩:=At4 h0;obtain ⟨l,k1,rfl⟩:=At3 h1;exact ⟨⟨x0,l⟩,⟨k0,k1⟩,rfl⟩
def Cl5 {p:PV} (h:Ry.ok p):∃l,gf l∧p=Ag l:=by have h':p.scal=true∧Ry.okC [p]:=h;obtain ⟨l,hl,hp⟩:=At3 h'.2;injection hp with hp;exact ⟨l,hl,hp⟩
def Cl4 {p:PV} (h:Zd.ok p):∃z:Zone,z.wf∧p=z.pv:=Dn2 h
def pj {h0:Sh} {hs:List Sh}:∀{qs:List PV},Oks (h0::hs) qs→∃p q,qs=p::q∧h0.ok p∧Oks hs q
 |[],h=>by cases h
 |p::q,h=>⟨p,q,rfl,h.1,h.2⟩
def Dn1:∀{qs:List PV},Oks [] qs→qs=[]
 |[],_=>rfl
 |_::_,h=>by cases h
end Go.X
