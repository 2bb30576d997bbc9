/- The program's data out of the readings. -/
import Derived.Test.YtafdmaddhbcppaaGreatDoorProveDenialsG8
open List renaming mem_cons→Ck,mem_cons_self→Im,mem_cons_of_mem→R6
set_option maxHeartbeats 1000000
set_option linter.defProp false
set_option linter.unusedVariables false
set_option linter.unusedSimpArgs false
namespace Go.X
open Go
def Hl4:Sh:= .st [.st [.b,.i .u64,.i .u64],.s,.s,.s,.i .i64,.i .i64,.i .i64,.i .i64,.i .i64,.i .i64,.i .u64]
def br:Sh:= .st [.s,.i .i64,.i .i64,Hl4]
def Cs9:Sh:= .l br
def rm:Sh:= .st [.s,Cs9]
def Fy {f:Sh} {fs:List Sh} {cs:List PV} (h:Sh.okCs (f::fs) cs):∃a b,cs=a++b∧f.okC a∧Sh.okCs fs b:=by simpa only[Sh.okCs] using h
def S6 {cs:List PV} (h:Sh.okCs [] cs):cs=[]:=by simpa only[Sh.okCs] using h
def tn {fs:List Sh} {cs:List PV} (h:(Sh.st fs).okC cs):Sh.okCs fs cs:=by simpa only[Sh.okC] using h
def Cv7 {cs:List PV} (h:Sh.s.okC cs):∃x,cs=[.s x]∧My x:=by simp only[Sh.okC] at h;exact h
def Js3 {cs:List PV} (h:Sh.b.okC cs):∃x,cs=[.b x]:=by simpa only[Sh.okC] using h
def Nk {cs:List PV} (h:(Sh.i .i64).okC cs):∃x,cs=[.i .i64 x]∧Xz x:=by simp only[Sh.okC] at h;exact h
def Ay1 {cs:List PV} (h:(Sh.i .u64).okC cs):∃x,cs=[.i .u64 x]∧Ep2 x:=by simp only[Sh.okC] at h;exact h
def Iy5 {cs:List PV} (h:Hl4.okC cs):∃d:Dat,d.wf∧cs=d.cells:=by obtain⟨c0,r0,rfl,h0,h⟩:=Fy (tn h);obtain⟨a1,r1,rfl,h1,h⟩:=Fy h;obtain⟨a2,r2,rfl,h2,h⟩:=Fy h;obtain⟨a3,r3,rfl,h3,h⟩:=Fy h;obtain⟨a4,r4,rfl,h4,h⟩:=Fy h;obtain⟨a5,r5,rfl,h5,h⟩:=Fy h;obtain⟨a6,r6,rfl,h6,h⟩:=Fy h;obtain⟨a7,r7,rfl,h7,h⟩:=Fy h;obtain⟨a8,r8,rfl,h8,h⟩:=Fy h;obtain⟨a9,r9,rfl,h9,h⟩:=Fy h;obtain⟨a10,r10,rfl,h10,h⟩:=Fy h;obtain rfl:=S6 h;obtain⟨b0,s0,rfl,g0,g⟩:=Fy (tn h0);obtain⟨b1,s1,rfl,g1,g⟩:=Fy g;obtain⟨b2,s2,rfl,g2,g⟩:=Fy g;obtain rfl:=S6 g;obtain⟨v6,rfl⟩:=Js3 g0;obtain⟨hi,rfl,k1⟩:=Ay1 g1;obtain⟨lo,rfl,k2⟩:=Ay1 g2;obtain⟨x1,rfl,k3⟩:=Cv7 h1;obtain⟨x2,rfl,k4⟩:=Cv7 h2;obtain⟨x3,rfl,k5⟩:=Cv7 h3;obtain⟨x4,rfl,k6⟩:=Nk h4;obtain⟨x5,rfl,k7⟩:=Nk h5;obtain⟨x6,rfl,k8⟩:=Nk h6;obtain⟨x7,rfl,k9⟩:=Nk h7;obtain⟨x8,rfl,k10⟩:=Nk h8;obtain⟨x9,rfl,k11⟩:=Nk h9;obtain⟨x10,rfl,k12⟩:=Ay1 h10;exact⟨⟨v6,hi,lo,x1,x2,x3,x4,x5,x6,x7,x8,x9,x10⟩,⟨k1,k2,k3,k4,k5,k6,k7,k8,k9,k10,k11,k12⟩,rfl⟩
def Iy4 {cs:List PV} (h:br.okC cs):∃r:Rec,r.wf∧cs=r.cells:=by obtain⟨a0,r0,rfl,h0,h⟩:=Fy (tn h);obtain⟨a1,r1,rfl,h1,h⟩:=Fy h;obtain⟨a2,r2,rfl,h2,h⟩:=Fy h;obtain⟨a3,r3,rfl,h3,h⟩:=Fy h;obtain rfl:=S6 h;obtain⟨x0,rfl,k0⟩:=Cv7 h0;obtain⟨x1,rfl,k1⟩:=Nk h1;obtain⟨x2,rfl,k2⟩:=Nk h2;obtain⟨d,k3,rfl⟩:=Iy5 h3;exact⟨⟨x0,x1,x2,d⟩,⟨k0,k1,k2,k3⟩,by simp[Rec.cells]⟩
def Gp4 {cs:List PV} (h:Cs9.okC cs):∃l:List Rec,Dk0 l∧cs=[B6 l]:=by
 have h':∃xs,cs=[.l br.size xs]∧xs.length≤maxLen∧∀x,x∈xs→if br.agg then∃ds,x= .a ds∧br.okC ds else x.scal=true∧br.okC [x]:=by unfold Cs9 at h;simpa only[Sh.okC] using h
 obtain⟨xs,rfl,hl,hx⟩:=h';have go:∀xs:List PV,(∀x,x∈xs→if br.agg then∃ds,x= .a ds∧br.okC ds else x.scal=true∧br.okC [x])→∃l:List Rec,(∀r∈l,r.wf)∧xs=l.map Rec.pv:=by
  intro xs
  induction xs with
  |nil=>exact fun _=>⟨[],fun r h=>(by cases h),rfl⟩
  |cons x xs ih=>
   intro hx;obtain⟨l,h1,rfl⟩:=ih (fun y hy=>hx y (R6 _ hy));have:=hx x (Im ..);obtain⟨ds,rfl,hd⟩:∃ds,x= .a ds∧br.okC ds:=this;obtain⟨r,hr,rfl⟩:=Iy4 hd;refine⟨r::l,fun y hy=> ?_,rfl⟩;rcases Ck.1 hy with rfl|hy
   ·exact hr
   ·exact h1 y hy
 obtain⟨l,h1,rfl⟩:=go xs hx;exact⟨l,⟨by simpa [maxLen] using hl,h1⟩,rfl⟩
def Gp3 {p:PV} (h:rm.ok p):∃z:Zone,z.wf∧p=z.pv:=by obtain⟨ds,rfl,h⟩:∃ds,p= .a ds∧rm.okC ds:=h;obtain⟨a0,r0,rfl,h0,h⟩:=Fy (tn h);obtain⟨a1,r1,rfl,h1,h⟩:=Fy h;obtain rfl:=S6 h;obtain⟨x0,rfl,k0⟩:=Cv7 h0;obtain⟨l,k1,rfl⟩:=Gp4 h1;exact⟨⟨x0,l⟩,⟨k0,k1⟩,rfl⟩
def Ff4 {p:PV} (h:rm.ok p):∃z:Zone,z.wf∧p=z.pv:=Gp3 h
def Bc8 {h0:Sh} {hs:List Sh}:∀{qs:List PV},Oks (h0::hs) qs→∃p q,qs=p::q∧h0.ok p∧Oks hs q
 |[],h=>by cases h
 |p::q,h=>⟨p,q,rfl,h.1,h.2⟩
def Gp2:∀{qs:List PV},Oks [] qs→qs=[]
 |[],_=>rfl
 |_::_,h=>by cases h
end Go.X
