/- The program's data out of the readings. -/
import Derived.Test.YtfnmphjdknjkmaaGreatDoorNsecChainsG8
open List renaming mem_cons→Cj,mem_cons_self→If,mem_cons_of_mem→R4
set_option maxHeartbeats 1000000
set_option linter.defProp false
set_option linter.unusedVariables false
set_option linter.unusedSimpArgs false
namespace Go.X
open Go
def Hc7:Sh:= .st [.st [.b,.i .u64,.i .u64],.s,.s,.s,.i .i64,.i .i64,.i .i64,.i .i64,.i .i64,.i .i64,.i .u64]
def bk:Sh:= .st [.s,.i .i64,.i .i64,Hc7]
def Dj9:Sh:= .l bk
def rt:Sh:= .st [.s,Dj9]
def Fh {f:Sh} {fs:List Sh} {cs:List PV} (h:Sh.okCs (f::fs) cs):∃a b,cs=a++b∧f.okC a∧Sh.okCs fs b:=by simpa only[Sh.okCs] using h
def W7 {cs:List PV} (h:Sh.okCs [] cs):cs=[]:=by simpa only[Sh.okCs] using h
def Bg1 {fs:List Sh} {cs:List PV} (h:(Sh.st fs).okC cs):Sh.okCs fs cs:=by simpa only[Sh.okC] using h
def Cy2 {cs:List PV} (h:Sh.s.okC cs):∃x,cs=[.s x]∧Lh x:=by simp only[Sh.okC] at h;exact h
def Jm1 {cs:List PV} (h:Sh.b.okC cs):∃x,cs=[.b x]:=by simpa only[Sh.okC] using h
def Oc {cs:List PV} (h:(Sh.i .i64).okC cs):∃x,cs=[.i .i64 x]∧Wc x:=by simp only[Sh.okC] at h;exact h
def Ay2 {cs:List PV} (h:(Sh.i .u64).okC cs):∃x,cs=[.i .u64 x]∧El3 x:=by simp only[Sh.okC] at h;exact h
def Iv3 {cs:List PV} (h:Hc7.okC cs):∃d:Dat,d.wf∧cs=d.cells:=by obtain⟨c0,r0,rfl,h0,h⟩:=Fh (Bg1 h);obtain⟨a1,r1,rfl,h1,h⟩:=Fh h;obtain⟨a2,r2,rfl,h2,h⟩:=Fh h;obtain⟨a3,r3,rfl,h3,h⟩:=Fh h;obtain⟨a4,r4,rfl,h4,h⟩:=Fh h;obtain⟨a5,r5,rfl,h5,h⟩:=Fh h;obtain⟨a6,r6,rfl,h6,h⟩:=Fh h;obtain⟨a7,r7,rfl,h7,h⟩:=Fh h;obtain⟨a8,r8,rfl,h8,h⟩:=Fh h;obtain⟨a9,r9,rfl,h9,h⟩:=Fh h;obtain⟨a10,r10,rfl,h10,h⟩:=Fh h;obtain rfl:=W7 h;obtain⟨b0,s0,rfl,g0,g⟩:=Fh (Bg1 h0);obtain⟨b1,s1,rfl,g1,g⟩:=Fh g;obtain⟨b2,s2,rfl,g2,g⟩:=Fh g;obtain rfl:=W7 g;obtain⟨v6,rfl⟩:=Jm1 g0;obtain⟨hi,rfl,k1⟩:=Ay2 g1;obtain⟨lo,rfl,k2⟩:=Ay2 g2;obtain⟨x1,rfl,k3⟩:=Cy2 h1;obtain⟨x2,rfl,k4⟩:=Cy2 h2;obtain⟨x3,rfl,k5⟩:=Cy2 h3;obtain⟨x4,rfl,k6⟩:=Oc h4;obtain⟨x5,rfl,k7⟩:=Oc h5;obtain⟨x6,rfl,k8⟩:=Oc h6;obtain⟨x7,rfl,k9⟩:=Oc h7;obtain⟨x8,rfl,k10⟩:=Oc h8;obtain⟨x9,rfl,k11⟩:=Oc h9;obtain⟨x10,rfl,k12⟩:=Ay2 h10;exact⟨⟨v6,hi,lo,x1,x2,x3,x4,x5,x6,x7,x8,x9,x10⟩,⟨k1,k2,k3,k4,k5,k6,k7,k8,k9,k10,k11,k12⟩,rfl⟩
def Iv2 {cs:List PV} (h:bk.okC cs):∃r:Rec,r.wf∧cs=r.cells:=by obtain⟨a0,r0,rfl,h0,h⟩:=Fh (Bg1 h);obtain⟨a1,r1,rfl,h1,h⟩:=Fh h;obtain⟨a2,r2,rfl,h2,h⟩:=Fh h;obtain⟨a3,r3,rfl,h3,h⟩:=Fh h;obtain rfl:=W7 h;obtain⟨x0,rfl,k0⟩:=Cy2 h0;obtain⟨x1,rfl,k1⟩:=Oc h1;obtain⟨x2,rfl,k2⟩:=Oc h2;obtain⟨d,k3,rfl⟩:=Iv3 h3;exact⟨⟨x0,x1,x2,d⟩,⟨k0,k1,k2,k3⟩,by simp[Rec.cells]⟩
def Gg7 {cs:List PV} (h:Dj9.okC cs):∃l:List Rec,Dq7 l∧cs=[B6 l]:=by
 have h':∃xs,cs=[.l bk.size xs]∧xs.length≤maxLen∧∀x,x∈xs→if bk.agg then∃ds,x= .a ds∧bk.okC ds else x.scal=true∧bk.okC [x]:=by unfold Dj9 at h;simpa only[Sh.okC] using h
 obtain⟨xs,rfl,hl,hx⟩:=h';have go:∀xs:List PV,(∀x,x∈xs→if bk.agg then∃ds,x= .a ds∧bk.okC ds else x.scal=true∧bk.okC [x])→∃l:List Rec,(∀r∈l,r.wf)∧xs=l.map Rec.pv:=by
  intro xs
  induction xs with
  |nil=>exact fun _=>⟨[],fun r h=>(by cases h),rfl⟩
  |cons x xs ih=>
   intro hx;obtain⟨l,h1,rfl⟩:=ih (fun y hy=>hx y (R4 _ hy));have:=hx x (If ..);obtain⟨ds,rfl,hd⟩:∃ds,x= .a ds∧bk.okC ds:=this;obtain⟨r,hr,rfl⟩:=Iv2 hd;refine⟨r::l,fun y hy=> ?_,rfl⟩;rcases Cj.1 hy with rfl|hy
   ·exact hr
   ·exact h1 y hy
 obtain⟨l,h1,rfl⟩:=go xs hx;exact⟨l,⟨by simpa [maxLen] using hl,h1⟩,rfl⟩
def Gg6 {p:PV} (h:rt.ok p):∃z:Zone,z.wf∧p=z.pv:=by obtain⟨ds,rfl,h⟩:∃ds,p= .a ds∧rt.okC ds:=h;obtain⟨a0,r0,rfl,h0,h⟩:=Fh (Bg1 h);obtain⟨a1,r1,rfl,h1,h⟩:=Fh h;obtain rfl:=W7 h;obtain⟨x0,rfl,k0⟩:=Cy2 h0;obtain⟨l,k1,rfl⟩:=Gg7 h1;exact⟨⟨x0,l⟩,⟨k0,k1⟩,rfl⟩
def Gg8 {p:PV} (h:Sh.s.ok p):∃x,Lh x∧p= .s x:=by have h':p.scal=true∧Sh.s.okC [p]:=h;obtain⟨x,hx,hs⟩:=Cy2 h'.2;injection hx with hx;exact⟨x,hs,hx⟩
def Fb9 {p:PV} (h:rt.ok p):∃z:Zone,z.wf∧p=z.pv:=Gg6 h
def Bg0 {h0:Sh} {hs:List Sh}:∀{qs:List PV},Oks (h0::hs) qs→∃p q,qs=p::q∧h0.ok p∧Oks hs q
 |[],h=>by cases h
 |p::q,h=>⟨p,q,rfl,h.1,h.2⟩
def Gg5:∀{qs:List PV},Oks [] qs→qs=[]
 |[],_=>rfl
 |_::_,h=>by cases h
end Go.X
