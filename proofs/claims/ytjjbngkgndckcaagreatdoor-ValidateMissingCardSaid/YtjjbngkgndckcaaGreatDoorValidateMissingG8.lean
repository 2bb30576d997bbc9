/- The program's data out of the readings. -/
import Derived.Test.YtjjbngkgndckcaaGreatDoorValidateMissingG6
open List renaming mem_cons->Ch,mem_cons_self->F6,mem_cons_of_mem->I8
set_option maxHeartbeats 1000000
set_option linter.defProp false
set_option linter.unusedVariables false
set_option linter.unusedSimpArgs false
namespace Go.X
open Go
def Bt8:Sh:= .st [.st [.b,.i .u64,.i .u64],.s,.s,.s,.i .i64,.i .i64,.i .i64,.i .i64,.i .i64,.i .i64,.i .u64]
def Tw:Sh:= .st [.s,.i .i64,.i .i64,Bt8]
def Zy:Sh:= .l Tw
def Dv {f:Sh} {fs:List Sh} {cs:List PV} (h:Sh.okCs (f::fs) cs):∃a b,cs=a++b∧f.okC a∧Sh.okCs fs b:=by simpa only[Sh.okCs] using h
def L9 {cs:List PV} (h:Sh.okCs [] cs):cs=[]:=by simpa only[Sh.okCs] using h
def Ul {fs:List Sh} {cs:List PV} (h:(Sh.st fs).okC cs):Sh.okCs fs cs:=by simpa only[Sh.okC] using h
def xf {cs:List PV} (h:Sh.s.okC cs):∃x,cs=[.s x]∧d8 x:=by simp only[Sh.okC] at h;exact h
def Wl {cs:List PV} (h:Sh.b.okC cs):∃x,cs=[.b x]:=by simpa only[Sh.okC] using h
def Hs {cs:List PV} (h:(Sh.i .i64).okC cs):∃x,cs=[.i .i64 x]∧Yj x:=by simp only[Sh.okC] at h;exact h
def g7 {cs:List PV} (h:(Sh.i .u64).okC cs):∃x,cs=[.i .u64 x]∧zt x:=by simp only[Sh.okC] at h;exact h
def Cp2 {cs:List PV} (h:Bt8.okC cs):∃d:Dat,d.wf∧cs=d.cells:=by obtain⟨c0,r0,rfl,h0,h⟩:=Dv (Ul h);obtain⟨a1,r1,rfl,h1,h⟩:=Dv h;obtain⟨a2,r2,rfl,h2,h⟩:=Dv h;obtain⟨a3,r3,rfl,h3,h⟩:=Dv h;obtain⟨a4,r4,rfl,h4,h⟩:=Dv h;obtain⟨a5,r5,rfl,h5,h⟩:=Dv h;obtain⟨a6,r6,rfl,h6,h⟩:=Dv h;obtain⟨a7,r7,rfl,h7,h⟩:=Dv h;obtain⟨a8,r8,rfl,h8,h⟩:=Dv h;obtain⟨a9,r9,rfl,h9,h⟩:=Dv h;obtain⟨a10,r10,rfl,h10,h⟩:=Dv h;obtain rfl:=L9 h;obtain⟨b0,s0,rfl,g0,g⟩:=Dv (Ul h0);obtain⟨b1,s1,rfl,g1,g⟩:=Dv g;obtain⟨b2,s2,rfl,g2,g⟩:=Dv g;obtain rfl:=L9 g;obtain⟨v6,rfl⟩:=Wl g0;obtain⟨hi,rfl,k1⟩:=g7 g1;obtain⟨lo,rfl,k2⟩:=g7 g2;obtain⟨x1,rfl,k3⟩:=xf h1;obtain⟨x2,rfl,k4⟩:=xf h2;obtain⟨x3,rfl,k5⟩:=xf h3;obtain⟨x4,rfl,k6⟩:=Hs h4;obtain⟨x5,rfl,k7⟩:=Hs h5;obtain⟨x6,rfl,k8⟩:=Hs h6;obtain⟨x7,rfl,k9⟩:=Hs h7;obtain⟨x8,rfl,k10⟩:=Hs h8;obtain⟨x9,rfl,k11⟩:=Hs h9;obtain⟨x10,rfl,k12⟩:=g7 h10;exact⟨⟨v6,hi,lo,x1,x2,x3,x4,x5,x6,x7,x8,x9,x10⟩,⟨k1,k2,k3,k4,k5,k6,k7,k8,k9,k10,k11,k12⟩,rfl⟩
def Fk5 {cs:List PV} (h:Tw.okC cs):∃r:Rec,r.wf∧cs=r.cells:=by obtain⟨a0,r0,rfl,h0,h⟩:=Dv (Ul h);obtain⟨a1,r1,rfl,h1,h⟩:=Dv h;obtain⟨a2,r2,rfl,h2,h⟩:=Dv h;obtain⟨a3,r3,rfl,h3,h⟩:=Dv h;obtain rfl:=L9 h;obtain⟨x0,rfl,k0⟩:=xf h0;obtain⟨x1,rfl,k1⟩:=Hs h1;obtain⟨x2,rfl,k2⟩:=Hs h2;obtain⟨d,k3,rfl⟩:=Cp2 h3;exact⟨⟨x0,x1,x2,d⟩,⟨k0,k1,k2,k3⟩,by simp[Rec.cells]⟩
def gt {cs:List PV} (h:Zy.okC cs):∃l:List Rec,Ah5 l∧cs=[B9 l]:=by
 have h':∃xs,cs=[.l Tw.size xs]∧xs.length<=maxLen∧∀x,x∈xs->if Tw.agg then∃ds,x= .a ds∧Tw.okC ds else x.scal=true∧Tw.okC [x]:=by unfold Zy at h;simpa only[Sh.okC] using h
 obtain⟨xs,rfl,hl,hx⟩:=h';have go:∀xs:List PV,(∀x,x∈xs->if Tw.agg then∃ds,x= .a ds∧Tw.okC ds else x.scal=true∧Tw.okC [x])->∃l:List Rec,(∀r∈l,r.wf)∧xs=l.map Rec.pv:=by
  intro xs
  induction xs with
  |nil=>exact fun _=>⟨[],fun r h=>(by cases h),rfl⟩
  |cons x xs ih=>
   intro hx;obtain⟨l,h1,rfl⟩:=ih (fun y hy=>hx y (I8 _ hy));have:=hx x (F6 ..);obtain⟨ds,rfl,hd⟩:∃ds,x= .a ds∧Tw.okC ds:=this;obtain⟨r,hr,rfl⟩:=Fk5 hd;refine⟨r::l,fun y hy=> ?_,rfl⟩;rcases Ch.1 hy with rfl|hy
   .exact hr
   .exact h1 y hy
 obtain⟨l,h1,rfl⟩:=go xs hx;exact⟨l,⟨by simpa [maxLen] using hl,h1⟩,rfl⟩
def nz {h0:Sh} {hs:List Sh}:∀{qs:List PV},Oks (h0::hs) qs->∃p q,qs=p::q∧h0.ok p∧Oks hs q
 |[],h=>by cases h
 |p::q,h=>⟨p,q,rfl,h.1,h.2⟩
def Dg3:∀{qs:List PV},Oks [] qs->qs=[]
 |[],_=>rfl
 |_::_,h=>by cases h
end Go.X
