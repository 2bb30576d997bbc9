/- The program's data out of the readings. -/
import Derived.Test.YtjjbngkgndckcaaGreatDoorValidateAnswersG6
open List renaming mem_cons->Ch,mem_cons_self->Gm,mem_cons_of_mem->Kw
set_option maxHeartbeats 1000000
set_option linter.defProp false
set_option linter.unusedVariables false
set_option linter.unusedSimpArgs false
namespace Go.X
open Go
def Dr6:Sh:= .st [.st [.b,.i .u64,.i .u64],.s,.s,.s,.i .i64,.i .i64,.i .i64,.i .i64,.i .i64,.i .i64,.i .u64]
def X1:Sh:= .st [.s,.i .i64,.i .i64,Dr6]
def kw:Sh:= .l X1
def Dc {f:Sh} {fs:List Sh} {cs:List PV} (h:Sh.okCs (f::fs) cs):∃a b,cs=a++b∧f.okC a∧Sh.okCs fs b:=by simpa only[Sh.okCs] using h
def Oq {cs:List PV} (h:Sh.okCs [] cs):cs=[]:=by simpa only[Sh.okCs] using h
def Zd {fs:List Sh} {cs:List PV} (h:(Sh.st fs).okC cs):Sh.okCs fs cs:=by simpa only[Sh.okC] using h
def Bj4 {cs:List PV} (h:Sh.s.okC cs):∃x,cs=[.s x]∧Td x:=by simp only[Sh.okC] at h;exact h
def dn {cs:List PV} (h:Sh.b.okC cs):∃x,cs=[.b x]:=by simpa only[Sh.okC] using h
def It {cs:List PV} (h:(Sh.i .i64).okC cs):∃x,cs=[.i .i64 x]∧g9 x:=by simp only[Sh.okC] at h;exact h
def uw {cs:List PV} (h:(Sh.i .u64).okC cs):∃x,cs=[.i .u64 x]∧jf x:=by simp only[Sh.okC] at h;exact h
def En7 {cs:List PV} (h:Dr6.okC cs):∃d:Dat,d.wf∧cs=d.cells:=by obtain⟨c0,r0,rfl,h0,h⟩:=Dc (Zd h);obtain⟨a1,r1,rfl,h1,h⟩:=Dc h;obtain⟨a2,r2,rfl,h2,h⟩:=Dc h;obtain⟨a3,r3,rfl,h3,h⟩:=Dc h;obtain⟨a4,r4,rfl,h4,h⟩:=Dc h;obtain⟨a5,r5,rfl,h5,h⟩:=Dc h;obtain⟨a6,r6,rfl,h6,h⟩:=Dc h;obtain⟨a7,r7,rfl,h7,h⟩:=Dc h;obtain⟨a8,r8,rfl,h8,h⟩:=Dc h;obtain⟨a9,r9,rfl,h9,h⟩:=Dc h;obtain⟨a10,r10,rfl,h10,h⟩:=Dc h;obtain rfl:=Oq h;obtain⟨b0,s0,rfl,g0,g⟩:=Dc (Zd h0);obtain⟨b1,s1,rfl,g1,g⟩:=Dc g;obtain⟨b2,s2,rfl,g2,g⟩:=Dc g;obtain rfl:=Oq g;obtain⟨v6,rfl⟩:=dn g0;obtain⟨hi,rfl,k1⟩:=uw g1;obtain⟨lo,rfl,k2⟩:=uw g2;obtain⟨x1,rfl,k3⟩:=Bj4 h1;obtain⟨x2,rfl,k4⟩:=Bj4 h2;obtain⟨x3,rfl,k5⟩:=Bj4 h3;obtain⟨x4,rfl,k6⟩:=It h4;obtain⟨x5,rfl,k7⟩:=It h5;obtain⟨x6,rfl,k8⟩:=It h6;obtain⟨x7,rfl,k9⟩:=It h7;obtain⟨x8,rfl,k10⟩:=It h8;obtain⟨x9,rfl,k11⟩:=It h9;obtain⟨x10,rfl,k12⟩:=uw h10;exact⟨⟨v6,hi,lo,x1,x2,x3,x4,x5,x6,x7,x8,x9,x10⟩,⟨k1,k2,k3,k4,k5,k6,k7,k8,k9,k10,k11,k12⟩,rfl⟩
def Hg6 {cs:List PV} (h:X1.okC cs):∃r:Rec,r.wf∧cs=r.cells:=by obtain⟨a0,r0,rfl,h0,h⟩:=Dc (Zd h);obtain⟨a1,r1,rfl,h1,h⟩:=Dc h;obtain⟨a2,r2,rfl,h2,h⟩:=Dc h;obtain⟨a3,r3,rfl,h3,h⟩:=Dc h;obtain rfl:=Oq h;obtain⟨x0,rfl,k0⟩:=Bj4 h0;obtain⟨x1,rfl,k1⟩:=It h1;obtain⟨x2,rfl,k2⟩:=It h2;obtain⟨d,k3,rfl⟩:=En7 h3;exact⟨⟨x0,x1,x2,d⟩,⟨k0,k1,k2,k3⟩,by simp[Rec.cells]⟩
def uv {cs:List PV} (h:kw.okC cs):∃l:List Rec,Cx8 l∧cs=[B8 l]:=by
 have h':∃xs,cs=[.l X1.size xs]∧xs.length<=maxLen∧∀x,x∈xs->if X1.agg then∃ds,x= .a ds∧X1.okC ds else x.scal=true∧X1.okC [x]:=by unfold kw at h;simpa only[Sh.okC] using h
 obtain⟨xs,rfl,hl,hx⟩:=h';have go:∀xs:List PV,(∀x,x∈xs->if X1.agg then∃ds,x= .a ds∧X1.okC ds else x.scal=true∧X1.okC [x])->∃l:List Rec,(∀r∈l,r.wf)∧xs=l.map Rec.pv:=by
  intro xs
  induction xs with
  |nil=>exact fun _=>⟨[],fun r h=>(by cases h),rfl⟩
  |cons x xs ih=>
   intro hx;obtain⟨l,h1,rfl⟩:=ih (fun y hy=>hx y (Kw _ hy));have:=hx x (Gm ..);obtain⟨ds,rfl,hd⟩:∃ds,x= .a ds∧X1.okC ds:=this;obtain⟨r,hr,rfl⟩:=Hg6 hd;refine⟨r::l,fun y hy=> ?_,rfl⟩;rcases Ch.1 hy with rfl|hy
   .exact hr
   .exact h1 y hy
 obtain⟨l,h1,rfl⟩:=go xs hx;exact⟨l,⟨by simpa [maxLen] using hl,h1⟩,rfl⟩
def Aq5 {h0:Sh} {hs:List Sh}:∀{qs:List PV},Oks (h0::hs) qs->∃p q,qs=p::q∧h0.ok p∧Oks hs q
 |[],h=>by cases h
 |p::q,h=>⟨p,q,rfl,h.1,h.2⟩
def Fr2:∀{qs:List PV},Oks [] qs->qs=[]
 |[],_=>rfl
 |_::_,h=>by cases h
end Go.X
