/- The program's data out of the readings. -/
import Derived.Test.YtjakmljndnkplaaGreatDoorProveNegativeG8
open List renaming mem_cons->Cj,mem_cons_self->Ic,mem_cons_of_mem->Rp
set_option maxHeartbeats 1000000
set_option linter.defProp false
set_option linter.unusedVariables false
set_option linter.unusedSimpArgs false
namespace Go.X
open Go
def Hj9:Sh:= .st [.st [.b,.i .u64,.i .u64],.s,.s,.s,.i .i64,.i .i64,.i .i64,.i .i64,.i .i64,.i .i64,.i .u64]
def am:Sh:= .st [.s,.i .i64,.i .i64,Hj9]
def Cf7:Sh:= .l am
def pn:Sh:= .st [.s,Cf7]
def E8 {f:Sh} {fs:List Sh} {cs:List PV} (h:Sh.okCs (f::fs) cs):∃a b,cs=a++b∧f.okC a∧Sh.okCs fs b:=by simpa only[Sh.okCs] using h
def Sn {cs:List PV} (h:Sh.okCs [] cs):cs=[]:=by simpa only[Sh.okCs] using h
def rv {fs:List Sh} {cs:List PV} (h:(Sh.st fs).okC cs):Sh.okCs fs cs:=by simpa only[Sh.okC] using h
def Bf8 {cs:List PV} (h:Sh.s.okC cs):∃x,cs=[.s x]∧T6 x:=by simp only[Sh.okC] at h;exact h
def Ih7 {cs:List PV} (h:Sh.b.okC cs):∃x,cs=[.b x]:=by simpa only[Sh.okC] using h
def Nq {cs:List PV} (h:(Sh.i .i64).okC cs):∃x,cs=[.i .i64 x]∧T8 x:=by simp only[Sh.okC] at h;exact h
def Aj7 {cs:List PV} (h:(Sh.i .u64).okC cs):∃x,cs=[.i .u64 x]∧Eq4 x:=by simp only[Sh.okC] at h;exact h
def Hg9 {cs:List PV} (h:Hj9.okC cs):∃d:Dat,d.wf∧cs=d.cells:=by obtain⟨c0,r0,rfl,h0,h⟩:=E8 (rv h);obtain⟨a1,r1,rfl,h1,h⟩:=E8 h;obtain⟨a2,r2,rfl,h2,h⟩:=E8 h;obtain⟨a3,r3,rfl,h3,h⟩:=E8 h;obtain⟨a4,r4,rfl,h4,h⟩:=E8 h;obtain⟨a5,r5,rfl,h5,h⟩:=E8 h;obtain⟨a6,r6,rfl,h6,h⟩:=E8 h;obtain⟨a7,r7,rfl,h7,h⟩:=E8 h;obtain⟨a8,r8,rfl,h8,h⟩:=E8 h;obtain⟨a9,r9,rfl,h9,h⟩:=E8 h;obtain⟨a10,r10,rfl,h10,h⟩:=E8 h;obtain rfl:=Sn h;obtain⟨b0,s0,rfl,g0,g⟩:=E8 (rv h0);obtain⟨b1,s1,rfl,g1,g⟩:=E8 g;obtain⟨b2,s2,rfl,g2,g⟩:=E8 g;obtain rfl:=Sn g;obtain⟨v6,rfl⟩:=Ih7 g0;obtain⟨hi,rfl,k1⟩:=Aj7 g1;obtain⟨lo,rfl,k2⟩:=Aj7 g2;obtain⟨x1,rfl,k3⟩:=Bf8 h1;obtain⟨x2,rfl,k4⟩:=Bf8 h2;obtain⟨x3,rfl,k5⟩:=Bf8 h3;obtain⟨x4,rfl,k6⟩:=Nq h4;obtain⟨x5,rfl,k7⟩:=Nq h5;obtain⟨x6,rfl,k8⟩:=Nq h6;obtain⟨x7,rfl,k9⟩:=Nq h7;obtain⟨x8,rfl,k10⟩:=Nq h8;obtain⟨x9,rfl,k11⟩:=Nq h9;obtain⟨x10,rfl,k12⟩:=Aj7 h10;exact⟨⟨v6,hi,lo,x1,x2,x3,x4,x5,x6,x7,x8,x9,x10⟩,⟨k1,k2,k3,k4,k5,k6,k7,k8,k9,k10,k11,k12⟩,rfl⟩
def Hg8 {cs:List PV} (h:am.okC cs):∃r:Rec,r.wf∧cs=r.cells:=by obtain⟨a0,r0,rfl,h0,h⟩:=E8 (rv h);obtain⟨a1,r1,rfl,h1,h⟩:=E8 h;obtain⟨a2,r2,rfl,h2,h⟩:=E8 h;obtain⟨a3,r3,rfl,h3,h⟩:=E8 h;obtain rfl:=Sn h;obtain⟨x0,rfl,k0⟩:=Bf8 h0;obtain⟨x1,rfl,k1⟩:=Nq h1;obtain⟨x2,rfl,k2⟩:=Nq h2;obtain⟨d,k3,rfl⟩:=Hg9 h3;exact⟨⟨x0,x1,x2,d⟩,⟨k0,k1,k2,k3⟩,by simp[Rec.cells]⟩
def Gq4 {cs:List PV} (h:Cf7.okC cs):∃l:List Rec,Cl3 l∧cs=[B6 l]:=by
 have h':∃xs,cs=[.l am.size xs]∧xs.length<=maxLen∧∀x,x∈xs->if am.agg then∃ds,x= .a ds∧am.okC ds else x.scal=true∧am.okC [x]:=by unfold Cf7 at h;simpa only[Sh.okC] using h
 obtain⟨xs,rfl,hl,hx⟩:=h';have go:∀xs:List PV,(∀x,x∈xs->if am.agg then∃ds,x= .a ds∧am.okC ds else x.scal=true∧am.okC [x])->∃l:List Rec,(∀r∈l,r.wf)∧xs=l.map Rec.pv:=by
  intro xs
  induction xs with
  |nil=>exact fun _=>⟨[],fun r h=>(by cases h),rfl⟩
  |cons x xs ih=>
   intro hx;obtain⟨l,h1,rfl⟩:=ih (fun y hy=>hx y (Rp _ hy));have:=hx x (Ic ..);obtain⟨ds,rfl,hd⟩:∃ds,x= .a ds∧am.okC ds:=this;obtain⟨r,hr,rfl⟩:=Hg8 hd;refine⟨r::l,fun y hy=> ?_,rfl⟩;rcases Cj.1 hy with rfl|hy
   .exact hr
   .exact h1 y hy
 obtain⟨l,h1,rfl⟩:=go xs hx;exact⟨l,⟨by simpa [maxLen] using hl,h1⟩,rfl⟩
def Gq3 {p:PV} (h:pn.ok p):∃z:Zone,z.wf∧p=z.pv:=by obtain⟨ds,rfl,h⟩:∃ds,p= .a ds∧pn.okC ds:=h;obtain⟨a0,r0,rfl,h0,h⟩:=E8 (rv h);obtain⟨a1,r1,rfl,h1,h⟩:=E8 h;obtain rfl:=Sn h;obtain⟨x0,rfl,k0⟩:=Bf8 h0;obtain⟨l,k1,rfl⟩:=Gq4 h1;exact⟨⟨x0,l⟩,⟨k0,k1⟩,rfl⟩
def Ef7 {p:PV} (h:pn.ok p):∃z:Zone,z.wf∧p=z.pv:=Gq3 h
def Am9 {h0:Sh} {hs:List Sh}:∀{qs:List PV},Oks (h0::hs) qs->∃p q,qs=p::q∧h0.ok p∧Oks hs q
 |[],h=>by cases h
 |p::q,h=>⟨p,q,rfl,h.1,h.2⟩
def Gq2:∀{qs:List PV},Oks [] qs->qs=[]
 |[],_=>rfl
 |_::_,h=>by cases h
end Go.X
