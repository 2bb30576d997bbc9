/- The program's data out of the readings. -/
import Derived.Test.YtjjbngkgndckcaaGreatDoorValidateReferralsG6
open List renaming mem_cons->Cl,mem_cons_self->I5,mem_cons_of_mem->Jh
set_option maxHeartbeats 1000000
set_option linter.defProp false
set_option linter.unusedVariables false
set_option linter.unusedSimpArgs false
namespace Go.X
open Go
def Cz9:Sh:= .st [.st [.b,.i .u64,.i .u64],.s,.s,.s,.i .i64,.i .i64,.i .i64,.i .i64,.i .i64,.i .i64,.i .u64]
def Ul:Sh:= .st [.s,.i .i64,.i .i64,Cz9]
def bk:Sh:= .l Ul
def Dk {f:Sh} {fs:List Sh} {cs:List PV} (h:Sh.okCs (f::fs) cs):∃a b,cs=a++b∧f.okC a∧Sh.okCs fs b:=by simpa only[Sh.okCs] using h
def Ml {cs:List PV} (h:Sh.okCs [] cs):cs=[]:=by simpa only[Sh.okCs] using h
def Vs {fs:List Sh} {cs:List PV} (h:(Sh.st fs).okC cs):Sh.okCs fs cs:=by simpa only[Sh.okC] using h
def zp {cs:List PV} (h:Sh.s.okC cs):∃x,cs=[.s x]∧gk x:=by simp only[Sh.okC] at h;exact h
def Xp {cs:List PV} (h:Sh.b.okC cs):∃x,cs=[.b x]:=by simpa only[Sh.okC] using h
def H9 {cs:List PV} (h:(Sh.i .i64).okC cs):∃x,cs=[.i .i64 x]∧Zw x:=by simp only[Sh.okC] at h;exact h
def jd {cs:List PV} (h:(Sh.i .u64).okC cs):∃x,cs=[.i .u64 x]∧aj x:=by simp only[Sh.okC] at h;exact h
def Dx7 {cs:List PV} (h:Cz9.okC cs):∃d:Dat,d.wf∧cs=d.cells:=by obtain⟨c0,r0,rfl,h0,h⟩:=Dk (Vs h);obtain⟨a1,r1,rfl,h1,h⟩:=Dk h;obtain⟨a2,r2,rfl,h2,h⟩:=Dk h;obtain⟨a3,r3,rfl,h3,h⟩:=Dk h;obtain⟨a4,r4,rfl,h4,h⟩:=Dk h;obtain⟨a5,r5,rfl,h5,h⟩:=Dk h;obtain⟨a6,r6,rfl,h6,h⟩:=Dk h;obtain⟨a7,r7,rfl,h7,h⟩:=Dk h;obtain⟨a8,r8,rfl,h8,h⟩:=Dk h;obtain⟨a9,r9,rfl,h9,h⟩:=Dk h;obtain⟨a10,r10,rfl,h10,h⟩:=Dk h;obtain rfl:=Ml h;obtain⟨b0,s0,rfl,g0,g⟩:=Dk (Vs h0);obtain⟨b1,s1,rfl,g1,g⟩:=Dk g;obtain⟨b2,s2,rfl,g2,g⟩:=Dk g;obtain rfl:=Ml g;obtain⟨v6,rfl⟩:=Xp g0;obtain⟨hi,rfl,k1⟩:=jd g1;obtain⟨lo,rfl,k2⟩:=jd g2;obtain⟨x1,rfl,k3⟩:=zp h1;obtain⟨x2,rfl,k4⟩:=zp h2;obtain⟨x3,rfl,k5⟩:=zp h3;obtain⟨x4,rfl,k6⟩:=H9 h4;obtain⟨x5,rfl,k7⟩:=H9 h5;obtain⟨x6,rfl,k8⟩:=H9 h6;obtain⟨x7,rfl,k9⟩:=H9 h7;obtain⟨x8,rfl,k10⟩:=H9 h8;obtain⟨x9,rfl,k11⟩:=H9 h9;obtain⟨x10,rfl,k12⟩:=jd h10;exact⟨⟨v6,hi,lo,x1,x2,x3,x4,x5,x6,x7,x8,x9,x10⟩,⟨k1,k2,k3,k4,k5,k6,k7,k8,k9,k10,k11,k12⟩,rfl⟩
def Fs8 {cs:List PV} (h:Ul.okC cs):∃r:Rec,r.wf∧cs=r.cells:=by obtain⟨a0,r0,rfl,h0,h⟩:=Dk (Vs h);obtain⟨a1,r1,rfl,h1,h⟩:=Dk h;obtain⟨a2,r2,rfl,h2,h⟩:=Dk h;obtain⟨a3,r3,rfl,h3,h⟩:=Dk h;obtain rfl:=Ml h;obtain⟨x0,rfl,k0⟩:=zp h0;obtain⟨x1,rfl,k1⟩:=H9 h1;obtain⟨x2,rfl,k2⟩:=H9 h2;obtain⟨d,k3,rfl⟩:=Dx7 h3;exact⟨⟨x0,x1,x2,d⟩,⟨k0,k1,k2,k3⟩,by simp[Rec.cells]⟩
def jc {cs:List PV} (h:bk.okC cs):∃l:List Rec,At3 l∧cs=[B9 l]:=by
 have h':∃xs,cs=[.l Ul.size xs]∧xs.length<=maxLen∧∀x,x∈xs->if Ul.agg then∃ds,x= .a ds∧Ul.okC ds else x.scal=true∧Ul.okC [x]:=by unfold bk at h;simpa only[Sh.okC] using h
 obtain⟨xs,rfl,hl,hx⟩:=h';have go:∀xs:List PV,(∀x,x∈xs->if Ul.agg then∃ds,x= .a ds∧Ul.okC ds else x.scal=true∧Ul.okC [x])->∃l:List Rec,(∀r∈l,r.wf)∧xs=l.map Rec.pv:=by
  intro xs
  induction xs with
  |nil=>exact fun _=>⟨[],fun r h=>(by cases h),rfl⟩
  |cons x xs ih=>
   intro hx;obtain⟨l,h1,rfl⟩:=ih (fun y hy=>hx y (Jh _ hy));have:=hx x (I5 ..);obtain⟨ds,rfl,hd⟩:∃ds,x= .a ds∧Ul.okC ds:=this;obtain⟨r,hr,rfl⟩:=Fs8 hd;refine⟨r::l,fun y hy=> ?_,rfl⟩;rcases Cl.1 hy with rfl|hy
   .exact hr
   .exact h1 y hy
 obtain⟨l,h1,rfl⟩:=go xs hx;exact⟨l,⟨by simpa [maxLen] using hl,h1⟩,rfl⟩
def qz {h0:Sh} {hs:List Sh}:∀{qs:List PV},Oks (h0::hs) qs->∃p q,qs=p::q∧h0.ok p∧Oks hs q
 |[],h=>by cases h
 |p::q,h=>⟨p,q,rfl,h.1,h.2⟩
def Ew3:∀{qs:List PV},Oks [] qs->qs=[]
 |[],_=>rfl
 |_::_,h=>by cases h
end Go.X
