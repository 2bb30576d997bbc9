/- The program's data out of the readings. -/
import Derived.Test.YtjakmljndnkplaaGreatDoorProveRespondsG6
open List renaming mem_cons->Cq,mem_cons_self->K4,mem_cons_of_mem->Cs7
set_option maxHeartbeats 1000000
set_option linter.defProp false
set_option linter.unusedVariables false
set_option linter.unusedSimpArgs false
namespace Go.X
open Go
def In0:Sh:= .st [.st [.b,.i .u64,.i .u64],.s,.s,.s,.i .i64,.i .i64,.i .i64,.i .i64,.i .i64,.i .i64,.i .u64]
def gf:Sh:= .st [.s,.i .i64,.i .i64,In0]
def jd:Sh:= .l gf
def yw:Sh:= .st [.s,jd]
def D3 {f:Sh} {fs:List Sh} {cs:List PV} (h:Sh.okCs (f::fs) cs):∃a b,cs=a++b∧f.okC a∧Sh.okCs fs b:=by simpa only[Sh.okCs] using h
def Rq {cs:List PV} (h:Sh.okCs [] cs):cs=[]:=by simpa only[Sh.okCs] using h
def j5 {fs:List Sh} {cs:List PV} (h:(Sh.st fs).okC cs):Sh.okCs fs cs:=by simpa only[Sh.okC] using h
def Cd6 {cs:List PV} (h:Sh.s.okC cs):∃x,cs=[.s x]∧Mw x:=by simp only[Sh.okC] at h;exact h
def pp {cs:List PV} (h:Sh.b.okC cs):∃x,cs=[.b x]:=by simpa only[Sh.okC] using h
def Kk {cs:List PV} (h:(Sh.i .i64).okC cs):∃x,cs=[.i .i64 x]∧Wy x:=by simp only[Sh.okC] at h;exact h
def Al6 {cs:List PV} (h:(Sh.i .u64).okC cs):∃x,cs=[.i .u64 x]∧Fh4 x:=by simp only[Sh.okC] at h;exact h
def Jf7 {cs:List PV} (h:In0.okC cs):∃d:Dat,d.wf∧cs=d.cells:=by obtain⟨c0,r0,rfl,h0,h⟩:=D3 (j5 h);obtain⟨a1,r1,rfl,h1,h⟩:=D3 h;obtain⟨a2,r2,rfl,h2,h⟩:=D3 h;obtain⟨a3,r3,rfl,h3,h⟩:=D3 h;obtain⟨a4,r4,rfl,h4,h⟩:=D3 h;obtain⟨a5,r5,rfl,h5,h⟩:=D3 h;obtain⟨a6,r6,rfl,h6,h⟩:=D3 h;obtain⟨a7,r7,rfl,h7,h⟩:=D3 h;obtain⟨a8,r8,rfl,h8,h⟩:=D3 h;obtain⟨a9,r9,rfl,h9,h⟩:=D3 h;obtain⟨a10,r10,rfl,h10,h⟩:=D3 h;obtain rfl:=Rq h;obtain⟨b0,s0,rfl,g0,g⟩:=D3 (j5 h0);obtain⟨b1,s1,rfl,g1,g⟩:=D3 g;obtain⟨b2,s2,rfl,g2,g⟩:=D3 g;obtain rfl:=Rq g;obtain⟨v6,rfl⟩:=pp g0;obtain⟨hi,rfl,k1⟩:=Al6 g1;obtain⟨lo,rfl,k2⟩:=Al6 g2;obtain⟨x1,rfl,k3⟩:=Cd6 h1;obtain⟨x2,rfl,k4⟩:=Cd6 h2;obtain⟨x3,rfl,k5⟩:=Cd6 h3;obtain⟨x4,rfl,k6⟩:=Kk h4;obtain⟨x5,rfl,k7⟩:=Kk h5;obtain⟨x6,rfl,k8⟩:=Kk h6;obtain⟨x7,rfl,k9⟩:=Kk h7;obtain⟨x8,rfl,k10⟩:=Kk h8;obtain⟨x9,rfl,k11⟩:=Kk h9;obtain⟨x10,rfl,k12⟩:=Al6 h10;exact⟨⟨v6,hi,lo,x1,x2,x3,x4,x5,x6,x7,x8,x9,x10⟩,⟨k1,k2,k3,k4,k5,k6,k7,k8,k9,k10,k11,k12⟩,rfl⟩
def Jf6 {cs:List PV} (h:gf.okC cs):∃r:Rec,r.wf∧cs=r.cells:=by obtain⟨a0,r0,rfl,h0,h⟩:=D3 (j5 h);obtain⟨a1,r1,rfl,h1,h⟩:=D3 h;obtain⟨a2,r2,rfl,h2,h⟩:=D3 h;obtain⟨a3,r3,rfl,h3,h⟩:=D3 h;obtain rfl:=Rq h;obtain⟨x0,rfl,k0⟩:=Cd6 h0;obtain⟨x1,rfl,k1⟩:=Kk h1;obtain⟨x2,rfl,k2⟩:=Kk h2;obtain⟨d,k3,rfl⟩:=Jf7 h3;exact⟨⟨x0,x1,x2,d⟩,⟨k0,k1,k2,k3⟩,by simp[Rec.cells]⟩
def pg {cs:List PV} (h:jd.okC cs):∃l:List Rec,Ds0 l∧cs=[B4 l]:=by
 have h':∃xs,cs=[.l gf.size xs]∧xs.length<=maxLen∧∀x,x∈xs->if gf.agg then∃ds,x= .a ds∧gf.okC ds else x.scal=true∧gf.okC [x]:=by unfold jd at h;simpa only[Sh.okC] using h
 obtain⟨xs,rfl,hl,hx⟩:=h';have go:∀xs:List PV,(∀x,x∈xs->if gf.agg then∃ds,x= .a ds∧gf.okC ds else x.scal=true∧gf.okC [x])->∃l:List Rec,(∀r∈l,r.wf)∧xs=l.map Rec.pv:=by
  intro xs
  induction xs with
  |nil=>exact fun _=>⟨[],fun r h=>(by cases h),rfl⟩
  |cons x xs ih=>
   intro hx;obtain⟨l,h1,rfl⟩:=ih (fun y hy=>hx y (Cs7 _ hy));have:=hx x (K4 ..);obtain⟨ds,rfl,hd⟩:∃ds,x= .a ds∧gf.okC ds:=this;obtain⟨r,hr,rfl⟩:=Jf6 hd;refine⟨r::l,fun y hy=> ?_,rfl⟩;rcases Cq.1 hy with rfl|hy
   .exact hr
   .exact h1 y hy
 obtain⟨l,h1,rfl⟩:=go xs hx;exact⟨l,⟨by simpa [maxLen] using hl,h1⟩,rfl⟩
def Hr0 {p:PV} (h:yw.ok p):∃z:Zone,z.wf∧p=z.pv:=by obtain⟨ds,rfl,h⟩:∃ds,p= .a ds∧yw.okC ds:=h;obtain⟨a0,r0,rfl,h0,h⟩:=D3 (j5 h);obtain⟨a1,r1,rfl,h1,h⟩:=D3 h;obtain rfl:=Rq h;obtain⟨x0,rfl,k0⟩:=Cd6 h0;obtain⟨l,k1,rfl⟩:=pg h1;exact⟨⟨x0,l⟩,⟨k0,k1⟩,rfl⟩
def Gq2 {p:PV} (h:yw.ok p):∃z:Zone,z.wf∧p=z.pv:=Hr0 h
def Bf4 {h0:Sh} {hs:List Sh}:∀{qs:List PV},Oks (h0::hs) qs->∃p q,qs=p::q∧h0.ok p∧Oks hs q
 |[],h=>by cases h
 |p::q,h=>⟨p,q,rfl,h.1,h.2⟩
def Hp9:∀{qs:List PV},Oks [] qs->qs=[]
 |[],_=>rfl
 |_::_,h=>by cases h
end Go.X
