/- The program's data out of the readings. -/
import Derived.Test.YtjjbngkgndckcaaGreatDoorValidateKeysG6
open List renaming mem_cons->Ch,mem_cons_self->Ir,mem_cons_of_mem->Jx
set_option maxHeartbeats 1000000
set_option linter.defProp false
set_option linter.unusedVariables false
set_option linter.unusedSimpArgs false
namespace Go.X
open Go
def Ck8:Sh:= .st [.st [.b,.i .u64,.i .u64],.s,.s,.s,.i .i64,.i .i64,.i .i64,.i .i64,.i .i64,.i .i64,.i .u64]
def T4:Sh:= .st [.s,.i .i64,.i .i64,Ck8]
def U0:Sh:= .l T4
def Eg {f:Sh} {fs:List Sh} {cs:List PV} (h:Sh.okCs (f::fs) cs):∃a b,cs=a++b∧f.okC a∧Sh.okCs fs b:=by simpa only[Sh.okCs] using h
def Qt {cs:List PV} (h:Sh.okCs [] cs):cs=[]:=by simpa only[Sh.okCs] using h
def nz {fs:List Sh} {cs:List PV} (h:(Sh.st fs).okC cs):Sh.okCs fs cs:=by simpa only[Sh.okC] using h
def Bq2 {cs:List PV} (h:Sh.s.okC cs):∃x,cs=[.s x]∧d4 x:=by simp only[Sh.okC] at h;exact h
def Gl3 {cs:List PV} (h:Sh.b.okC cs):∃x,cs=[.b x]:=by simpa only[Sh.okC] using h
def Kc {cs:List PV} (h:(Sh.i .i64).okC cs):∃x,cs=[.i .i64 x]∧Yf x:=by simp only[Sh.okC] at h;exact h
def gf {cs:List PV} (h:(Sh.i .u64).okC cs):∃x,cs=[.i .u64 x]∧Zv x:=by simp only[Sh.okC] at h;exact h
def Ct4 {cs:List PV} (h:Ck8.okC cs):∃d:Dat,d.wf∧cs=d.cells:=by obtain⟨c0,r0,rfl,h0,h⟩:=Eg (nz h);obtain⟨a1,r1,rfl,h1,h⟩:=Eg h;obtain⟨a2,r2,rfl,h2,h⟩:=Eg h;obtain⟨a3,r3,rfl,h3,h⟩:=Eg h;obtain⟨a4,r4,rfl,h4,h⟩:=Eg h;obtain⟨a5,r5,rfl,h5,h⟩:=Eg h;obtain⟨a6,r6,rfl,h6,h⟩:=Eg h;obtain⟨a7,r7,rfl,h7,h⟩:=Eg h;obtain⟨a8,r8,rfl,h8,h⟩:=Eg h;obtain⟨a9,r9,rfl,h9,h⟩:=Eg h;obtain⟨a10,r10,rfl,h10,h⟩:=Eg h;obtain rfl:=Qt h;obtain⟨b0,s0,rfl,g0,g⟩:=Eg (nz h0);obtain⟨b1,s1,rfl,g1,g⟩:=Eg g;obtain⟨b2,s2,rfl,g2,g⟩:=Eg g;obtain rfl:=Qt g;obtain⟨v6,rfl⟩:=Gl3 g0;obtain⟨hi,rfl,k1⟩:=gf g1;obtain⟨lo,rfl,k2⟩:=gf g2;obtain⟨x1,rfl,k3⟩:=Bq2 h1;obtain⟨x2,rfl,k4⟩:=Bq2 h2;obtain⟨x3,rfl,k5⟩:=Bq2 h3;obtain⟨x4,rfl,k6⟩:=Kc h4;obtain⟨x5,rfl,k7⟩:=Kc h5;obtain⟨x6,rfl,k8⟩:=Kc h6;obtain⟨x7,rfl,k9⟩:=Kc h7;obtain⟨x8,rfl,k10⟩:=Kc h8;obtain⟨x9,rfl,k11⟩:=Kc h9;obtain⟨x10,rfl,k12⟩:=gf h10;exact⟨⟨v6,hi,lo,x1,x2,x3,x4,x5,x6,x7,x8,x9,x10⟩,⟨k1,k2,k3,k4,k5,k6,k7,k8,k9,k10,k11,k12⟩,rfl⟩
def Ff8 {cs:List PV} (h:T4.okC cs):∃r:Rec,r.wf∧cs=r.cells:=by obtain⟨a0,r0,rfl,h0,h⟩:=Eg (nz h);obtain⟨a1,r1,rfl,h1,h⟩:=Eg h;obtain⟨a2,r2,rfl,h2,h⟩:=Eg h;obtain⟨a3,r3,rfl,h3,h⟩:=Eg h;obtain rfl:=Qt h;obtain⟨x0,rfl,k0⟩:=Bq2 h0;obtain⟨x1,rfl,k1⟩:=Kc h1;obtain⟨x2,rfl,k2⟩:=Kc h2;obtain⟨d,k3,rfl⟩:=Ct4 h3;exact⟨⟨x0,x1,x2,d⟩,⟨k0,k1,k2,k3⟩,by simp[Rec.cells]⟩
def Dp5 {cs:List PV} (h:U0.okC cs):∃l:List Rec,gk l∧cs=[B9 l]:=by
 have h':∃xs,cs=[.l T4.size xs]∧xs.length<=maxLen∧∀x,x∈xs->if T4.agg then∃ds,x= .a ds∧T4.okC ds else x.scal=true∧T4.okC [x]:=by unfold U0 at h;simpa only[Sh.okC] using h
 obtain⟨xs,rfl,hl,hx⟩:=h';have go:∀xs:List PV,(∀x,x∈xs->if T4.agg then∃ds,x= .a ds∧T4.okC ds else x.scal=true∧T4.okC [x])->∃l:List Rec,(∀r∈l,r.wf)∧xs=l.map Rec.pv:=by
  intro xs
  induction xs with
  |nil=>exact fun _=>⟨[],fun r h=>(by cases h),rfl⟩
  |cons x xs ih=>
   intro hx;obtain⟨l,h1,rfl⟩:=ih (fun y hy=>hx y (Jx _ hy));have:=hx x (Ir ..);obtain⟨ds,rfl,hd⟩:∃ds,x= .a ds∧T4.okC ds:=this;obtain⟨r,hr,rfl⟩:=Ff8 hd;refine⟨r::l,fun y hy=> ?_,rfl⟩;rcases Ch.1 hy with rfl|hy
   .exact hr
   .exact h1 y hy
 obtain⟨l,h1,rfl⟩:=go xs hx;exact⟨l,⟨by simpa [maxLen] using hl,h1⟩,rfl⟩
def Cy5 {p:PV} (h:U0.ok p):∃l,gk l∧p=B9 l:=by have h':p.scal=true∧U0.okC [p]:=h;obtain⟨l,hl,hp⟩:=Dp5 h'.2;injection hp with hp;exact⟨l,hl,hp⟩
def ny {h0:Sh} {hs:List Sh}:∀{qs:List PV},Oks (h0::hs) qs->∃p q,qs=p::q∧h0.ok p∧Oks hs q
 |[],h=>by cases h
 |p::q,h=>⟨p,q,rfl,h.1,h.2⟩
def Dp4:∀{qs:List PV},Oks [] qs->qs=[]
 |[],_=>rfl
 |_::_,h=>by cases h
end Go.X
