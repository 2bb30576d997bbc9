/- The program's data out of the readings. -/
import Derived.Test.YtdljoocpdjbhfaaDoorTrustInsidesG6
open List renaming mem_cons→Cd,mem_cons_self→Fb,mem_cons_of_mem→G2
set_option maxHeartbeats 1000000
set_option linter.unusedVariables false
set_option linter.unusedSimpArgs false
namespace Go.X
open Go
def tt:Sh:= .st [.st [.b, .i .u64, .i .u64], .s, .s, .s, .i .i64, .i .i64, .i .i64, .i .i64, .i .i64, .i .i64, .i .u64]
def Kv:Sh:= .st [.s, .i .i64, .i .i64,tt]
def Nj:Sh:= .l Kv
theorem Bw {f:Sh} {fs:List Sh} {cs:List PV} (h:Sh.okCs (f::fs) cs):∃a b,cs=a++b∧f.okC a∧Sh.okCs fs b:=by simpa only [Sh.okCs] using h
theorem Hy {cs:List PV} (h:Sh.okCs [] cs):cs=[]:=by simpa only [Sh.okCs] using h
theorem Nl {fs:List Sh} {cs:List PV} (h:(Sh.st fs).okC cs):Sh.okCs fs cs:=by simpa only [Sh.okC] using h
theorem Ss {cs:List PV} (h:Sh.s.okC cs):∃x,cs=[.s x]∧Ig x:=by simp only [Sh.okC] at h;exact h
theorem L5 {cs:List PV} (h:Sh.b.okC cs):∃x,cs=[.b x]:=by simpa only [Sh.okC] using h
theorem Ds {cs:List PV} (h:(Sh.i .i64).okC cs):∃x,cs=[.i .i64 x]∧I1 x:=by simp only [Sh.okC] at h;exact h
theorem Pg {cs:List PV} (h:(Sh.i .u64).okC cs):∃x,cs=[.i .u64 x]∧mq x:=by simp only [Sh.okC] at h;exact h
theorem vv {cs:List PV} (h:tt.okC cs):∃d:Dat,d.wf∧cs=d.cells:=by obtain ⟨c0,r0,rfl,h0,h⟩:=Bw (Nl h);obtain ⟨a1,r1,rfl,h1,h⟩:=Bw h;obtain ⟨a2,r2,rfl,h2,h⟩:=Bw h;obtain ⟨a3,r3,rfl,h3,h⟩:=Bw h;obtain ⟨a4,r4,rfl,h4,h⟩:=Bw h;obtain ⟨a5,r5,rfl,h5,h⟩:=Bw h;obtain ⟨a6,r6,rfl,h6,h⟩:=Bw h;obtain ⟨a7,r7,rfl,h7,h⟩:=Bw h;obtain ⟨a8,r8,rfl,h8,h⟩:=Bw h;obtain ⟨a9,r9,rfl,h9,h⟩:=Bw h;obtain ⟨a10,r10,rfl,h10,h⟩:=Bw h;obtain rfl:=Hy h;obtain ⟨b0,s0,rfl,g0,g⟩:=Bw (Nl h0);obtain ⟨b1,s1,rfl,g1,g⟩:=Bw g;obtain ⟨b2,s2,rfl,g2,g⟩:=Bw g;obtain rfl:=Hy g;obtain ⟨v6,rfl⟩:=L5 g0;obtain ⟨hi,rfl,k1⟩:=Pg g1;obtain ⟨lo,rfl,k2⟩:=Pg g2;obtain ⟨x1,rfl,k3⟩:=Ss h1;obtain ⟨x2,rfl,k4⟩:=Ss h2;obtain ⟨x3,rfl,k5⟩:=Ss h3;obtain ⟨x4,rfl,k6⟩:=Ds h4;obtain ⟨x5,rfl,k7⟩:=Ds h5;obtain ⟨x6,rfl,k8⟩:=Ds h6;obtain ⟨x7,rfl,k9⟩:=Ds h7;obtain ⟨x8,rfl,k10⟩:=Ds h8;obtain ⟨x9,rfl,k11⟩:=Ds h9;obtain ⟨x10,rfl,k12⟩:=Pg h10;exact ⟨⟨v6,hi,lo,x1,x2,x3,x4,x5,x6,x7,x8,x9,x10⟩,⟨k1,k2,k3,k4,k5,k6,k7,k8,k9,k10,k11,k12⟩,rfl⟩
theorem vq {cs:List PV} (h:Kv.okC cs):∃r:Rec,r.wf∧cs=r.cells:=by obtain ⟨a0,r0,rfl,h0,h⟩:=Bw (Nl h);obtain ⟨a1,r1,rfl,h1,h⟩:=Bw h;obtain ⟨a2,r2,rfl,h2,h⟩:=Bw h;obtain ⟨a3,r3,rfl,h3,h⟩:=Bw h;obtain rfl:=Hy h;obtain ⟨x0,rfl,k0⟩:=Ss h0;obtain ⟨x1,rfl,k1⟩:=Ds h1;obtain ⟨x2,rfl,k2⟩:=Ds h2;obtain ⟨d,k3,rfl⟩:=vv h3;exact ⟨⟨x0,x1,x2,d⟩,⟨k0,k1,k2,k3⟩,by simp [Rec.cells]⟩
theorem Pf {cs:List PV} (h:Nj.okC cs):∃l:List Rec,Pv l∧cs=[Bq l]:=by
 have h':∃xs,cs=[.l Kv.size xs]∧xs.length≤maxLen∧∀x,x∈xs→if Kv.agg then∃ds,x= .a ds∧Kv.okC ds else x.scal=true∧Kv.okC [x]:=by unfold Nj at h;simpa only [Sh.okC] using h
 obtain ⟨xs,rfl,hl,hx⟩:=h';have go:∀xs:List PV,(∀x,x∈xs→if Kv.agg then∃ds,x= .a ds∧Kv.okC ds else x.scal=true∧Kv.okC [x])→∃l:List Rec,(∀r∈l,r.wf)∧xs=l.map Rec.pv:=by
  intro xs
  induction xs with
  |nil=>exact fun _=>⟨[],fun r h=>(by cases h),rfl⟩
  |cons x xs ih=>
   intro hx;obtain ⟨l,h1,rfl⟩:=ih (fun y hy=>hx y (G2 _ hy));have:=hx x (Fb ..);obtain ⟨ds,rfl,hd⟩:∃ds,x= .a ds∧Kv.okC ds:=this;obtain ⟨r,hr,rfl⟩:=vq hd;refine ⟨r::l,fun y hy=> ?_,rfl⟩;rcases Cd.1 hy with rfl|hy
   ·exact hr
   ·exact h1 y hy
 obtain ⟨l,h1,rfl⟩:=go xs hx;exact ⟨l,⟨by simpa [maxLen] using hl,h1⟩,rfl⟩
theorem ox {p:PV} (h:Sh.s.ok p):∃x,Ig x∧p= .s x:=by have h':p.scal=true∧Sh.s.okC [p]:=h;obtain ⟨x,hx,hs⟩:=Ss h'.2;injection hx with hx;exact ⟨x,hs,hx⟩
theorem Qt {h0:Sh} {hs:List Sh}:∀{qs:List PV},Oks (h0::hs) qs→∃p q,qs=p::q∧h0.ok p∧Oks hs q
 |[],h=>by cases h
 |p::q,h=>⟨p,q,rfl,h.1,h.2⟩
theorem ov:∀{qs:List PV},Oks [] qs→qs=[]
 |[],_=>rfl
 |_::_,h=>by cases h
end Go.X
