/- The program's data out of the readings. -/
import Derived.Test.YtjjbngkgndckcaaGreatDoorValidateWorstG8
set_option maxHeartbeats 1000000
set_option linter.defProp false
set_option linter.unusedVariables false
set_option linter.unusedSimpArgs false
namespace Go.X
open Go
def kw {cs:List PV} (h:(Sh.i .i64).okC cs):∃x,cs=[.i .i64 x]∧Nc x:=by simp only[Sh.okC] at h;exact h
def Qq {p:PV} (h:(Sh.i .i64).ok p):∃x,Nc x∧p= .i .i64 x:=by have h':p.scal=true∧(Sh.i .i64).okC [p]:=h;obtain⟨x,hx,hs⟩:=kw h'.2;injection hx with hx;exact⟨x,hs,hx⟩
def Mt {h0:Sh} {hs:List Sh}:∀{qs:List PV},Oks (h0::hs) qs->∃p q,qs=p::q∧h0.ok p∧Oks hs q
 |[],h=>by cases h
 |p::q,h=>⟨p,q,rfl,h.1,h.2⟩
def kv:∀{qs:List PV},Oks [] qs->qs=[]
 |[],_=>rfl
 |_::_,h=>by cases h
end Go.X
