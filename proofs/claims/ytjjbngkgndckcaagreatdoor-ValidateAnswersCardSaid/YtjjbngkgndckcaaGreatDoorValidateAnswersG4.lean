/- slices.SortFunc, by the library's contract: what is turned is the sorted list. -/
import Derived.Test.YtjjbngkgndckcaaGreatDoorValidateAnswersG2
import Derived.Shelf.SlSortCmp.NoneTotal
open Array renaming getElem?_append_left->Em
set_option maxHeartbeats 1000000
set_option linter.defProp false
set_option linter.unusedVariables false
set_option linter.unusedSimpArgs false
namespace Go.X
open Go Go.RowKit
def scl:PV->Bool
 | .b _| .i _ _| .s _=>true
 |_=>false
def Is4 (agg:Bool) (sz:Nat):PV->Bool
 | .a cs=>agg && cs.length==sz && cs.all scl
 |p=> !agg && sz==1 && scl p
def iz (fn:Fns) (g:Nat) (caps:List PV) (x y:PV):Int:=match fn g 2 (x::y::caps) with
 |some [.i .i64 n]=>n
 |_=>0
structure SortFit (fn:Fns) (g:Nat) (caps xs:List PV):Prop where
 ans:∀x∈xs,∀y∈xs,fn g 2 (x::y::caps)=some [.i .i64 (iz fn g caps x y)]
 irr:∀x∈xs,¬iz fn g caps x x<0
 tr:∀x∈xs,∀y∈xs,∀z∈xs,iz fn g caps x y<0->iz fn g caps y z<0->iz fn g caps x z<0
 ntr:∀x∈xs,∀y∈xs,∀z∈xs,¬iz fn g caps x y<0->¬iz fn g caps y z<0->¬iz fn g caps x z<0
 tot:∀x∈xs,∀y∈xs,¬iz fn g caps x y<0->¬iz fn g caps y x<0->x=y
def Ir8 (fn:Fns) (g:Nat) (caps:List PV) (x y:PV):Bool:= !decide (iz fn g caps y x<0)
def Gx1 {fn fn':Fns} (hf:Fle fn fn') {g:Nat} {caps:List PV} {x y:PV} {n:Int} (h:fn g 2 (x::y::caps)=some [.i .i64 n]):iz fn' g caps x y=n∧iz fn g caps x y=n:=by unfold iz;rw[h,hf _ _ _ _ h];exact⟨rfl,rfl⟩
def SortFit.le {fn fn':Fns} (hf:Fle fn fn') {g:Nat} {caps xs:List PV} (h:SortFit fn g caps xs):SortFit fn' g caps xs∧∀x∈xs,∀y∈xs,iz fn' g caps x y=iz fn g caps x y:=by
 have e:∀x∈xs,∀y∈xs,iz fn' g caps x y=iz fn g caps x y:=fun x hx y hy=>(Gx1 hf (h.ans x hx y hy)).1;refine⟨⟨fun x hx y hy=> ?_,fun x hx=> ?_,fun x hx y hy z hz=> ?_,fun x hx y hy z hz=> ?_,fun x hx y hy=> ?_⟩,e⟩
 .rw[e x hx y hy];exact hf _ _ _ _ (h.ans x hx y hy)
 .rw[e x hx x hx];exact h.irr x hx
 .rw[e x hx y hy,e y hy z hz,e x hx z hz];exact h.tr x hx y hy z hz
 .rw[e x hx y hy,e y hy z hz,e x hx z hz];exact h.ntr x hx y hy z hz
 .rw[e x hx y hy,e y hy x hx];exact h.tot x hx y hy
structure SK where
 agg:Bool
 e:Nat
 sz:Nat
 gs:List Nat
open Classical in
noncomputable def SK.run (s:SK) (fn:Fns) (n:Nat):List PV->Option (List PV)
 |[.l sz xs,.f g caps]=>if n=TAG+2∧sz=s.sz∧g∈s.gs∧xs.length<4611686018427387904∧(∀x∈xs,Is4 s.agg s.sz x=true)∧SortFit fn g caps xs then some [.l sz (xs.mergeSort (Ir8 fn g caps))] else none
 |_=>none
def Eg8 (P:Program) (f sz:Nat) (agg:Bool):Prop:=
 (∀(p:Option Addr) (cap:Nat) (fv:Value) (w:World),Calls P f #[.slice p 0 cap,fv] w fun e w'=>e= .returned (.tuple #[])∧w'=w)∧
 match agg with
 |false=>sz=1∧∀{D:Type} [Inhabited D] (enc:D->Value) (_:Proofs.OneCell enc) (cf:D->D->Int) (_:Sort.SWO (Proofs.ltOf cf)) (g:Nat) (cb:Array Value) (blk off cap:Nat) (d:Array D) (w:World)
   (_:∀args w,(callFunc g args).run P w= .ok (.enter g args) w) (_:Proofs.CmpLays1 P g cb enc cf blk off d.size w) (_:Sort.Holds enc w blk off d) (_:blk<w.heap.size) (_:d.size<4611686018427387904) (_:∀x y,(Proofs.ltOf cf) x y=false->(Proofs.ltOf cf) y x=false->x=y),
   Calls P f #[.slice (some ⟨blk,off,none⟩) d.size cap,.func (.func g) #[] cb] w fun e w'=>
    e= .returned (.tuple #[])∧∃n os,w'=Proofs.sortWorld enc w blk off n (d.toList.mergeSort fun x y=> !(Proofs.ltOf cf) y x).toArray os
 |true=>∀{D:Type} [Inhabited D] (enc:D->List Value) (_:∀x,(enc x).length=sz) (_:∀x,∀v∈enc x,v.oneCell'=true) (cf:D->D->Int) (_:Sort.SWO (Proofs.ltOf cf)) (g:Nat) (cb:Array Value) (blk off cap:Nat) (d:Array D) (w:World)
   (_:∀args w,(callFunc g args).run P w= .ok (.enter g args) w) (_:Proofs.CmpLays P g cb enc sz cf blk off d.size w) (_:Sort.HoldsK enc sz w blk off d) (_:blk<w.heap.size) (_:d.size<4611686018427387904) (_:∀x y,(Proofs.ltOf cf) x y=false->(Proofs.ltOf cf) y x=false->x=y),
   Calls P f #[.slice (some ⟨blk,off,none⟩) d.size cap,.func (.func g) #[] cb] w fun e w'=>
    e= .returned (.tuple #[])∧∃n os,w'=Proofs.sortWorldK enc sz w blk off n (d.toList.mergeSort fun x y=> !(Proofs.ltOf cf) y x).toArray os
def Dh4 (P : Program) (f : Nat) : Prop := ∃ fn, P.funcs[f]? = some fn ∧ (fn.name == "runtime.NumGoroutine") = false ∧ fn.body.isSome = true
structure SOK (P:Program) (sig:Nat->Option Nat) (f:Nat) (s:SK):Prop where
 sig:g8 (sig f)=some (s.e,false)
 size:Cj P s.e=s.sz
 says:Eg8 P f s.sz s.agg
 body:Dh4 P f
 gs:∀g∈s.gs,Dh4 P g
section
variable {w:World} {O:Nat->Option Nat} {g m:Nat} {Bc:Array Value} {os:Array Obj}
end
def Blw.grow {w w':World} (h:Blw w.heap.size w w'):∃q os',w'=Sort.grow (w.drewN q) os':=by
 obtain⟨h1,h2,h3,h4,h5,h6⟩:=h;refine⟨w'.drawn - w.drawn,w'.heap.extract w.heap.size w'.heap.size,?_⟩;have hh:w'.heap=w.heap++w'.heap.extract w.heap.size w'.heap.size:=by
  apply Array.ext_getElem?;intro k;by_cases hk:k<w.heap.size
  .rw[Em hk,h6 k hk]
  .rw[Array.getElem?_append_right (by omega),Array.getElem?_extract];by_cases hk2:k<w'.heap.size
   .rw[if_pos (by omega)];congr 1;omega
   .rw[if_neg (by omega),Array.getElem?_eq_none (by omega)]
 obtain⟨a1,a2,a3,a4,a5⟩:=w';obtain⟨b1,b2,b3,b4,b5⟩:=w;simp only at h1 h2 h3 h4 hh;subst h1;subst h2;subst h3;simp only[Sort.grow,World.drewN,World.mk.injEq];refine⟨hh,trivial,by omega,trivial,trivial⟩
section
variable {P:Program} {sig:Nat->Option Nat} {fn:Fns}
end
section
variable {P:Program} {sig:Nat->Option Nat} {fn:Fns}
end
end Go.X
