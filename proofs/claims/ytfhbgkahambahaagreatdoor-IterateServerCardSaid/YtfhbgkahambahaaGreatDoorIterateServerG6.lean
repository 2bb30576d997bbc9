/- slices.SortFunc, by the library's contract: what is turned is the sorted list. -/
import Derived.Test.YtfhbgkahambahaaGreatDoorIterateServerG4
import Derived.Shelf.SlSortCmp.NoneTotal
open Array renaming getElem?_eq_some_iff→Dd,getElem?_append_left→D4,getElem?_eq_getElem→Er,getElem?_modify→Hf,getElem?_map→c6
open Bool renaming and_eq_true→Br
open List renaming getElem?_eq_some_iff→Bp,getElem?_eq_getElem→B3,mem_cons→Ck,mem_of_getElem?→Cc,all_eq_true→C1,eq_nil_of_length_eq_zero→C5,getElem?_map→C6,getElem?_cons_zero→Dc,mem_map→E2,exists_mem_of_ne_nil→G7,getElem_take→Ax1,map_mergeSort→Hr2
open Nat renaming le_refl→B7,mul_le_mul_right→C3,add_mul→Ds,add_zero→E1,mod_eq_of_lt→Fz,zero_add→Fs,mul_comm→Ft,one_mul→Gl,le_max_right→M6,mul_add_mod→Qj,le_max_left→Qk,mul_one→Bm8,add_comm→Dm7
open Option renaming map_eq_some_iff→Bs,map_some→Cb
open Option.some renaming injEq→Bn
set_option maxHeartbeats 1000000
set_option linter.defProp false
set_option linter.unusedVariables false
set_option linter.unusedSimpArgs false
namespace Go.X
open Go Go.RowKit
def scl:PV→Bool
 | .b _| .i _ _| .s _=>true
 |_=>false
def vl:PV→Value
 | .b x=> .bool x
 | .i k n=> .int k n
 | .s x=> .string ⟨x.toArray⟩
 |_=>undef
def Rep.vl {M:Vw} {p:PV} {v:Value} (h:Rep M p v) (hp:scl p=true):v=vl p:=by
 cases h with
 |b x=>rfl
 |i k n=>rfl
 |s x y h=>
  subst h;obtain⟨⟨l⟩⟩:=y;rfl
 |_=>simp[scl] at hp
def Cv0 {M:Vw} {p:PV} (hp:scl p=true):Rep M p (Go.X.vl p):=by
 cases p with
 |b x=>exact .b x
 |i k n=>exact .i k n
 |s x=>exact .s x _ rfl
 |_=>simp[scl] at hp
def Ah6 {p:PV} (hp:scl p=true):One (Go.X.vl p):=by cases p<;>first|rfl|simp[scl] at hp
def kj (agg:Bool) (sz:Nat):PV→Bool
 | .a cs=>agg && cs.length==sz && cs.all scl
 |p=> !agg && sz==1 && scl p
def Bf3 (p:PV):List Value:=p.cells.map vl
def Gj6:PV→Value
 | .a cs=> .agg (cs.map vl).toArray
 |p=>vl p
def Mn {agg:Bool} {sz:Nat} {p:PV} (h:kj agg sz p=true):p.cells.length=sz∧∀c∈p.cells,scl c=true:=by
 cases p with
 |a cs=>
  simp only[kj,Br,beq_iff_eq,C1] at h;exact⟨h.1.2,h.2⟩
 |b x|i k n|s x=>
  simp only[kj,Br,beq_iff_eq] at h;exact⟨by rw[PV.scal_cells rfl];simp[h.1.2],by rw[PV.scal_cells rfl];simp[scl]⟩
 |_=>simp[kj,scl] at h
def Vk {M:Vw} {agg:Bool} {sz:Nat} {p:PV} (h:kj agg sz p=true):Rep M p (Gj6 p):=by
 cases p with
 |a cs=>
  obtain⟨_,h2⟩:=Mn h;refine .a cs _ (by simp) (fun v hv=> ?_) (fun j c v hc hv=> ?_)
  ·simp only[E2] at hv;obtain⟨c,hc,rfl⟩:=hv;exact Ah6 (h2 c hc)
  ·simp only[List.getElem?_toArray,C6,hc,Cb,Bn] at hv;subst hv;exact Cv0 (h2 c (Cc hc))
 |b x|i k n|s x=>exact Cv0 rfl
 |_=>simp[kj,scl] at h
def Pv (fn:Fns) (g:Nat) (caps:List PV) (x y:PV):Int:=match fn g 2 (x::y::caps) with
 |some [.i .i64 n]=>n
 |_=>0
structure SortFit (fn:Fns) (g:Nat) (caps xs:List PV):Prop where
 ans:∀x∈xs,∀y∈xs,fn g 2 (x::y::caps)=some [.i .i64 (Pv fn g caps x y)]
 irr:∀x∈xs,¬Pv fn g caps x x<0
 tr:∀x∈xs,∀y∈xs,∀z∈xs,Pv fn g caps x y<0→Pv fn g caps y z<0→Pv fn g caps x z<0
 ntr:∀x∈xs,∀y∈xs,∀z∈xs,¬Pv fn g caps x y<0→¬Pv fn g caps y z<0→¬Pv fn g caps x z<0
 tot:∀x∈xs,∀y∈xs,¬Pv fn g caps x y<0→¬Pv fn g caps y x<0→x=y
def Eh3 (fn:Fns) (g:Nat) (caps:List PV) (x y:PV):Bool:= !decide (Pv fn g caps y x<0)
def Gv0 {fn fn':Fns} (hf:Fle fn fn') {g:Nat} {caps:List PV} {x y:PV} {n:Int} (h:fn g 2 (x::y::caps)=some [.i .i64 n]):Pv fn' g caps x y=n∧Pv fn g caps x y=n:=by unfold Pv;rw[h,hf _ _ _ _ h];exact⟨rfl,rfl⟩
def SortFit.le {fn fn':Fns} (hf:Fle fn fn') {g:Nat} {caps xs:List PV} (h:SortFit fn g caps xs):SortFit fn' g caps xs∧∀x∈xs,∀y∈xs,Pv fn' g caps x y=Pv fn g caps x y:=by
 have e:∀x∈xs,∀y∈xs,Pv fn' g caps x y=Pv fn g caps x y:=fun x hx y hy=>(Gv0 hf (h.ans x hx y hy)).1;refine⟨⟨fun x hx y hy=> ?_,fun x hx=> ?_,fun x hx y hy z hz=> ?_,fun x hx y hy z hz=> ?_,fun x hx y hy=> ?_⟩,e⟩
 ·rw[e x hx y hy];exact hf _ _ _ _ (h.ans x hx y hy)
 ·rw[e x hx x hx];exact h.irr x hx
 ·rw[e x hx y hy,e y hy z hz,e x hx z hz];exact h.tr x hx y hy z hz
 ·rw[e x hx y hy,e y hy z hz,e x hx z hz];exact h.ntr x hx y hy z hz
 ·rw[e x hx y hy,e y hy x hx];exact h.tot x hx y hy
structure SK where
 agg:Bool
 e:Nat
 sz:Nat
 gs:List Nat
open Classical in
noncomputable def SK.run (s:SK) (fn:Fns) (n:Nat):List PV→Option (List PV)
 |[.l sz xs,.f g caps]=>if n=TAG+2∧sz=s.sz∧g∈s.gs∧xs.length<4611686018427387904∧(∀x∈xs,kj s.agg s.sz x=true)∧SortFit fn g caps xs then some [.l sz (xs.mergeSort (Eh3 fn g caps))] else none
 |_=>none
def SK.run_some {s:SK} {fn:Fns} {n:Nat} {vs rs:List PV} (h:s.run fn n vs=some rs):∃xs g caps,vs=[.l s.sz xs,.f g caps]∧n=TAG+2∧g∈s.gs∧xs.length<4611686018427387904∧(∀x∈xs,kj s.agg s.sz x=true)∧SortFit fn g caps xs∧rs=[.l s.sz (xs.mergeSort (Eh3 fn g caps))]:=by
 unfold SK.run at h;split at h
 ·rename_i sz xs g caps;split at h
  ·rename_i hc;obtain⟨h1,rfl,h3,h4,h5,h6⟩:=hc;injection h with h;exact⟨xs,g,caps,rfl,h1,h3,h4,h5,h6,h.symm⟩
  ·cases h
 ·cases h
def SK.run_mk {s:SK} {fn:Fns} {xs caps:List PV} {g:Nat} (h3:g∈s.gs) (h4:xs.length<4611686018427387904) (h5:∀x∈xs,kj s.agg s.sz x=true) (h6:SortFit fn g caps xs):
  s.run fn (TAG+2) [.l s.sz xs,.f g caps]=some [.l s.sz (xs.mergeSort (Eh3 fn g caps))]:=by
 simp only[SK.run];rw[if_pos ⟨rfl,rfl,h3,h4,h5,h6⟩]
def Ly {α:Type} {r r':α→α→Bool} {l:List α} (h:∀a∈l,∀b∈l,r a b=r' a b):l.mergeSort r=l.mergeSort r':=by have:=Hr2 (r:=r) (s:=r') (f:=id) (l:=l) h;simpa using this
def lkS:List (Nat×SK)→Nat→Option SK
 |[],_=>none
 |(k,t)::r,f=>if k=f then some t else lkS r f
noncomputable def H2 (xs:List (Nat×XK)) (ss:List (Nat×SK)):Fns→Fns:=fun fn f n args=>match lkS ss f with
 |some s=>s.run fn n args
 |none=>Dv8 xs fn f n args
def Pn (xs:List (Nat×XK)) (ss:List (Nat×SK)):J3 (H2 xs ss):=by
 intro fn fn' hf f n vs rs h;unfold H2 at h ⊢;split at h
 ·rename_i s hs;obtain⟨xs,g,caps,rfl,rfl,h3,h4,h5,h6,rfl⟩:=SK.run_some h;obtain⟨h7,h8⟩:=h6.le hf;rw[SK.run_mk h3 h4 h5 h7];congr 3;refine Ly fun a ha b hb=> ?_;unfold Eh3;rw[h8 b hb a ha]
 ·rename_i hs;exact Bf2 xs fn fn' hf f n vs rs h
def j5 (P:Program) (f sz:Nat) (agg:Bool):Prop:=
 (∀(p:Option Addr) (cap:Nat) (fv:Value) (w:World),Calls P f #[.slice p 0 cap,fv] w fun e w'=>e= .returned (.tuple #[])∧w'=w)∧
 match agg with
 |false=>sz=1∧∀{α:Type} [Inhabited α] (enc:α→Value) (_:Proofs.OneCell enc) (cf:α→α→Int) (_:Sort.SWO (Proofs.ltOf cf)) (g:Nat) (cb:Array Value) (blk off cap:Nat) (d:Array α) (w:World)
   (_:∀args w,(callFunc g args).run P w= .ok (.enter g args) w) (_:Proofs.CmpLays1 P g cb enc cf blk off d.size w) (_:Sort.Holds enc w blk off d) (_:blk<w.heap.size) (_:d.size<4611686018427387904) (_:∀x y,(Proofs.ltOf cf) x y=false→(Proofs.ltOf cf) y x=false→x=y),
   Calls P f #[.slice (some ⟨blk,off,none⟩) d.size cap,.func (.func g) #[] cb] w fun e w'=>
    e= .returned (.tuple #[])∧∃n os,w'=Proofs.sortWorld enc w blk off n (d.toList.mergeSort fun x y=> !(Proofs.ltOf cf) y x).toArray os
 |true=>∀{α:Type} [Inhabited α] (enc:α→List Value) (_:∀x,(enc x).length=sz) (_:∀x,∀v∈enc x,v.oneCell'=true) (cf:α→α→Int) (_:Sort.SWO (Proofs.ltOf cf)) (g:Nat) (cb:Array Value) (blk off cap:Nat) (d:Array α) (w:World)
   (_:∀args w,(callFunc g args).run P w= .ok (.enter g args) w) (_:Proofs.CmpLays P g cb enc sz cf blk off d.size w) (_:Sort.HoldsK enc sz w blk off d) (_:blk<w.heap.size) (_:d.size<4611686018427387904) (_:∀x y,(Proofs.ltOf cf) x y=false→(Proofs.ltOf cf) y x=false→x=y),
   Calls P f #[.slice (some ⟨blk,off,none⟩) d.size cap,.func (.func g) #[] cb] w fun e w'=>
    e= .returned (.tuple #[])∧∃n os,w'=Proofs.sortWorldK enc sz w blk off n (d.toList.mergeSort fun x y=> !(Proofs.ltOf cf) y x).toArray os
def X7 (P : Program) (f : Nat) : Prop := ∃ fn, P.funcs[f]? = some fn ∧ (fn.name == "runtime.NumGoroutine") = false ∧ fn.body.isSome = true
structure SOK (P:Program) (sig:Nat→Option Nat) (f:Nat) (s:SK):Prop where
 sig:bj (sig f)=some (s.e,false)
 size:B9 P s.e=s.sz
 says:j5 P f s.sz s.agg
 body:X7 P f
 gs:∀g∈s.gs,X7 P g
def X7.enters {P:Program} {g:Nat} (h:X7 P g) (args:Array Value) (w:World):(callFunc g args).run P w= .ok (.enter g args) w:=by
 obtain⟨fn,hf,hn,hb⟩:=h;have hn' : fn.name ≠ "runtime.NumGoroutine" := by simpa using hn
 have hb':fn.body≠none:=by cases hh:fn.body<;>simp_all
 simp[callFunc,hf,hn',hb']
end Go.X
/- slices.SortFunc: the library's contract keeps the executor's. -/
namespace Go.X
open Go Go.RowKit
section
variable {w:World} {O:Nat→Option Nat} {g m:Nat} {F:Array Value} {os:Array Obj}
abbrev Tj (w:World) (g m:Nat) (F:Array Value) (os:Array Obj):World:=Sort.grow (Sort.putRow id (Sort.ahead w m) g 0 F) os
def Om:(Tj w g m F os).heap.size=w.heap.size+os.size:=by simp[Tj]
def W5 {c:Nat} (hc:c<w.heap.size) (hne:c≠g):(Tj w g m F os).heap[c]? =w.heap[c]? :=by show (Sort.grow (Sort.putRow id (Sort.ahead w m) g 0 F) os).heap[c]? =_;rw[Sort.heap_grow_old _ _ (by simpa using hc)];show (w.heap.modify g _)[c]? =_;rw[Hf,if_neg (fun e=>hne e.symm)]
def Bd2 {cur:Array Value} {e:Nat} {fr:Nat×Nat} (h:w.heap[g]? =some (.cells cur e fr)):(Tj w g m F os).heap[g]? =some (.cells (Sort.putCells id 0 F cur) e fr):=by have hlt:g<w.heap.size:=(Dd.1 h).1;show (Sort.grow (Sort.putRow id (Sort.ahead w m) g 0 F) os).heap[g]? =_;rw[Sort.heap_grow_old _ _ (by simpa using hlt)];show (w.heap.modify g _)[g]? =_;rw[Hf,if_pos rfl,h];rfl
def d8 {F cur:Array Value} (hF:F.size≤cur.size):(Sort.putCells id 0 F cur).size=cur.size∧(Sort.putCells id 0 F cur).toList.take F.size=F.toList:=by
 have hs:(Sort.putCells id 0 F cur).size=cur.size:=by simp[Sort.putCells]
 refine⟨hs,?_⟩;apply List.ext_getElem
 ·simp[hs];omega
 ·intro k h1 h2;have hk:k<F.size:=by simpa using h2
  simp only[Sort.putCells,Ax1,Array.getElem_toList,Array.getElem_mapIdx];rw[if_pos ⟨by omega,by omega⟩];simp[hk]
def Bd1 (hO:O g=some 0):(C7 w O).Le (C7 (Tj w g m F os) O):=by refine H4 (fun c hc hl=>W5 hc fun e=> ?_) (fun c _ lim hl=>⟨lim,hl,B7 _⟩) (fun c _ hn=>hn);subst e;have:=hl 0 hO;omega
def Cs1 {v0:Value} (hv:Dl v0=some g):Bel ⟨w,some v0⟩ (Tj w g m F os):=by
 refine⟨rfl,rfl,rfl,?_,?_,fun k hk hx=>W5 hk fun e=>hx ?_⟩
 ·show w.drawn≤w.drawn+m;omega
 ·rw[Om];exact Nat.le_add_right _ _
 ·subst e;exact hv
def Cs0 {e sz n cap:Nat} {cur:Array Value} (hc:0<cap) (hg:w.heap[g]? =some (.cells cur e (0,0))) (h1:n≤cap) (h2:cap≤maxLen) (h3:cur.size=cap*sz) (hF:F.size=n*sz):
  Own (Tj w g m F os) (fun _=>True) e sz (.slice (some ⟨g,0,none⟩) n cap) n F.toList:=by
 have hle:F.size≤cur.size:=by rw[hF,h3];exact C3 _ h1
 obtain⟨p1,p2⟩:=d8 hle;exact⟨by simpa using hF,.inr ⟨g,cap,_,rfl,hc,trivial,Bd2 hg,h1,h2,by rw[p1];exact h3,by rw[←hF];exact p2⟩⟩
end
def Ep2 {M:Vw} {agg:Bool} {sz:Nat} {ys:List PV} {F:Array Value} (hok:∀y∈ys,kj agg sz y=true) (hget:∀(i:Nat) (y:PV) (j:Nat) (c:PV),ys[i]? =some y→y.cells[j]? =some c→F[i*sz+j]? =some (vl c)):Jr M sz ys F.toList:=by intro i y hy;obtain⟨h1,h2⟩:=Mn (hok y (Cc hy));refine⟨h1,fun j c hc=>⟨vl c,?_,Ah6 (h2 c (Cc hc)),Cv0 (h2 c (Cc hc))⟩⟩;have:=hget i y j c hy hc;simpa using this
def Blw.grow {w w':World} (h:Blw w.heap.size w w'):∃q os',w'=Sort.grow (w.drewN q) os':=by
 obtain⟨h1,h2,h3,h4,h5,h6⟩:=h;refine⟨w'.drawn - w.drawn,w'.heap.extract w.heap.size w'.heap.size,?_⟩;have hh:w'.heap=w.heap++w'.heap.extract w.heap.size w'.heap.size:=by
  apply Array.ext_getElem?;intro k;by_cases hk:k<w.heap.size
  ·rw[D4 hk,h6 k hk]
  ·rw[Array.getElem?_append_right (by omega),Array.getElem?_extract];by_cases hk2:k<w'.heap.size
   ·rw[if_pos (by omega)];congr 1;omega
   ·rw[if_neg (by omega),Array.getElem?_eq_none (by omega)]
 obtain⟨a1,a2,a3,a4,a5⟩:=w';obtain⟨b1,b2,b3,b4,b5⟩:=w;simp only at h1 h2 h3 h4 hh;subst h1;subst h2;subst h3;simp only[Sort.grow,World.drewN,World.mk.injEq];refine⟨hh,trivial,by omega,trivial,trivial⟩
section
variable {P:Program} {sig:Nat→Option Nat} {fn:Fns}
def Ap5 (hC:Contract P sig fn) {g:Nat} (hb:X7 P g) {caps:List PV} {x y:PV} {z:Int} (hans:fn g 2 (x::y::caps)=some [.i .i64 z]) {w:World} {O:Nat→Option Nat} {cb:Array Value}
  (hout:∀c,w.heap.size≤c→O c=none) (hsz:cb.size=caps.length) (hcap:∀(j:Nat) (p:PV) (v:Value),caps[j]? =some p→cb[j]? =some v→Iy (C7 w O) p.cells v)
  {blk m:Nat} {F:Array Value} {os:Array Obj} (hO:O blk=some 0) {vx vy:Value} (hx:∀M,Rep M x vx) (hy:∀M,Rep M y vy):
  Calls P g (#[vx,vy]++cb) (Tj w blk m F os) fun e w'=>e= .returned (.int .i64 z)∧∃q os',w'=Sort.grow ((Tj w blk m F os).drewN q) os':=by
 have hs:=(hC.says g 2 _ _ hans).plain (by simp[TAG]);have hM:(C7 w O).Le (C7 (Tj w blk m F os) O):=Bd1 hO;have hG:Given (Tj w blk m F os) O 2 (x::y::caps) (#[vx,vy]++cb):=by
  refine⟨fun c hc=>hout c (by rw[Om] at hc;omega),by simp[hsz];omega,fun j p v hj hp hv=> ?_,fun j p v hj hp hv=> ?_⟩
  ·match j,hj with
   |0,_=>
    simp at hp;subst hp;rw[D4 (by simp)] at hv;simp at hv;subst hv;exact hx _
   |1,_=>
    simp at hp;subst hp;rw[D4 (by simp)] at hv;simp at hv;subst hv;exact hy _
  ·obtain⟨k,rfl⟩:∃k,j=k+2:=⟨j - 2,by omega⟩;rw[Array.getElem?_append_right (by simp)] at hv;simp at hp hv;exact(hcap k p v hp hv).mono hM
 rcases hs _ O _ hG with⟨v,w',h1,_⟩|⟨w',h1,h2⟩
 ·rw[hb.enters] at h1;cases h1
 ·rw[hb.enters] at h1;injection h1 with _ h1;subst h1;refine h2.mono fun e w'' ⟨v,he,hv⟩=> ?_;obtain⟨b1,O',_,_,b4⟩:=hv.plain (fun c hc=>hout c (by rw[Om] at hc;omega));refine⟨?_,b1.grow⟩;rw[he];have:=Rep.int (show Rep _ (.i .i64 z) v from b4);rw[this]
def Bh6 {s:SK} {w:World} {O:Nat→Option Nat} {g cap m:Nat} {cur F:Array Value} {os:Array Obj} {xs ys:List PV} (hsz:B9 P s.e=s.sz) (hout:∀c,w.heap.size≤c→O c=none) (hO:O g=some 0)
  (hc:0<cap) (hg:w.heap[g]? =some (.cells cur s.e (0,0))) (h1:xs.length≤cap) (h2:cap≤maxLen) (h3:cur.size=cap*s.sz) (hF:F.size=xs.length*s.sz) (hl:ys.length=xs.length) (hel:∀M,Jr M s.sz ys F.toList):
  Bm0 P s.e false (.slice (some ⟨g,0,none⟩) xs.length cap) w O [.l s.sz ys] (.tuple #[]) (Tj w g m F os):=by
 have hb:Dl (.slice (some ⟨g,0,none⟩) xs.length cap)=some g:=by simp only[Dl,if_neg (show¬cap=0 by omega)]
 refine⟨Cs1 hb,O,fun _ _ _=>rfl,fun c hc=>hout c (by rw[Om] at hc;omega),ys,F.toList,by rw[hsz],by rw[hsz];exact hel _,(fun h=>nomatch h),fun _=>⟨rfl,?_,fun g' hg'=> ?_⟩⟩
 ·rw[hsz,hl];exact Cs0 hc hg h1 h2 h3 hF
 ·rw[hb] at hg';injection hg' with hg';subst hg';exact hO
end
end Go.X
/- slices.SortFunc, outside: what it says. -/
namespace Go.X
open Go Go.RowKit
section
variable {P:Program} {sig:Nat→Option Nat} {fn:Fns}
abbrev El (xs:List PV):={p:PV // p∈xs}
def zj {xs:List PV} (le:PV→PV→Bool):((xs.attach.mergeSort fun x y=>le x.1 y.1).map Subtype.val)=xs.mergeSort le:=by have:=Hr2 (r:=fun x y:El xs=>le x.1 y.1) (s:=le) (f:=Subtype.val) (l:=xs.attach) (fun a _ b _=>rfl);rw[this,List.attach_map_subtype_val]
def SortFit.swo {g:Nat} {caps xs:List PV} (h:SortFit fn g caps xs):Sort.SWO (Proofs.ltOf fun x y:El xs=>Pv fn g caps x.1 y.1) where
 irrefl x:=by have:=h.irr x.1 x.2;simp only[Proofs.ltOf,decide_eq_false_iff_not];exact this
 trans x y z h1 h2:=by simp only[Proofs.ltOf,decide_eq_true_eq] at*;exact h.tr _ x.2 _ y.2 _ z.2 h1 h2
 ntrans x y z h1 h2:=by simp only[Proofs.ltOf,decide_eq_false_iff_not] at*;exact h.ntr _ x.2 _ y.2 _ z.2 h1 h2
def SortFit.antisymm {g:Nat} {caps xs:List PV} (h:SortFit fn g caps xs):∀x y:El xs,Proofs.ltOf (fun x y:El xs=>Pv fn g caps x.1 y.1) x y=false→Proofs.ltOf (fun x y:El xs=>Pv fn g caps x.1 y.1) y x=false→x=y:=by intro x y h1 h2;simp only[Proofs.ltOf,decide_eq_false_iff_not] at h1 h2;exact Subtype.ext (h.tot _ x.2 _ y.2 h1 h2)
def Zp {α:Type} [Inhabited α] (enc:α→Value) (w:World) (blk off:Nat) (d:Array α):Sort.putRow enc w blk off d=Sort.putRow id w blk off (d.map enc):=by
 unfold Sort.putRow;congr 1;funext c;unfold Sort.putCells;congr 1;funext k x;simp only[Array.size_map];by_cases h:off≤k∧k<off+d.size
 ·rw[if_pos h,if_pos h];have h2:k - off<d.size:=by omega
  simp[h2]
 ·rw[if_neg h,if_neg h]
def arr_get! (F:Array Value) {k:Nat} (h:k<F.size):F[k]? =some F[k]! :=by simp[h]
def Gg8 {M:Vw} {agg:Bool} {sz:Nat} {xs:List PV} {us:List Value} (hel:Jr M sz xs us) (hok:∀x∈xs,kj agg sz x=true) {i j:Nat} {x c:PV} (hx:xs[i]? =some x) (hc:x.cells[j]? =some c):us[i*sz+j]? =some (vl c):=by obtain⟨u,h1,_,h3⟩:=(hel i x hx).2 j c hc;rw[h1,h3.vl ((Mn (hok x (Cc hx))).2 c (Cc hc))]
def Vb {sz:Nat} {p:PV} (h:kj false sz p=true):sz=1∧scl p=true∧p.cells=[p]∧Gj6 p=vl p:=by
 cases p with
 |b x|i k n|s x=>
  simp only[kj,Br,beq_iff_eq] at h;exact⟨h.1.2,rfl,rfl,rfl⟩
 |a cs=>simp[kj] at h
 |_=>simp[kj,scl] at h
def iw {sz:Nat} {p:PV} (h:kj true sz p=true):Gj6 p= .agg (Bf3 p).toArray∧(Bf3 p).length=sz:=by
 cases p with
 |a cs=>
  have:=(Mn h).1;exact⟨rfl,by simp[Bf3,this]⟩
 |_=>simp[kj,scl] at h
def Cj4 (hC:Contract P sig fn) {f:Nat} {s:SK} (hs:SOK P sig f s) {n:Nat} {vs rs:List PV} (h:s.run fn n vs=some rs):Says P sig f n vs rs:=by
 obtain⟨xs,g,caps,rfl,rfl,hg,hlen,hok,hfit,rfl⟩:=SK.run_some h;refine⟨fun hT=>absurd hT (by simp),fun _=> .inl ⟨s.e,false,hs.sig,fun w O args v0 xs0 us hG=> ?_⟩⟩;have hgb:=hs.gs g hg;obtain⟨out,size,pos,fst,arg,sz0,own,el,shut,val,_⟩:=hG;rw[hs.size] at fst sz0 own el;simp only[Dc,Bn,PV.l.injEq,true_and] at fst;subst fst;obtain⟨fv,hfv⟩:∃fv,args[1]? =some fv:=⟨args[1]'(by rw[size];simp),Er (by rw[size];simp)⟩;have hargs:=U7 (by rw[size];rfl) arg hfv;have hrep:=val 1 (.f g caps) fv (by omega) (by simp) rfl hfv;subst hargs;obtain⟨fn0,hf0,hn0,hb0⟩:=hs.body;refine Il.of_calls hf0 hn0 hb0 ?_;obtain⟨none_,some_⟩:=hs.says;by_cases hx0:xs=[]
 ·subst hx0;obtain⟨p,cap,rfl⟩:∃p cap,v0= .slice p 0 cap:=by
   rcases own.2 with⟨a,rfl,_⟩|⟨g',cap,cur,rfl,_⟩
   ·exact⟨a,0,rfl⟩
   ·exact⟨some ⟨g',0,none⟩,cap,rfl⟩
  refine(none_ p cap fv w).mono fun e w' ⟨he,hw⟩=>⟨_,he,?_⟩;subst hw;refine⟨Bel.refl ⟨w',some (.slice p 0 cap)⟩,O,fun _ _ _=>rfl,out,[],us,by rw[hs.size,List.mergeSort_nil],by rw[hs.size];exact el,(fun h=>nomatch h),fun _=>⟨rfl,by rw[hs.size];exact own,shut⟩⟩
 ·rcases own.2 with⟨a,rfl,h0⟩|⟨g',cap,cur,rfl,hc,_,hg',h1,h2,h3,h4⟩
  ·exact absurd (C5 h0) hx0
  ·have hblk:Dl (.slice (some ⟨g',0,none⟩) xs.length cap)=some g':=by simp only[Dl,if_neg (show¬cap=0 by omega)]
   have hO:=shut g' hblk;have hlt:g'<w.heap.size:=(Dd.1 hg').1;have hfz:∀j,w.frozen? ⟨g',j,none⟩=false:=fun j=>by simp[World.frozen?,hg']
   obtain⟨cv,rfl,hcs,hcap⟩:∃cv:Array Value,fv= .func (.func g) #[] cv∧cv.size=caps.length∧∀(j:Nat) (p:PV) (v:Value),caps[j]? =some p→cv[j]? =some v→Iy (C7 w O) p.cells v:=by
    cases hrep with
    |f _ _ cv ads els q1 q2 q3 q4 q5=>
     refine⟨cv,rfl,q1,fun j p v hp hv=> ?_⟩;have hj:=(Bp.1 hp).1;rw[q2 j hj] at hv;injection hv with hv;subst hv;exact⟨_,els j,rfl,fun k c hk=>q3 j p k c hp hk,fun k c hk=>q4 j p k c hp hk,fun k c hk=>q5 j p k c hp hk⟩
   obtain⟨x0,hx0'⟩:∃x0,x0∈xs:=G7 _ hx0
   haveI:Inhabited (El xs):=⟨⟨x0,hx0'⟩⟩
   have hsize:xs.attach.toArray.size=xs.length:=by simp
   have hcell:∀(i j:Nat) (x c:PV),xs[i]? =some x→x.cells[j]? =some c→w.cell? ⟨g',i*s.sz+j,none⟩=some (vl c):=by
    intro i j x c hx hcx;have hu:=Gg8 el hok hx hcx;have:=own.cells hblk _ _ hu;have hadd:((⟨g',0,none⟩:Addr).add (i*s.sz+j))=⟨g',i*s.sz+j,none⟩:=by unfold Go.Addr.add;split<;>simp_all
    rw[hadd] at this;exact this
   have fin:∀(m:Nat) (os:Array Obj) (F:Array Value) (ys:List PV),ys.Perm xs→F.size=xs.length*s.sz→(∀(i:Nat) (y:PV) (j:Nat) (c:PV),ys[i]? =some y→y.cells[j]? =some c→F[i*s.sz+j]? =some (vl c))→
     Bm0 P s.e false (.slice (some ⟨g',0,none⟩) xs.length cap) w O [.l s.sz ys] (.tuple #[]) (Tj w g' m F os):=fun m os F ys hp hF hget=>
    Bh6 hs.size out hO hc hg' h1 h2 h3 hF hp.length_eq (fun M=>Ep2 (fun y hy=>hok y (hp.subset hy)) hget)
   have hperm:(xs.mergeSort (Eh3 fn g caps)).Perm xs:=List.mergeSort_perm _ _;have hsort:=zj (xs:=xs) (Eh3 fn g caps);have hgetA:∀(i:Nat),i<xs.length→xs[i]? =some (xs.attach.toArray[i]!).1:=fun i hi=>by
    have:i<xs.attach.toArray.size:=by simpa using hi
    rw[getElem!_pos _ i this];simp[hi]
   cases hagg:s.agg with
   |false=>
    rw[hagg] at some_ hok;obtain⟨hsz1,some_⟩:=some_;have:=some_ (fun x:El xs=>Gj6 x.1) (fun x=>by
      show (Gj6 x.1).oneCell'=true;rw[(Vb (hok _ x.2)).2.2.2];exact Ah6 (Vb (hok _ x.2)).2.1) (fun x y=>Pv fn g caps x.1 y.1) hfit.swo g cv g' 0 cap xs.attach.toArray w (hgb.enters) (fun m os dk hdk x y=>by
       have:=Ap5 hC hgb (hfit.ans x.1 x.2 y.1 y.2) (w:=w) (O:=O) (cb:=cv) out hcs hcap (blk:=g') (m:=m) (F:=dk.map fun x:El xs=>Gj6 x.1) (os:=os) hO (fun M=>Vk (hok _ x.2)) (fun M=>Vk (hok _ y.2));unfold Proofs.sortWorld;rw[Zp];exact this) (fun j hj=>by
       have hj':j<xs.length:=by simpa using hj
       refine⟨?_,hfz _⟩;have e1:=hgetA j hj';have e2:=Vb (hok _ (xs.attach.toArray[j]!).2);have:=hcell j 0 _ _ e1 (by rw[e2.2.2.1];rfl);show _=some (Gj6 _);rw[e2.2.2.2];rw[hsz1] at this;simpa using this) hlt (by rw[hsize];exact hlen) hfit.antisymm
    rw[hsize] at this;refine this.mono fun e w' ⟨he,m,os,hw⟩=>⟨_,he,?_⟩;subst hw;unfold Proofs.sortWorld;rw[Zp];refine fin m os _ _ hperm (by simp[hsz1]) (fun i y j c hy hcy=> ?_);have hy2:=Vb (hok y (hperm.subset (Cc hy)));rw[hy2.2.2.1] at hcy;have hj0:j=0:=by cases j with|zero=>rfl|succ j=>simp at hcy
    subst hj0;simp at hcy;subst hcy;rw[←hsort,C6,Bs] at hy;obtain⟨z,hz,rfl⟩:=hy;have hz':(xs.attach.mergeSort fun x y=> !(Proofs.ltOf fun x y:El xs=>Pv fn g caps x.1 y.1) y x)[i]? =some z:=hz;rw[hsz1,Bm8,E1,c6,List.getElem?_toArray,List.toList_toArray,hz',Cb,hy2.2.2.2]
   |true=>
    rw[hagg] at some_ hok;have hk:∀x:El xs,(Bf3 x.1).length=s.sz:=fun x=>(iw (hok _ x.2)).2;have k0:0<s.sz:=sz0;have:=some_ (fun x:El xs=>Bf3 x.1) hk (fun x v hv=>by
      simp only[Bf3,E2] at hv;obtain⟨c,hc1,rfl⟩:=hv;exact Ah6 ((Mn (hok _ x.2)).2 c hc1)) (fun x y=>Pv fn g caps x.1 y.1) hfit.swo g cv g' 0 cap xs.attach.toArray w (hgb.enters) (fun m os dk hdk x y=>by
       have:=Ap5 hC hgb (hfit.ans x.1 x.2 y.1 y.2) (w:=w) (O:=O) (cb:=cv) out hcs hcap (blk:=g') (m:=m) (F:=Sort.flatK (fun x:El xs=>Bf3 x.1) s.sz dk) (os:=os) hO (fun M=>Vk (hok _ x.2)) (fun M=>Vk (hok _ y.2));rw[(iw (hok _ x.2)).1,(iw (hok _ y.2)).1] at this;exact this) (fun t ht=>by
       have ht':t<xs.length*s.sz:=by simpa using ht
       refine⟨?_,hfz _⟩;have hi:t / s.sz<xs.length:=Nat.div_lt_of_lt_mul (by rw[Ft];exact ht');have e1:=hgetA (t / s.sz) hi;have hm:t % s.sz<s.sz:=Nat.mod_lt _ k0;have hl:=(Mn (hok _ (xs.attach.toArray[t / s.sz]!).2)).1;have:=hcell (t / s.sz) (t % s.sz) _ _ e1 (B3 (by rw[hl];exact hm));rw[Fs,Sort.get_flatK _ _ _ _ (by simpa using ht')];rw[Ft,Nat.div_add_mod] at this;rw[this];generalize xs.attach.toArray[t / s.sz]! =z at*;show some _=some ((Bf3 z.1)[t % s.sz]!);rw[getElem!_pos _ _ (by simp[Bf3,hl,hm])];simp[Bf3]) hlt (by rw[hsize];exact hlen) hfit.antisymm
    rw[hsize] at this;refine this.mono fun e w' ⟨he,m,os,hw⟩=>⟨_,he,?_⟩;subst hw;refine fin m os _ _ hperm (by simp) (fun i y j c hy hcy=> ?_);have hyk:=Mn (hok y (hperm.subset (Cc hy)));have hj:j<s.sz:=by rw[←hyk.1];exact(Bp.1 hcy).1
    rw[←hsort,C6,Bs] at hy;obtain⟨z,hz,rfl⟩:=hy;have hz':(xs.attach.mergeSort fun x y=> !(Proofs.ltOf fun x y:El xs=>Pv fn g caps x.1 y.1) y x)[i]? =some z:=hz;have hil:i<xs.length:=by have:=(Bp.1 hz).1;simpa using this
    have hlt2:i*s.sz+j<xs.length*s.sz:=by have h4:(i+1)*s.sz≤xs.length*s.sz:=C3 _ (by omega);rw[Ds,Gl] at h4;omega
    have hlt3:i*s.sz+j<(Sort.flatK (fun x:El xs=>Bf3 x.1) s.sz (xs.attach.toArray.toList.mergeSort fun x y=> !(Proofs.ltOf fun x y:El xs=>Pv fn g caps x.1 y.1) y x).toArray).size:=by simpa using hlt2
    have e1:(i*s.sz+j) / s.sz=i:=by rw[Ft,Nat.mul_add_div k0,Nat.div_eq_of_lt hj,E1]
    have e2:(i*s.sz+j) % s.sz=j:=by rw[Ft,Qj,Fz hj]
    have hget:=Sort.get_flatK (fun x:El xs=>Bf3 x.1) s.sz (xs.attach.toArray.toList.mergeSort fun x y=> !(Proofs.ltOf fun x y:El xs=>Pv fn g caps x.1 y.1) y x).toArray (i*s.sz+j) (by simpa using hlt2);rw[arr_get! _ hlt3,hget,e1,e2];have:((xs.attach.toArray.toList.mergeSort fun x y=> !(Proofs.ltOf fun x y:El xs=>Pv fn g caps x.1 y.1) y x).toArray)[i]! =z:=by rw[List.toList_toArray] at*;have hi2:=(Bp.1 hz').1;have hi3:=(Bp.1 hz').2;simp only[List.getElem!_toArray];rw[getElem!_pos _ i hi2,hi3]
    rw[this];have hj2:j<z.1.cells.length:=(Bp.1 hcy).1;have hj3:=(Bp.1 hcy).2;simp[Bf3,hj2,hj3]
def Hp9 (P:Program) (sig:Nat→Option Nat):List (Nat×SK)→Prop
 |[]=>True
 |p::r=>SOK P sig p.1 p.2∧Hp9 P sig r
def Fq2:∀{ss:List (Nat×SK)} {f:Nat} {s:SK},Hp9 P sig ss→lkS ss f=some s→SOK P sig f s
 |[],_,_,_,h=>by simp[lkS] at h
 |(j,t)::r,f,s,hx,h=>by
  simp only[lkS] at h;split at h
  ·rename_i e;injection h with h;subst h;subst e;exact hx.1
  ·exact Fq2 hx.2 h
def Dv7 {xs:List (Nat×XK)} {ss:List (Nat×SK)} (hx:Hn0 P xs) (hsig:∀f k,lkX xs f=some k→sig f=none) (hss:Hp9 P sig ss) (fn:Fns) (hC:Contract P sig fn):Contract P sig (H2 xs ss fn):=by
 refine⟨fun f n vs rs h=> ?_,hC.bld⟩;unfold H2 at h;split at h
 ·rename_i s hs;exact Cj4 hC (Fq2 hss hs) h
 ·exact(En8 hx hsig fn hC).says f n vs rs h
def dt {tab:Nat→Option FT} {xs:List (Nat×XK)} {ss:List (Nat×SK)} {f:Nat} {k:XK} {args rs:List PV} (ht:tab f=none) (hs:lkS ss f=none) (hk:lkX xs f=some k) (h:k.run args=some rs):sem tab (H2 xs ss) f args.length args=some rs:=by refine(S2 (Pn xs ss)).2 ⟨1,?_⟩;rw[Qq];simp only[ht,H2,hs,Dv8,hk,if_true];exact h
def Ag5 {tab:Nat→Option FT} {xs:List (Nat×XK)} {ss:List (Nat×SK)} {f:Nat} {s:SK} (ht:tab f=none) (hs:lkS ss f=some s) {g:Nat} {caps l:List PV} (hg:g∈s.gs) (hlen:l.length<4611686018427387904) (hok:∀x∈l,kj s.agg s.sz x=true)
  (cf:PV→PV→Int) (hans:∀x∈l,∀y∈l,sem tab (H2 xs ss) g 2 (x::y::caps)=some [.i .i64 (cf x y)])
  (irr:∀x∈l,¬cf x x<0) (tr:∀x∈l,∀y∈l,∀z∈l,cf x y<0→cf y z<0→cf x z<0) (ntr:∀x∈l,∀y∈l,∀z∈l,¬cf x y<0→¬cf y z<0→¬cf x z<0) (tot:∀x∈l,∀y∈l,¬cf x y<0→¬cf y x<0→x=y):
  sem tab (H2 xs ss) f (2+TAG) [.l s.sz l,.f g caps]=some [.l s.sz (l.mergeSort fun x y=> !decide (cf y x<0))]:=by
 have hE:J3 (H2 xs ss):=Pn xs ss;have hcf:∀x∈l,∀y∈l,Pv (sem tab (H2 xs ss)) g caps x y=cf x y:=fun x hx y hy=>by unfold Pv;rw[hans x hx y hy]
 have hf:SortFit (sem tab (H2 xs ss)) g caps l:=⟨fun x hx y hy=>by rw[hcf x hx y hy];exact hans x hx y hy,fun x hx=>by rw[hcf x hx x hx];exact irr x hx,fun x hx y hy z hz=>by rw[hcf x hx y hy,hcf y hy z hz,hcf x hx z hz];exact tr x hx y hy z hz,
  fun x hx y hy z hz=>by rw[hcf x hx y hy,hcf y hy z hz,hcf x hx z hz];exact ntr x hx y hy z hz,fun x hx y hy=>by rw[hcf x hx y hy,hcf y hy x hx];exact tot x hx y hy⟩
 have e:l.mergeSort (Eh3 (sem tab (H2 xs ss)) g caps)=l.mergeSort fun x y=> !decide (cf y x<0):=Ly fun a ha b hb=>by unfold Eh3;rw[hcf b hb a ha]
 rw[←e];have hk:∃k,∀x∈l,∀y∈l,Qq tab (H2 xs ss) k g 2 (x::y::caps)=some [.i .i64 (cf x y)]:=by
  have one:∀x∈l,∃k,∀y∈l,Qq tab (H2 xs ss) k g 2 (x::y::caps)=some [.i .i64 (cf x y)]:=by
   intro x hx;have:∀l':List PV,(∀y∈l',y∈l)→∃k,∀y∈l',Qq tab (H2 xs ss) k g 2 (x::y::caps)=some [.i .i64 (cf x y)]:=by
    intro l'
    induction l' with
    |nil=>intro _;exact⟨0,fun y hy=>by simp at hy⟩
    |cons a r ih=>
     intro hsub;obtain⟨k1,h1⟩:=ih fun y hy=>hsub y (.tail _ hy);obtain⟨k2,h2⟩:=(S2 hE).1 (hans x hx a (hsub a (.head _)));refine⟨max k1 k2,fun y hy=> ?_⟩;rcases Ck.1 hy with rfl|hy
     ·exact Jj hE (M6 _ _) _ _ _ _ h2
     ·exact Jj hE (Qk _ _) _ _ _ _ (h1 y hy)
   exact this l fun y hy=>hy
  have:∀l':List PV,(∀y∈l',y∈l)→∃k,∀x∈l',∀y∈l,Qq tab (H2 xs ss) k g 2 (x::y::caps)=some [.i .i64 (cf x y)]:=by
   intro l'
   induction l' with
   |nil=>intro _;exact⟨0,fun y hy=>by simp at hy⟩
   |cons a r ih=>
    intro hsub;obtain⟨k1,h1⟩:=ih fun y hy=>hsub y (.tail _ hy);obtain⟨k2,h2⟩:=one a (hsub a (.head _));refine⟨max k1 k2,fun x hx y hy=> ?_⟩;rcases Ck.1 hx with rfl|hx
    ·exact Jj hE (M6 _ _) _ _ _ _ (h2 y hy)
    ·exact Jj hE (Qk _ _) _ _ _ _ (h1 x hx y hy)
  exact this l fun y hy=>hy
 obtain⟨k,hk⟩:=hk;refine(S2 hE).2 ⟨k+1,?_⟩;rw[Qq];simp only[ht,H2,hs];have hcfk:∀x∈l,∀y∈l,Pv (Qq tab (H2 xs ss) k) g caps x y=cf x y:=fun x hx y hy=>by unfold Pv;rw[hk x hx y hy]
 have hfk:SortFit (Qq tab (H2 xs ss) k) g caps l:=⟨fun x hx y hy=>by rw[hcfk x hx y hy];exact hk x hx y hy,fun x hx=>by rw[hcfk x hx x hx];exact irr x hx,fun x hx y hy z hz=>by rw[hcfk x hx y hy,hcfk y hy z hz,hcfk x hx z hz];exact tr x hx y hy z hz,
  fun x hx y hy z hz=>by rw[hcfk x hx y hy,hcfk y hy z hz,hcfk x hx z hz];exact ntr x hx y hy z hz,fun x hx y hy=>by rw[hcfk x hx y hy,hcfk y hy x hx];exact tot x hx y hy⟩
 rw[Dm7 2 TAG,SK.run_mk hg hlen hok hfk];congr 3;refine Ly fun a ha b hb=> ?_;unfold Eh3;rw[hcfk b hb a ha,hcf b hb a ha]
end
end Go.X
