/- One operation. -/
import Derived.Test.YteiaijjlmnacpaaGreatDoorZoneSerialsG2
import Derived.Test.YteiaijjlmnacpaaGreatDoorZoneSerialsG0
open Array renaming getD_eq_getD_getElem?→A9,getElem?_eq_some_iff→B3,getElem?_eq_getElem→C9
open Bool renaming and_eq_true→Aq,false_eq_true→Ab,or_eq_true→Am,not_eq_true'→A3,eq_iff_iff→Cf,not_eq_false→Dm,or_eq_false_iff→H9,not_true→J4,false_or→J5,and_true→J6
open List renaming getElem?_eq_some_iff→Ak,getElem?_eq_getElem→Ay,length_append→Az,mem_cons→Ah,append_assoc→Ar,length_cons→As,getElem?_append_right→A5,getElem?_append_left→A8,all_eq_true→Bj,getElem?_take→Bb,length_nil→Bc,getD_eq_getElem?_getD→Bf,mem_append_right→Bh,mem_filter→Bp,mem_append→Br,mem_singleton→B4,mem_append_left→Cb,getElem?_cons_zero→Cc,mem_map→Cs,getElem?_set→C0,map_cons→Ec,mem_range→E5,filter_cons→Hf,length_set→I6,getElem?_eq_none→dz
open Nat renaming le_refl→Ac,add_zero→Dl,zero_add→Ek,sub_self→Cl2
open Option renaming bind_eq_some_iff→Aj,map_eq_some_iff→Aw,bind_some→Ax,map_some→A0,isNone_iff_eq_none→B8,isSome_iff_exists→Cq,getD_some→Cn
set_option maxHeartbeats 1000000
set_option linter.unusedVariables false
set_option linter.unusedSimpArgs false
namespace Go.X
open Go Go.RowKit
section
variable {P:Program} {sig:Nat→Option Nat} {fn:Fns} {w0:Fr} {Oe:Nat→Option Nat} {η:List PV} {σ:St} {a:Act} {tm:Array Value} {w:World} {β:Nat→Nat} {hv:Nat→Value} {O:Nat→Option Nat} {G:Option E} {o:Oper} {ws:List W}
theorem Lw {r:Option (List W×SV)} {v:SV} {ε:Eff} (h:Yt r σ=some (ws,v,ε)):r=some (ws,v)∧ε=Fb σ:=by
 unfold Yt at h
 obtain ⟨⟨a,b⟩,h1,h2⟩:=Aw.1 h
 simp only [Prod.mk.injEq] at h2
 obtain ⟨rfl,rfl,rfl⟩:=h2
 exact ⟨h1,rfl⟩
theorem i6 (hC:Contract P sig fn) {c:Call} {x:Operand} {svs:List SV} {more:List Nat} {r:SV} {ε:Eff} {mk:Option E→Bool→List E→Nat→W} {η1 η2 ζ:List PV} {s:Nat} {r':SV} {ε':Eff} (ho:o.op= .call c) (hc:c.callee= .value x)
  (h:Rel w0 Oe η σ a.tmps w β hv O) (hG:GOk η G) (hargs:args P σ G c.args.toList c.argTypes.toList=some svs) (hcall:Uy P σ G o.type mk svs more=some (ws,r,ε))
  (hmk:∀flat es m,ws=[mk G flat es m]→(mk G flat es m).ev fn η1=some η2→∃vs f caps,E.evs η1 es=some vs∧results flat m η1 (fn f vs.length (vs++caps))=some η2∧
   Fs2 P sig σ.n η o.type s f flat r ε r' ε'∧
   ∀O1,(Bg w O).Le (Bg w O1)→(∀s,s∈more→Kk ⟨η,Bg w O,β,hv,σ.m⟩ O1 s)→Tgt (Bg w O1) f caps (a.eval x))
  (hw:Dx fn η1 ws=some η2) (hη:η=η2++ζ) (hn:η1.length=σ.n):Db P o a w (Fs w0 Oe η σ a.tmps ε' r'):=by
 unfold Uy at hcall
 split at hcall
 ·cases hcall
 ·rename_i es ss hes
  dsimp only at hcall
  split at hcall
  ·cases hcall
  ·rename_i hsm
   split at hcall
   ·cases hcall
   rename_i hlt
   split at hcall
   ·cases hcall
   ·simp only [Option.some.injEq,Prod.mk.injEq] at hcall
    obtain ⟨rfl,rfl,rfl⟩:=hcall
    simp only [Dx,Aj] at hw
    obtain ⟨η3,hw,he⟩:=hw
    injection he with he
    subst he
    obtain ⟨vs,f,caps,k1,k2,k3,k4⟩:=hmk _ _ _ rfl hw
    obtain ⟨rs,q1,q2,q3,q4⟩:=G4 k2
    subst q4
    have hvs:E.evs η es=some vs:=by rw [hη,Ar];exact E.evs_mono _ _ _ _ k1
    have hr:A7 ⟨η,Bg w O,β,hv,σ.m⟩ svs (c.args.map a.eval).toList:=by
     have:=Od (ds:=a.defers) (C:=⟨η,Bg w O,β,hv,σ.m⟩) hG rfl h.tmps hargs
     simpa using this
    refine Fg2 (s:=s) hC (single:=Is P o.type) ho hc h hr hes hvs k4 q1 (by rw [(Oc hvs).1];simpa using hlt) q2 q3 hη hn (fun h1=> ?_) (fun h1=> ?_) (ty:=o.type) (fun h1=> ?_) k3
    ·unfold Is at h1
     unfold Lv
     split at h1
     ·cases h1
     ·rfl
    ·rw [h1] at hsm
     simpa using hsm
    ·unfold Is at h1
     unfold Lv
     split at h1
     ·cases h1
     ·rfl
theorem Dh0 (hC:Contract P sig fn) {own:List Nat} {s:Nat} {r:SV} {ε:Eff} (h:Rel w0 Oe η σ a.tmps w β hv O) (hG:GOk η G) (hx:xop P sig own σ G s o=some (ws,r,ε)) {η1 η2 ζ:List PV} (hw:Dx fn η1 ws=some η2) (hη:η=η2++ζ) (hn:η1.length=σ.n):
  Db P o a w (Fs w0 Oe η σ a.tmps ε r):=by
 have hk:Chk η ws:=fun x hx=>Bc1 hw ⟨ζ,hη⟩ x hx
 unfold xop at hx
 dsimp only at hx
 split at hx
 ·-- move
  rename_i x ho
  obtain ⟨v,hv1,he⟩:=Aw.1 hx
  simp only [Prod.mk.injEq] at he
  obtain ⟨rfl,rfl,rfl⟩:=he
  exact Ar2 (.inl ho) h hG hv1
 ·rename_i x ho
  obtain ⟨v,hv1,he⟩:=Aw.1 hx
  simp only [Prod.mk.injEq] at he
  obtain ⟨rfl,rfl,rfl⟩:=he
  exact Ar2 (.inr ho) h hG hv1
 ·rename_i c x y ho
  split at hx
  ·rename_i ec hc
   split at hx
   ·rename_i ea eb h1 h2
    simp only [Option.some.injEq,Prod.mk.injEq] at hx
    obtain ⟨rfl,rfl,rfl⟩:=hx
    exact Fv5 ho h hG hc h1 h2 hk
   ·cases hx
  ·cases hx
 ·-- alloc
  rename_i t ho
  split at hx
  ·cases hx
  ·obtain ⟨cs,h1,he⟩:=Aj.1 hx
   split at he
   ·rename_i hns
    simp only [Option.some.injEq,Prod.mk.injEq] at he
    obtain ⟨rfl,rfl,rfl⟩:=he
    exact Dx5 ho h h1 hns
   ·cases he
 ·-- box
  rename_i t x ho
  split at hx
  ·cases hx
  ·split at hx
   ·rename_i ws' cs hb
    split at hx
    ·rename_i hns
     simp only [Option.some.injEq,Prod.mk.injEq] at hx
     obtain ⟨rfl,rfl,rfl⟩:=hx
     obtain ⟨sv,h1,h2⟩:=Aj.1 hb
     exact Gh4 ho h hG h1 h2 hns hk
    ·cases hx
   ·cases hx
 ·-- build
  rename_i t parts ho
  split at hx
  ·rename_i zs vs h1 h2
   split at hx
   ·rename_i ws' cs hf
    split at hx
    ·rename_i hc
     simp only [Option.some.injEq,Prod.mk.injEq] at hx
     obtain ⟨rfl,rfl,rfl⟩:=hx
     simp only [Aq] at hc
     exact Dx4 ho h hG h1 h2 hf hc.2 hk (by split<;>simp)
    ·cases hx
   ·cases hx
  ·cases hx
 ·-- buildSlice
  rename_i t len parts ho
  split at hx
  ·rename_i e vs h1 h2
   split at hx
   ·cases hx
   ·rename_i hc
    simp only [Am,not_or,A3,Dm,bne_iff_ne,ne_eq,Decidable.not_not,decide_eq_true_eq,Bool.not_eq_true,B8,decide_eq_false_iff_not] at hc
    obtain ⟨⟨⟨⟨_,hr⟩,hsm⟩,hsz⟩,hz⟩:=hc
    obtain ⟨zs,hz⟩:=Option.ne_none_iff_exists'.1 (by simpa using hz)
    have ht:P.underlying t=some (.slice e):=by
     unfold G0 at h1
     split at h1
     ·rename_i h;rw [h];injection h1 with h1;rw [h1]
     ·cases h1
    split at hx
    ·rename_i ws' es ss h3 h4
     split at hx
     ·split at hx
      ·simp only [Option.some.injEq,Prod.mk.injEq] at hx
       obtain ⟨rfl,rfl,rfl⟩:=hx
       exact M4 (own:=true) ho ht h hG hz h2 hr (by simpa using hsm) hsz h3 h4 hk (.inr ⟨rfl,rfl,rfl⟩)
      ·cases hx
     ·simp only [Option.some.injEq,Prod.mk.injEq] at hx
      obtain ⟨rfl,rfl,rfl⟩:=hx
      refine M4 (own:=false) (s:=s) ho ht h hG hz h2 hr (by simpa using hsm) hsz h3 h4 (fun x hx=> ?_) (.inl ⟨rfl,rfl,rfl⟩)
      rcases Br.1 hx with hx|hx
      ·exact hk x (Cb _ hx)
      ·simp only [B4,W.chk.injEq] at hx
       subst hx
       exact Chk.g1 (G:=G) (fun y hy=>hk y (Bh _ hy)) hG
    ·cases hx
  ·cases hx
 ·-- load
  rename_i t x ho
  obtain ⟨h1,rfl⟩:=Lw hx
  obtain ⟨p,h2,h3⟩:=Aj.1 h1
  exact Fv7 ho h hG h2 h3 hk
 ·-- store
  rename_i t x y ho
  split at hx
  ·cases hx
  ·split at hx
   ·rename_i p v h1 h2
    obtain ⟨⟨ws',ε'⟩,h3,he⟩:=Aw.1 hx
    simp only [Prod.mk.injEq] at he
    obtain ⟨rfl,rfl,rfl⟩:=he
    exact Dw9 ho h hG h1 h2 h3 hk
   ·cases hx
 ·-- nilCheck
  rename_i x ho
  split at hx
  all_goals first
   |(rename_i h1
     simp only [Option.some.injEq,Prod.mk.injEq] at hx
     obtain ⟨rfl,rfl,rfl⟩:=hx
     first
      |exact Iq ho h hG h1 (.inl ⟨_,rfl,hk⟩)
      |exact Iq ho h hG h1 (.inr (.inl ⟨_,_,rfl⟩))
      |exact Iq ho h hG h1 (.inr (.inr (.inl ⟨_,_,rfl⟩)))
      |exact Iq ho h hG h1 (.inr (.inr (.inr (.inl ⟨_,_,_,rfl⟩))))
      |exact Iq ho h hG h1 (.inr (.inr (.inr (.inr ⟨_,_,rfl⟩)))))
   |cases hx
 ·-- binOp
  rename_i op xt x y yt ho
  split at hx
  ·rename_i ex hnq
   simp only [Option.some.injEq,Prod.mk.injEq] at hx
   obtain ⟨rfl,rfl,rfl⟩:=hx
   split at hnq
   ·rename_i hcond
    obtain ⟨rfl,hte,hnil⟩:=hcond
    obtain ⟨e,hte⟩:=Cq.1 hte
    exact Fv6 ho hte hnil h hG hnq hk
   ·cases hnq
  split at hx
  ·rename_i ex ey h1 h2
   split at hx
   ·rename_i hag
    split at hx
    ·rename_i ts hts
     have hbt:J7 P xt=false→P.underlying xt=some .bool:=by
      intro h0
      rw [h0] at hag
      simp only [J5,Bx7] at hag
      split at hag
      ·assumption
      ·cases hag
     split at hx
     ·split at hx
      ·cases hx
      ·rename_i hg
       simp only [Option.some.injEq,Prod.mk.injEq] at hx
       obtain ⟨rfl,rfl,rfl⟩:=hx
       exact Dm9 (neg:=false) ho rfl rfl hts (by simpa using hg) hbt h hG h1 h2 hk
     ·split at hx
      ·cases hx
      ·rename_i hg
       simp only [Option.some.injEq,Prod.mk.injEq] at hx
       obtain ⟨rfl,rfl,rfl⟩:=hx
       exact Dm9 (neg:=true) ho rfl rfl hts (by simpa using hg) hbt h hG h1 h2 hk
     ·cases hx
    ·cases hx
   ·simp only [Option.some.injEq,Prod.mk.injEq] at hx
    obtain ⟨rfl,rfl,rfl⟩:=hx
    exact Gh6 ho h hG h1 h2 hk
  ·cases hx
 ·-- unOp
  rename_i op t x ho
  obtain ⟨ex,h1,he⟩:=Aw.1 hx
  simp only [Prod.mk.injEq] at he
  obtain ⟨rfl,rfl,rfl⟩:=he
  exact Hs8 ho h hG h1 hk
 ·-- convert
  rename_i src dst x ho
  split at hx
  ·rename_i k' k h1 h2
   obtain ⟨ex,h3,he⟩:=Aw.1 hx
   simp only [Prod.mk.injEq] at he
   obtain ⟨rfl,rfl,rfl⟩:=he
   exact Fv8 ho h1 h2 h hG h3 hk
  ·rename_i h1 h2
   obtain ⟨ex,h3,he⟩:=Aw.1 hx
   simp only [Prod.mk.injEq] at he
   obtain ⟨rfl,rfl,rfl⟩:=he
   exact Dx2 ho h1 h2 h hG h3 hk
  ·rename_i e h1 h2
   split at hx
   ·rename_i hu
    split at hx
    ·cases hx
    ·rename_i hfree
     obtain ⟨ex,h3,he⟩:=Aw.1 hx
     simp only [Prod.mk.injEq] at he
     obtain ⟨rfl,rfl,rfl⟩:=he
     have hu':P.underlying e=some (.int .u8):=by
      unfold zn at hu
      split at hu
      ·assumption
      ·cases hu
     cases G with
     |some g=>simp at hfree
     |none=>exact Gg8 ho h1 h2 hu' h hG h3 hk
   ·cases hx
  ·rename_i e h1 h2
   split at hx
   ·rename_i hu
    split at hx
    ·rename_i ex ss hb
     simp only [Option.some.injEq,Prod.mk.injEq] at hx
     obtain ⟨rfl,rfl,rfl⟩:=hx
     obtain ⟨sv,h3,h4⟩:=Aj.1 hb
     have hu':P.underlying e=some (.int .u8):=by
      unfold zn at hu
      split at hu
      ·assumption
      ·cases hu
     exact Gh7 ho h1 h2 hu' h hG h3 h4 hk
    ·cases hx
   ·cases hx
  ·cases hx
 ·-- makeFunc
  rename_i f first captured ho
  split at hx
  ·rename_i hf
   obtain ⟨cs,h1,he⟩:=Aw.1 hx
   simp only [Prod.mk.injEq] at he
   obtain ⟨rfl,rfl,rfl⟩:=he
   exact ff ho hf h hG h1
  ·cases hx
 ·-- fieldAddr
  rename_i t x f ho
  split at hx
  ·rename_i off ft p h1 h2
   split at hx
   ·cases hx
   ·rename_i hz
    split at hx
    ·simp only [Option.some.injEq,Prod.mk.injEq] at hx
     obtain ⟨rfl,rfl,rfl⟩:=hx
     exact Kg ho h1 hz h hG h2 (.inl ⟨_,_,rfl,rfl⟩)
    ·simp only [Option.some.injEq,Prod.mk.injEq] at hx
     obtain ⟨rfl,rfl,rfl⟩:=hx
     exact Kg ho h1 hz h hG h2 (.inr (.inl ⟨_,_,rfl,rfl⟩))
    ·simp only [Option.some.injEq,Prod.mk.injEq] at hx
     obtain ⟨rfl,rfl,rfl⟩:=hx
     exact Kg ho h1 hz h hG h2 (.inr (.inr ⟨_,_,_,rfl,rfl⟩))
    ·simp only [Option.some.injEq,Prod.mk.injEq] at hx
     obtain ⟨rfl,rfl,rfl⟩:=hx
     exact Sl ho h1 hz h hG h2 hk
    ·cases hx
  ·cases hx
 ·-- field
  rename_i t x f ho
  split at hx
  ·rename_i off ft sv h1 h2
   obtain ⟨h3,rfl⟩:=Lw hx
   exact Dx1 ho h1 h hG h2 h3 hk
  ·cases hx
 ·-- indexAddr
  rename_i t x i ho
  split at hx
  ·rename_i e sv ei h1 h2 h3
   split at hx
   ·split at hx
    ·rename_i e' sz y ro hb
     split at hx
     ·rename_i hsz
      simp only [Option.some.injEq,Prod.mk.injEq] at hx
      obtain ⟨rfl,rfl,rfl⟩:=hx
      exact V0 ho h1 hsz h hG h2 hb h3 hk
     ·cases hx
    ·cases hx
   ·split at hx
    ·rename_i e' sz y ro hb
     split at hx
     ·rename_i hsz
      simp only [Option.some.injEq,Prod.mk.injEq] at hx
      obtain ⟨rfl,rfl,rfl⟩:=hx
      exact Vt ho h1 hsz h hG h2 hb h3 hk
     ·cases hx
    ·cases hx
   ·split at hx
    ·rename_i y hy
     split at hx
     ·cases hx
     ·rename_i hz
      simp only [Option.some.injEq,Prod.mk.injEq] at hx
      obtain ⟨rfl,rfl,rfl⟩:=hx
      exact Y8 ho h1 hz h hG h2 hy h3 hk
    ·cases hx
  ·rename_i n e sv kk k h1 h2 h3
   split at hx
   ·rename_i hb
    split at hx
    ·simp only [Option.some.injEq,Prod.mk.injEq] at hx
     obtain ⟨rfl,rfl,rfl⟩:=hx
     exact J9 ho h1 h hG h2 h3 hb (.inl ⟨_,_,rfl,rfl⟩)
    ·simp only [Option.some.injEq,Prod.mk.injEq] at hx
     obtain ⟨rfl,rfl,rfl⟩:=hx
     exact J9 ho h1 h hG h2 h3 hb (.inr ⟨_,_,rfl,rfl⟩)
    ·cases hx
   ·cases hx
  ·cases hx
 ·-- index
  rename_i t x i ho
  split at hx
  ·rename_i ex ei h1 h2 h3
   simp only [Option.some.injEq,Prod.mk.injEq] at hx
   obtain ⟨rfl,rfl,rfl⟩:=hx
   exact Y6 ho h1 h hG (by simp only [Fv,h2,Ax,SV.asE]) h3 hk
  ·rename_i n e sv kk k h1 h2 h3
   split at hx
   ·rename_i hb
    obtain ⟨h4,rfl⟩:=Lw hx
    exact Y7 ho h1 h hG h2 h3 hb h4 hk
   ·cases hx
  ·cases hx
 ·-- slice
  rename_i t x lo hi mx ho
  split at hx
  ·rename_i s0 h1
   split at h1
   ·exact fc ho h hG h1 hx hk
   ·cases h1
  ·rename_i n y h1
   split at h1
   ·exact O0 ho h hG h1 (.inl rfl) hx hk
   ·cases h1
  ·rename_i n h1
   split at h1
   ·exact O0 ho h hG h1 (.inr ⟨rfl,rfl⟩) hx hk
   ·cases h1
  ·obtain ⟨sv,h1,h2⟩:=Aj.1 hx
   exact Dx0 ho h hG h1 h2 hk
 ·-- extract
  rename_i x i ho
  split at hx
  ·rename_i xs h1
   obtain ⟨v,h2,he⟩:=Aw.1 hx
   simp only [Prod.mk.injEq] at he
   obtain ⟨rfl,rfl,rfl⟩:=he
   exact yp ho h hG h1 h2
  ·cases hx
 ·-- makeSlice
  rename_i t l c ho
  split at hx
  ·cases hx
  ·split at hx
   ·rename_i e n n' h1 h2 h3
    split at hx
    ·cases hx
    ·rename_i hc
     simp only [A3,Dm] at hc
     split at hx
     ·rename_i zs hz
      split at hx
      ·rename_i z hz2
       split at hx
       ·rename_i h0
        simp only [Option.some.injEq,Prod.mk.injEq] at hx
        obtain ⟨rfl,rfl,rfl⟩:=hx
        exact Vs ho h1 h hG h2 h3 h0 hc hz hk
       ·split at hx
        ·cases hx
        ·rename_i hs
         simp only [A3,Dm] at hs
         simp only [Option.some.injEq,Prod.mk.injEq] at hx
         obtain ⟨rfl,rfl,rfl⟩:=hx
         exact Y5 ho h1 h hG h2 h3 hs hc hz hz2 hk
      ·cases hx
     ·cases hx
   ·cases hx
 ·-- makeMap
  rename_i t r0 ho
  split at hx
  ·cases hx
  ·rename_i hc
   simp only [Am,not_or,A3,Dm,Bool.not_eq_true,Option.isSome_eq_false_iff,B8] at hc
   have hr0:r0=none:=by cases r0<;>simp_all
   subst hr0
   simp only [Option.some.injEq,Prod.mk.injEq] at hx
   obtain ⟨rfl,rfl,rfl⟩:=hx
   exact yn ho h
 ·-- lookup
  rename_i t x k ho
  split at hx
  ·rename_i e sv ek h1 h2 h3
   obtain ⟨k',h4,h5⟩:=Yk h1
   split at hx
   ·rename_i em z h6 h7
    simp only [Option.some.injEq,Prod.mk.injEq] at hx
    obtain ⟨rfl,rfl,rfl⟩:=hx
    exact Ar3 ho h4 h5 h hG h2 h6 h3 h7 hk
   ·cases hx
  ·cases hx
 ·-- mapUpdate
  rename_i t x k y ho
  split at hx
  ·cases hx
  ·split at hx
   ·rename_i e s0 ek ey h1 h2 h3 h4
    obtain ⟨k',h5,h6⟩:=Yk h1
    split at hx
    ·rename_i em hb
     simp only [Option.some.injEq,Prod.mk.injEq] at hx
     obtain ⟨rfl,rfl,rfl⟩:=hx
     exact Y4 ho h5 h6 h hG h2 hb h3 h4 hk
    ·cases hx
   ·cases hx
 ·-- call
  rename_i c ho
  split at hx
  ·rename_i hc
   split at hx
   ·rename_i x ha
    split at hx
    ·rename_i t ht
     obtain ⟨h1,rfl⟩:=Lw hx
     obtain ⟨sv,h2,h3⟩:=Aj.1 h1
     exact Gh2 ho hc ha ht h hG h2 h3 hk
    ·cases hx
   ·cases hx
  ·rename_i hc
   split at hx
   ·rename_i x ha
    split at hx
    ·rename_i t ht
     split at hx
     ·rename_i n h1
      obtain ⟨h2,rfl⟩:=Lw hx
      exact Dn0 ho hc ha ht h hG h1 (.inl ⟨_,rfl⟩) h2 hk
     ·rename_i n y h1
      obtain ⟨h2,rfl⟩:=Lw hx
      exact Dn0 ho hc ha ht h hG h1 (.inr ⟨_,_,rfl⟩) h2 hk
     ·cases hx
    ·cases hx
   ·cases hx
  ·rename_i hc
   split at hx
   ·cases hx
   ·split at hx
    ·rename_i d x t t' ha hty
     split at hx
     ·rename_i ht
      subst ht
      split at hx
      ·rename_i sd sx h1 h2
       exact Ar4 ho hc ha hty h hG h1 h2 hx hk
      ·cases hx
     ·split at hx
      ·rename_i sd n e h1 h2 h3
       split at hx
       ·rename_i hu
        split at hx
        ·rename_i zs hz
         split at hx
         ·rename_i ze hze
          exact yr ho hc ha hty h hG h1 h2 h3 hu hz hze hx hk
         ·cases hx
        ·cases hx
       ·cases hx
      ·cases hx
    ·cases hx
  ·rename_i hc
   split at hx
   ·rename_i x y ha
    split at hx
    ·rename_i ex ey h1 h2
     simp only [Option.some.injEq,Prod.mk.injEq] at hx
     obtain ⟨rfl,rfl,rfl⟩:=hx
     exact Gh0 ho hc ha h hG h1 h2 hk
    ·cases hx
   ·cases hx
  ·rename_i hc
   split at hx
   ·rename_i x y ha
    split at hx
    ·rename_i ex ey h1 h2
     simp only [Option.some.injEq,Prod.mk.injEq] at hx
     obtain ⟨rfl,rfl,rfl⟩:=hx
     exact Gh1 ho hc ha h hG h1 h2 hk
    ·cases hx
   ·cases hx
  ·rename_i hc
   split at hx
   ·rename_i x t ha hty
    obtain ⟨sv,h1,h2⟩:=Aj.1 hx
    exact Dx3 ho hc ha hty h hG h1 h2 hk
   ·cases hx
  ·-- a function that is known
   rename_i f hc
   split at hx
   ·rename_i T k hbl
    exact Gh5 hC ho hc hbl h hG hx hk
   split at hx
   ·rename_i e rr hmu
    exact Gg9 hC ho hc hmu h hG hx hw hη hn
   split at hx
   ·rename_i e hfa
    exact Gh3 hC ho hc hfa h hG hx hw hη hn
   split at hx
   ·rename_i ar has
    split at hx
    ·rename_i ws' r1 ε1 hcall
     have tgt:∀(r':SV) (ε':Eff),Fs2 P sig σ.n η o.type s f ((Lv P o.type).all (Dj4 P)) r1 ε1 r' ε'→Dx fn η1 ws'=some η2→Db P o a w (Fs w0 Oe η σ a.tmps ε' r'):=by
      intro r' ε' hmode hw
      have hflat:∀flat es m,ws'=[.call G flat f es m]→flat=(Lv P o.type).all (Dj4 P):=by
       intro flat es m hws
       unfold Uy at hcall
       split at hcall
       ·cases hcall
       ·dsimp only at hcall
        split at hcall
        ·cases hcall
        ·split at hcall
         ·cases hcall
         ·split at hcall
          ·cases hcall
          ·simp only [Option.some.injEq,Prod.mk.injEq] at hcall
           rw [←hcall.1] at hws
           simp only [List.cons.injEq,W.call.injEq,and_true] at hws
           exact hws.2.1.symm
      refine i6 hC (s:=s) ho hc h hG has hcall (fun flat es m hws hm=> ?_) hw hη hn
      simp only [W.ev] at hm
      have hm2:=T8 (ζ:=ζ) (η:=η) hm hη (fun hh=>by
       obtain ⟨vs,_,hh⟩:=Aj.1 hh
       obtain ⟨rs,_,_,_,h4⟩:=G4 hh
       exact ⟨rs,h4⟩) hG
      obtain ⟨vs,hvs,hres⟩:=Aj.1 hm2
      have hfl:=hflat _ _ _ hws
      subst hfl
      exact ⟨vs,f,[],hvs,by simpa using hres,hmode,fun O1 _ _=>Tgt.static _ f⟩
     split at hx
     ·split at hx
      ·rename_i e hrk
       split at hx
       ·rename_i hcond
        simp only [Option.some.injEq,Prod.mk.injEq] at hx
        obtain ⟨rfl,rfl,rfl⟩:=hx
        exact tgt _ _ (.inr (.inl ⟨e,hrk,rfl,rfl⟩)) hw
       ·cases hx
      ·rename_i nl mask hrk
       split at hx
       ·rename_i hcond
        simp only [Aq,A3] at hcond
        simp only [Option.some.injEq,Prod.mk.injEq] at hx
        obtain ⟨rfl,rfl,rfl⟩:=hx
        rw [Ft] at hw
        obtain ⟨η3,hw1,hw2⟩:=Aj.1 hw
        have h32:η3=η2:=by
         have hall:∀(l:List W) (ζ0 ζ1:List PV),(∀x∈l,∃y,x= .chk y)→Dx fn ζ0 l=some ζ1→ζ0=ζ1:=by
          intro l
          induction l with
          |nil=>intro ζ0 ζ1 _ h1;simpa [Dx] using h1
          |cons x l ih=>
           intro ζ0 ζ1 h0 h1
           obtain ⟨y,rfl⟩:=h0 x (.head _)
           simp only [Dx,W.ev,Aj,Aw] at h1
           obtain ⟨ζ2,⟨_,_,rfl⟩,h2⟩:=h1
           exact ih _ _ (fun x hx=>h0 x (.tail _ hx)) h2
         refine hall _ _ _ (fun x hx=> ?_) hw2
         rcases Ah.1 hx with rfl|hx
         ·exact ⟨_,rfl⟩
         ·have:∀(l:List TypeId) (j:Nat),∀x∈Nx P nl σ.n mask j l,∃y,x= .chk y:=by
           intro l
           induction l with
           |nil=>intro j x hx;simp [Nx] at hx
           |cons t l ih=>
            intro j x hx
            simp only [Nx,Br] at hx
            rcases hx with hx|hx
            ·split at hx
             ·simp at hx;exact ⟨_,hx⟩
             ·simp at hx
            ·exact ih _ x hx
          exact this _ _ x hx
        subst h32
        refine tgt _ _ (.inr (.inr ⟨nl,mask,hrk,hcond.2,hcond.1.2,rfl,rfl,hk _ (Bh _ (.head _)),fun y hy=>hk y (Bh _ (.tail _ hy))⟩)) hw1
       ·cases hx
      ·cases hx
     ·simp only [Option.some.injEq,Prod.mk.injEq] at hx
      obtain ⟨rfl,rfl,rfl⟩:=hx
      exact tgt _ _ (.inl ⟨rfl,rfl⟩) hw
    ·cases hx
   ·cases hx
  ·-- a function value
   rename_i t hc
   have cloEv:∀{x:E} {flat:Bool} {es:List E} {m:Nat},(W.clo G flat x es m).ev fn η1=some η2→∃vs f caps,E.evs η1 es=some vs∧x.ev η=some (.f f caps)∧results flat m η1 (fn f vs.length (vs++caps))=some η2:=by
    intro x flat es m hm
    simp only [W.ev] at hm
    have hm2:=T8 (ζ:=ζ) (η:=η) hm hη (fun hh=>by
     obtain ⟨q,_,hh⟩:=Aj.1 hh
     obtain ⟨vs,_,hh⟩:=Aj.1 hh
     split at hh
     ·obtain ⟨rs,_,_,_,h4⟩:=G4 hh
      exact ⟨rs,h4⟩
     ·cases hh) hG
    obtain ⟨q,hq,hh⟩:=Aj.1 hm2
    obtain ⟨vs,hvs,hh⟩:=Aj.1 hh
    cases q with
    |f f caps=>
     obtain ⟨rs,_,_,_,h4⟩:=G4 hh
     refine ⟨vs,f,caps,hvs,?_,hh⟩
     rw [hη,h4,Ar]
     exact E.ev_mono _ _ _ _ hq
    |_=>simp at hh
   split at hx
   ·rename_i x ar h1 has
    have hr:=D8 (ds:=a.defers) (C:=⟨η,Bg w O,β,hv,σ.m⟩) hG rfl h1 h.tmps
    simp only [Ap] at hr
    obtain ⟨p,hp,hpr⟩:=hr
    refine i6 hC (s:=s) ho hc h hG has hx (fun flat es m _ hm=> ?_) hw hη hn
    obtain ⟨vs,f,caps,k1,k2,k3⟩:=cloEv hm
    have hp':x.ev η=some p:=hp
    rw [k2] at hp'
    injection hp' with hp'
    subst hp'
    exact ⟨vs,f,caps,k1,k3, .inl ⟨rfl,rfl⟩,fun O1 hM _=>Tgt.of_rep (hpr.mono hM)⟩
   ·rename_i f0 cs ar h1 has
    split at hx
    ·rename_i x ss hto
     have hr:=D8 (ds:=a.defers) (C:=⟨η,Bg w O,β,hv,σ.m⟩) hG rfl h1 h.tmps
     refine i6 hC (s:=s) ho hc h hG has hx (fun flat es m _ hm=> ?_) hw hη hn
     obtain ⟨vs,f,caps,k1,k2,k3⟩:=cloEv hm
     refine ⟨vs,f,caps,k1,k3, .inl ⟨rfl,rfl⟩,fun O1 hM hop=> ?_⟩
     obtain ⟨p,hp,hpr⟩:=Qc h hM 20 _ _ x ss hto hr hop
     rw [k2] at hp
     injection hp with hp
     subst hp
     exact Tgt.of_rep hpr
    ·cases hx
   ·cases hx
  ·cases hx
 ·cases hx
end
end Go.X
/- One operation with its guard; regions of a fixed order. -/
namespace Go.X
open Go Go.RowKit
theorem Blk.same_eq:∀{x y:Blk},x.same y=true→x=y:=by
 intro x y h
 cases x<;>cases y<;>simp only [Blk.same,Aq,beq_iff_eq,Ab] at h
 ·rw [h.1,SV.sames_eq _ _ h.2]
 ·rw [h.1.1.1,h.1.1.2,h.1.2,E.same_eq _ _ h.2]
 ·rw [h.1,E.same_eq _ _ h.2]
theorem ob:∀{m m':List (Nat×Blk)},et m m'=true→m=m'
 |[],[],_=>rfl
 |[],_::_,h=>by simp [et] at h
 |_::_,[],h=>by simp [et] at h
 |(s,b)::m,(s',b')::m',h=>by
  simp only [et,Aq,beq_iff_eq] at h
  rw [h.1.1,Blk.same_eq h.1.2,ob h.2]
theorem W.ev_len {fn:Fns} {η η':List PV}:∀{x:W},x.ev fn η=some η'→η'.length=η.length+x.cnt:=by
 have res:∀{flat:Bool} {m:Nat} {r:Option (List PV)},results flat m η r=some η'→η'.length=η.length+m:=by
  intro flat m r h
  obtain ⟨rs,_,h2,_,rfl⟩:=G4 h
  rw [Az,h2]
 have gd:∀{m:Nat} {g:Option E} {r:Option (List PV)},E1 η m g r=some η'→(r=some η'→η'.length=η.length+m)→η'.length=η.length+m:=by
  intro m g r h hr
  unfold E1 at h
  split at h
  ·exact hr h
  ·simp only [Aj] at h
   obtain ⟨v,_,h⟩:=h
   split at h
   ·exact hr h
   ·injection h with h;rw [←h];simp
   ·cases h
 intro x h
 cases x with
 |chk x=>
  simp only [W.ev,Aw] at h
  obtain ⟨_,_,rfl⟩:=h
  simp [W.cnt]
 |call g flat f ar m=>
  simp only [W.ev] at h
  refine gd h fun h=> ?_
  simp only [Aj] at h
  obtain ⟨vs,_,h⟩:=h
  exact res h
 |clo g flat c ar m=>
  simp only [W.ev] at h
  refine gd h fun h=> ?_
  simp only [Aj] at h
  obtain ⟨q,_,vs,_,h⟩:=h
  split at h
  ·exact res h
  ·cases h
 |mcall f ar=>
  simp only [W.ev,Aj] at h
  obtain ⟨vs,_,h⟩:=h
  exact res h
theorem Uq {fn:Fns}:∀{ws:List W} {η η':List PV},Dx fn η ws=some η'→η'.length=η.length+wsN ws
 |[],η,η',h=>by simp only [Dx,Option.some.injEq] at h;simp [h,wsN]
 |x::r,η,η',h=>by
  simp only [Dx,Aj] at h
  obtain ⟨η1,h1,h2⟩:=h
  rw [Uq h2,W.ev_len h1]
  simp only [wsN];omega
theorem az {η:List PV}:∀{g:E} {p:PV},g.isB=true→g.ev η=some p→∃b,p= .b b
 | .bin op x y,p,h,he=>by
   simp only [E.ev,Aj] at he
   obtain ⟨a,_,b,_,he⟩:=he
   cases op<;>simp only [E.isB,Ab] at h<;>(
    cases a<;>cases b<;>simp only [X.bin,Fc,Uz] at he<;>first
     |(cases he;done)
     |(split at he<;>first|(injection he with he;exact ⟨_,he.symm⟩)|(cases he;done))
     |(injection he with he;exact ⟨_,he.symm⟩))
 | .un op x,p,h,he=>by
   simp only [E.ev,Aj] at he
   obtain ⟨a,_,he⟩:=he
   cases op<;>simp only [E.isB,Ab] at h
   cases a<;>simp only [X.un] at he<;>first
    |(cases he;done)
    |(injection he with he;exact ⟨_,he.symm⟩)
 | .eqs n g ts x y,p,h,he=>by
   simp only [E.ev,Aj] at he
   obtain ⟨a,_,b,_,he⟩:=he
   unfold Kv at he
   split at he
   ·obtain ⟨r,_,he⟩:=Aw.1 he
    exact ⟨_,he.symm⟩
   ·split at he
    ·obtain ⟨r,_,he⟩:=Aw.1 he
     exact ⟨_,he.symm⟩
    ·cases he
   ·cases he
 | .c (.b b),p,h,he=>by
   simp only [E.ev,Option.some.injEq] at he
   exact ⟨b,he.symm⟩
 | .ite g x y,p,h,he=>by
   simp only [E.isB,Aq] at h
   simp only [E.ev,Aj] at he
   obtain ⟨a,_,he⟩:=he
   split at he
   ·exact az h.1 he
   ·exact az h.2 he
   ·cases he
 | .c .u,p,h,_| .c (.i ..),p,h,_| .c (.s ..),p,h,_| .c (.a ..),p,h,_| .c (.l ..),p,h,_| .c (.f ..),p,h,_| .c (.m ..),p,h,_
 | .v ..,p,h,_| .proj ..,p,h,_| .sub ..,p,h,_| .agg ..,p,h,_| .fit ..,p,h,_| .scal ..,p,h,_| .idx ..,p,h,_| .len ..,p,h,_| .slen ..,p,h,_| .sidx ..,p,h,_| .ssl ..,p,h,_| .lsl ..,p,h,_| .app ..,p,h,_
 | .lit ..,p,h,_| .rep ..,p,h,_| .set ..,p,h,_| .conv ..,p,h,_| .b2s ..,p,h,_| .s2b ..,p,h,_| .clo ..,p,h,_| .mn ..,p,h,_| .mx ..,p,h,_| .mget ..,p,h,_| .mset ..,p,h,_| .der ..,p,h,_| .mkp ..,p,h,_| .c (.pt ..),p,h,_=>by simp [E.isB] at h
section
variable {P:Program} {sig:Nat→Option Nat} {fn:Fns} {w0:Fr} {Oe:Nat→Option Nat} {η:List PV} {σ:St} {a:Act} {tm:Array Value} {w:World} {β:Nat→Nat} {hv:Nat→Value} {O:Nat→Option Nat} {G:Option E} {o:Oper} {ws:List W} {ops:Array Oper}
theorem By0 {j:Nat} {want:Bool} {g:E} {tm:Array Value} {C:Cx} (hg:O7 σ ops j want=some g) (h:A7 C σ.t tm.toList) {b:Bool} (hb:g.ev C.η=some (.b b)):(yielded ops tm j==some want)=b:=by
 unfold O7 at hg
 split at hg
 ·rename_i g0 hd
  injection hg with hg;subst hg
  obtain ⟨t,ht,hs⟩:=Aj.1 hd
  obtain ⟨v,hv1,hv2⟩:=h.get t _ hs
  simp only [Ap] at hv2
  obtain ⟨p,hp,hpr⟩:=hv2
  have hy:((ops[j]?).bind (·.dst)).bind (tm[·]?)=some v:=by rw [ht];simpa using hv1
  unfold yielded
  rw [hy]
  cases want with
  |true=>
   simp only [if_true] at hb
   rw [hb] at hp;injection hp with hp;subst hp
   have:=hpr.bool;subst this
   cases b<;>rfl
  |false=>
   simp only [Ab,if_false,E.ev,hp,Ax] at hb
   cases p<;>simp [X.un] at hb
   have:=hpr.bool;subst this
   subst hb
   rename_i x
   cases x<;>first|rfl|(cases b<;>rfl)
 ·rename_i g0 gg hd
  injection hg with hg;subst hg
  obtain ⟨t,ht,hs⟩:=Aj.1 hd
  obtain ⟨v,hv1,hv2⟩:=h.get t _ hs
  simp only [Ap] at hv2
  obtain ⟨c,hc,h1,h2⟩:=hv2
  have hy:((ops[j]?).bind (·.dst)).bind (tm[·]?)=some v:=by rw [ht];simpa using hv1
  unfold yielded
  rw [hy]
  cases c with
  |false=>
   have:=h2 rfl;subst this
   simp only [E.ev,hc,Ax,Option.some.injEq,PV.b.injEq] at hb
   subst hb
   cases want<;>rfl
  |true=>
   obtain ⟨p,hp,hpr⟩:=h1 rfl
   simp only [E.ev,hc,Ax] at hb
   cases want with
   |true=>
    simp only [if_true] at hb
    rw [hb] at hp;injection hp with hp;subst hp
    have:=hpr.bool;subst this
    cases b<;>rfl
   |false=>
    simp only [Ab,if_false,E.ev,hp,Ax] at hb
    cases p<;>simp [X.un] at hb
    have:=hpr.bool;subst this
    subst hb
    rename_i x
    cases x<;>first|rfl|(cases b<;>rfl)
 ·cases hg
theorem gr {j:Nat} {want:Bool} {g:E} {tm:Array Value} {C:Cx} (hg:O7 σ ops j want=some g) (h:A7 C σ.t tm.toList) (hB:g.isB=true):∃b,g.ev C.η=some (.b b):=by
 have not_ok:∀(x:E) p,x.isB=true→x.ev C.η=some p→∃b,(E.un .not x).ev C.η=some (.b b):=by
  intro x p hx hp
  obtain ⟨b,rfl⟩:=az hx hp
  exact ⟨!b,by simp only [E.ev,hp,Ax,X.un]⟩
 unfold O7 at hg
 split at hg
 ·rename_i g0 hd
  injection hg with hg;subst hg
  obtain ⟨t,ht,hs⟩:=Aj.1 hd
  obtain ⟨v,hv1,hv2⟩:=h.get t _ hs
  simp only [Ap] at hv2
  obtain ⟨p,hp,hpr⟩:=hv2
  cases want with
  |true=>
   simp only [if_true] at hB ⊢
   obtain ⟨b,rfl⟩:=az hB hp
   exact ⟨b,hp⟩
  |false=>
   simp only [Ab,if_false,E.isB] at hB ⊢
   exact not_ok _ p hB hp
 ·rename_i g0 gg hd
  injection hg with hg;subst hg
  obtain ⟨t,ht,hs⟩:=Aj.1 hd
  obtain ⟨v,hv1,hv2⟩:=h.get t _ hs
  simp only [Ap] at hv2
  obtain ⟨c,hc,h1,h2⟩:=hv2
  simp only [E.isB,J6] at hB
  cases c with
  |false=>exact ⟨false,by simp only [E.ev,hc,Ax]⟩
  |true=>
   obtain ⟨p,hp,hpr⟩:=h1 rfl
   cases want with
   |true=>
    simp only [if_true] at hB ⊢
    obtain ⟨b,rfl⟩:=az hB hp
    exact ⟨b,by simp only [E.ev,hc,hp,Ax]⟩
   |false=>
    simp only [Ab,if_false,E.isB] at hB ⊢
    obtain ⟨b,hb⟩:=not_ok _ p hB hp
    exact ⟨b,by rw [E.ev,hc];exact hb⟩
 ·cases hg
theorem Qk {own:List Nat} {s:Nat} {sv:SV} {ε:Eff} (hx:Mn P sig own ops s o σ=some (ws,sv,ε)) {η1 η2:List PV} (hw:Dx fn η1 ws=some η2) (hn:η1.length=σ.n):η2.length=ε.n:=by
 have:=Uq hw
 unfold Mn at hx
 split at hx
 ·split at hx
  ·split at hx
   ·rename_i hc
    simp only [Option.some.injEq,Prod.mk.injEq] at hx
    obtain ⟨rfl,rfl,rfl⟩:=hx
    omega
   ·cases hx
  ·cases hx
 ·split at hx
  ·cases hx
  ·split at hx
   ·rename_i g _
    split at hx
    ·rename_i ws' sv' ε' _
     split at hx
     ·rename_i hc
      simp only [Option.some.injEq,Prod.mk.injEq] at hx
      obtain ⟨rfl,rfl,rfl⟩:=hx
      have:wsN ((if g.isB then [] else [.chk (.ite g (.c .u) (.c .u))])++ws')=wsN ws':=by
       split<;>simp [wsN,W.cnt]
      omega
     ·cases hx
    ·cases hx
   ·cases hx
theorem lz (hC:Contract P sig fn) {own:List Nat} {s:Nat} {sv:SV} {ε:Eff} (h:Rel w0 Oe η σ a.tmps w β hv O) (hx:Mn P sig own ops s o σ=some (ws,sv,ε)) {η1 η2 ζ:List PV} (hw:Dx fn η1 ws=some η2) (hη:η=η2++ζ) (hn:η1.length=σ.n):
  (Region.wanted o (yielded ops a.tmps)=true∧Db P o a w (Fs w0 Oe η σ a.tmps ε sv))∨(Region.wanted o (yielded ops a.tmps)=false∧Fs w0 Oe η σ a.tmps ε sv undef w):=by
 unfold Mn at hx
 split at hx
 ·rename_i hg
  split at hx
  ·rename_i ws' sv' ε' hx'
   split at hx
   ·simp only [Option.some.injEq,Prod.mk.injEq] at hx
    obtain ⟨rfl,rfl,rfl⟩:=hx
    exact .inl ⟨by simp only [Region.wanted,hg],Dh0 hC h (fun g hg=>by cases hg) hx' hw hη hn⟩
   ·cases hx
  ·cases hx
 ·rename_i j want hg
  split at hx
  ·cases hx
  ·split at hx
   ·rename_i g hgE
    split at hx
    ·rename_i ws' sv' ε' hx'
     split at hx
     ·rename_i hc
      obtain ⟨_,hm,hkl⟩:=hc
      simp only [Option.some.injEq,Prod.mk.injEq] at hx
      obtain ⟨rfl,rfl,rfl⟩:=hx
      have hm':=ob hm
      have hkl':ε'.kl=none:=by simpa using hkl
      rw [Ft] at hw
      obtain ⟨η1',hw1,hw2⟩:=Aj.1 hw
      have hsame:η1'=η1:=by
       split at hw1
       ·simp only [Dx,Option.some.injEq] at hw1;exact hw1.symm
       ·simp only [Dx,W.ev,Aj,Aw] at hw1
        obtain ⟨_,⟨_,_,rfl⟩,h2⟩:=hw1
        injection h2 with h2;exact h2.symm
      subst hsame
      obtain ⟨ζ1,hζ1⟩:=H4 hw2
      have hgb:∃b,g.ev η=some (.b b):=by
       by_cases hB:g.isB=true
       ·exact gr (C:=⟨η,Bg w O,β,hv,σ.m⟩) hgE h.tmps hB
       ·rw [if_neg hB] at hw1
        simp only [Dx,W.ev,Aj,Aw] at hw1
        obtain ⟨_,⟨q,hq,_⟩,_⟩:=hw1
        simp only [E.ev,Aj] at hq
        obtain ⟨p,hp,hq⟩:=hq
        split at hq
        ·exact ⟨true,by rw [hη,hζ1,Ar];exact E.ev_mono _ _ _ _ hp⟩
        ·exact ⟨false,by rw [hη,hζ1,Ar];exact E.ev_mono _ _ _ _ hp⟩
        ·cases hq
      obtain ⟨b,hb⟩:=hgb
      have hwant:Region.wanted o (yielded ops a.tmps)=b:=by
       simp only [Region.wanted,hg]
       exact By0 (C:=⟨η,Bg w O,β,hv,σ.m⟩) hgE h.tmps hb
      cases b with
      |true=>
       refine .inl ⟨hwant,(Dh0 hC h (fun g' hg'=>by injection hg' with hg';subst hg';exact hb) hx' hw2 hη hn).mono fun v w' hp=> ?_⟩
       obtain ⟨β',hv',O',r1,r2⟩:=hp
       refine ⟨β',hv',O',r1,?_⟩
       simp only [Ap]
       exact ⟨true,hb,(fun _=>r2),fun h=>by cases h⟩
      |false=>
       refine .inr ⟨hwant,β,hv,O,?_,?_⟩
       ·have:σ.eff ε'=σ.eff ⟨σ.m,ε'.n,none⟩:=by
         unfold St.eff;rw [hm',hkl']
        rw [this]
        exact h.setN _
       ·simp only [Ap]
        exact ⟨false,hb,(fun h=>by cases h),fun _=>trivial⟩
     ·cases hx
    ·cases hx
   ·cases hx
theorem Tw (a:Act) (d:Option Tmp) (v:Value):(a.put d v).defers=a.defers:=by cases d<;>rfl
theorem Xm {own:List Nat} {s:Nat} {sv:SV} {ε:Eff} (hx:Mn P sig own ops s o σ=some (ws,sv,ε)):(o.dst==some 0 && Fs4 sv)=false:=by
 unfold Mn at hx
 split at hx
 ·split at hx
  ·split at hx
   ·rename_i hc
    simp only [Option.some.injEq,Prod.mk.injEq] at hx
    obtain ⟨rfl,rfl,rfl⟩:=hx
    exact hc.2
   ·cases hx
  ·cases hx
 ·split at hx
  ·cases hx
  ·split at hx
   ·split at hx
    ·split at hx
     ·simp only [Option.some.injEq,Prod.mk.injEq] at hx
      obtain ⟨rfl,rfl,rfl⟩:=hx
      simp [Fs4]
     ·cases hx
    ·cases hx
   ·cases hx
theorem Fs.rels {ε:Eff} {sv:SV} {v:Value} {w':World} {d:Option Tmp} (h:Fs w0 Oe η σ a.tmps ε sv v w') (hd:(d==some 0 && Fs4 sv)=false):Xk w0 Oe η ((σ.eff ε).set d sv) (a.put d v).tmps w':=by
 obtain ⟨β,hv,O,h1,h2⟩:=h
 exact ⟨β,hv,O,h1.setT d (ds:=a.defers) h2 hd⟩
theorem Yw {Q:Exit→Act→World→Prop} {K:Act→World→Prop} {i:Nat} {R:Value→World→Prop} (hi:ops[i]? =some o)
  (h:(Region.wanted o (yielded ops a.tmps)=true∧Db P o a w R)∨(Region.wanted o (yielded ops a.tmps)=false∧R undef w)) (hK:∀v w',R v w'→K (a.put o.dst v) w'):wpOp P ops Q i K a w:=by
 unfold wpOp
 simp only [hi]
 rcases h with ⟨h1,h2⟩|⟨h1,h2⟩
 ·rw [if_pos h1]
  exact .inl (h2.wp hK)
 ·rw [h1]
  simp only [Ab,if_false]
  exact hK _ _ h2
theorem lv {own:List Nat} {rid:Nat}:∀(l:List Oper) (i:Nat) (σ:St) (η1 η2:List PV) (ws:List W) (σ':St),Cl7 P sig own ops rid l i σ=some (ws,σ')→Dx fn η1 ws=some η2→η1.length=σ.n→η2.length=σ'.n
 |[],i,σ,η1,η2,ws,σ',hx,hw,hn=>by
  simp only [Cl7,Option.some.injEq,Prod.mk.injEq] at hx
  obtain ⟨rfl,rfl⟩:=hx
  simp only [Dx,Option.some.injEq] at hw
  subst hw;exact hn
 |o::l,i,σ,η1,η2,ws,σ',hx,hw,hn=>by
  simp only [Cl7] at hx
  split at hx
  ·rename_i ws1 sv ε hc
   obtain ⟨⟨ws2,σ2⟩,hrec,he⟩:=Aw.1 hx
   simp only [Prod.mk.injEq] at he
   obtain ⟨rfl,rfl⟩:=he
   rw [Ft] at hw
   obtain ⟨η3,hw1,hw2⟩:=Aj.1 hw
   have hset:((σ.eff ε).set o.dst sv).n=ε.n:=by cases o.dst<;>rfl
   exact lv l _ _ _ _ _ _ hrec hw2 (by rw [Qk hc hw1 hn,hset])
  ·cases hx
theorem Aw6 (hC:Contract P sig fn) {own:List Nat} {rid:Nat} {Q:Exit→Act→World→Prop}:∀(l:List Oper) (i:Nat) (σ:St) (a:Act) (w:World) (η1 η2 ζ:List PV) (ws:List W) (σ':St),(∀k o,l[k]? =some o→ops[i+k]? =some o)→Xk w0 Oe η σ a.tmps w→
  Cl7 P sig own ops rid l i σ=some (ws,σ')→Dx fn η1 ws=some η2→η=η2++ζ→η1.length=σ.n→(∀a' w',a'.defers=a.defers→Xk w0 Oe η σ' a'.tmps w'→Q .normal a' w')→
  wpOps P ops Q (List.range' i l.length) a w
 |[],i,σ,a,w,η1,η2,ζ,ws,σ',_,h,hx,hw,hη,hn,hQ=>by
  simp only [Cl7,Option.some.injEq,Prod.mk.injEq] at hx
  obtain ⟨rfl,rfl⟩:=hx
  simp only [Dx,Option.some.injEq] at hw
  subst hw
  exact hQ a w rfl h
 |o::l,i,σ,a,w,η1,η2,ζ,ws,σ',hops,h,hx,hw,hη,hn,hQ=>by
  simp only [Cl7] at hx
  split at hx
  ·rename_i ws1 sv ε hc
   obtain ⟨⟨ws2,σ2⟩,hrec,he⟩:=Aw.1 hx
   simp only [Prod.mk.injEq] at he
   obtain ⟨rfl,rfl⟩:=he
   rw [Ft] at hw
   obtain ⟨η3,hw1,hw2⟩:=Aj.1 hw
   obtain ⟨ζ2,hζ2⟩:=H4 hw2
   obtain ⟨β,hv,O,hrel⟩:=h
   have hlen:=Qk hc hw1 hn
   have hstep:=lz hC hrel hc hw1 (ζ:=ζ2++ζ) (by rw [hη,hζ2,Ar]) hn
   have hi:ops[i]? =some o:=by simpa using hops 0 o rfl
   have hset:((σ.eff ε).set o.dst sv).n=ε.n:=by cases o.dst<;>rfl
   have ih:∀v w',Fs w0 Oe η σ a.tmps ε sv v w'→wpOps P ops Q (List.range' (i+1) l.length) (a.put o.dst v) w':=fun v w' hp=>
    Aw6 hC l (i+1) _ _ _ η3 η2 ζ ws2 σ2 (fun k o' hk=>by have:=hops (k+1) o' (by simpa using hk);rwa [show i+(k+1)=i+1+k by omega] at this) (hp.rels (Xm hc)) hrec hw2 hη (by rw [hlen,hset]) (fun a' w'' hd hr=>hQ a' w'' (by rw [hd,Tw]) hr)
   rw [As,List.range'_succ,wpOps_cons]
   exact Yw hi hstep ih
  ·cases hx
end
end Go.X
/- What an operation's reckoning hangs on. -/
namespace Go.X
open Go Go.RowKit
section
variable {P:Program} {sig:Nat→Option Nat} {t t':List SV} {m:List (Nat×Blk)} {n:Nat} {G:Option E} {o:Oper}
theorem Es8 {l:List Operand} (h:∀x,x∈l→∀G ty,opd P ⟨t',m,n⟩ G ty x=opd P ⟨t,m,n⟩ G ty x):∀ts:List TypeId,args P ⟨t',m,n⟩ G l ts=args P ⟨t,m,n⟩ G l ts:=by
 induction l with
 |nil=>intro ts;rfl
 |cons x l ih=>
  intro ts
  simp only [args]
  rw [h x (.head _),ih (fun y hy=>h y (.tail _ hy))]
theorem Dm8 {tf:Nat→TypeId} {l:List (Nat×Operand)} (h:∀x,x∈l.map (·.2)→∀G ty,opd P ⟨t',m,n⟩ G ty x=opd P ⟨t,m,n⟩ G ty x):Ar1 P ⟨t',m,n⟩ G tf l=Ar1 P ⟨t,m,n⟩ G tf l:=by
 induction l with
 |nil=>rfl
 |cons p l ih=>
  obtain ⟨i,x⟩:=p
  simp only [Ar1]
  rw [h x (by simp),ih (fun y hy=>h y (by simp at hy ⊢;exact .inr hy))]
theorem Cb8 {x:Option Operand} {d:E} (h:∀y,x=some y→∀G ty,opd P ⟨t',m,n⟩ G ty y=opd P ⟨t,m,n⟩ G ty y):I3 P ⟨t',m,n⟩ G x d=I3 P ⟨t,m,n⟩ G x d:=by
 cases x with
 |none=>rfl
 |some y=>simp only [I3,Fv];rw [h y rfl]
theorem Ab3 {ty:TypeId} {x:SV} {lo hi mx:Option Operand} (h1:∀y,lo=some y→∀G ty,opd P ⟨t',m,n⟩ G ty y=opd P ⟨t,m,n⟩ G ty y) (h2:∀y,hi=some y→∀G ty,opd P ⟨t',m,n⟩ G ty y=opd P ⟨t,m,n⟩ G ty y) (h3:∀y,mx=some y→∀G ty,opd P ⟨t',m,n⟩ G ty y=opd P ⟨t,m,n⟩ G ty y):
  Kb P ⟨t',m,n⟩ G ty x lo hi mx=Kb P ⟨t,m,n⟩ G ty x lo hi mx:=by
 have e3:∀y,mx=some y→Fv P ⟨t',m,n⟩ G 0 y=Fv P ⟨t,m,n⟩ G 0 y:=fun y hy=>by simp only [Fv];rw [h3 y hy]
 unfold Kb
 simp only [Cb8 h1,Cb8 h2]
 cases mx with
 |none=>rfl
 |some y=>simp only [e3 y rfl];rfl
theorem Wk {ty:TypeId} {k:Nat} {y:E} {lo hi mx:Option Operand} (h2:∀y,hi=some y→∀G ty,opd P ⟨t',m,n⟩ G ty y=opd P ⟨t,m,n⟩ G ty y):E2 P ⟨t',m,n⟩ G ty k y lo hi mx=E2 P ⟨t,m,n⟩ G ty k y lo hi mx:=by
 cases hi with
 |none=>unfold E2;cases lo<;>cases mx<;>cases G0 P ty<;>rfl
 |some z=>
  have e:Fv P ⟨t',m,n⟩ G 0 z=Fv P ⟨t,m,n⟩ G 0 z:=by simp only [Fv];rw [h2 z rfl]
  unfold E2
  cases lo<;>cases mx<;>cases G0 P ty<;>simp only [e]<;>rfl
theorem Gj0 {own:List Nat} {s:Nat} (h:∀x,x∈o.op.operands→∀G ty,opd P ⟨t',m,n⟩ G ty x=opd P ⟨t,m,n⟩ G ty x):xop P sig own ⟨t',m,n⟩ G s o=xop P sig own ⟨t,m,n⟩ G s o:=by
 have hE:∀x,x∈o.op.operands→∀G ty,Fv P ⟨t',m,n⟩ G ty x=Fv P ⟨t,m,n⟩ G ty x:=fun x hx G ty=>by simp only [Fv];rw [h x hx]
 obtain ⟨dst,op,type,pos,after,guard⟩:=o
 simp only at h hE
 cases op<;>simp only [Op.operands] at h hE<;>unfold xop<;>simp only
 case move x=>rw [h x (by simp)];rfl
 case assign x=>rw [h x (by simp)];rfl
 case pick c x y=>rw [hE c (by simp)];simp only [hE x (by simp),hE y (by simp)];try rfl
 case box ty x=>rw [h x (by simp)];try rfl
 case build ty ps=>rw [Dm8 (fun x hx=>h x (by simpa using hx))];try rfl
 case buildSlice ty k ps=>rw [Dm8 (fun x hx=>h x (by simpa using hx))];try rfl
 case load ty x=>rw [h x (by simp)];rfl
 case store ty x y=>rw [h x (by simp),h y (by simp)];rfl
 case nilCheck x=>rw [h x (by simp)];rfl
 case binOp op xt x y yt=>rw [hE x (by simp),hE y (by simp),h x (by simp)];rfl
 case unOp op ty x=>rw [hE x (by simp)];rfl
 case convert src dst x=>rw [hE x (by simp),h x (by simp)];rfl
 case makeFunc f first captured=>
  cases f<;>simp only
  rw [Es8 (fun x hx=>h x (by simp at hx ⊢;exact .inr hx))];rfl
 case makeSlice ty x y=>rw [hE x (by simp),hE y (by simp)];try rfl
 case slice ty x lo hi mx=>
  have el:lo.map (Fv P ⟨t',m,n⟩ G 0)=lo.map (Fv P ⟨t,m,n⟩ G 0):=by
   cases lo with
   |none=>rfl
   |some y=>simp only [A0];rw [hE y (by simp)]
  have eh:hi.map (Fv P ⟨t',m,n⟩ G 0)=hi.map (Fv P ⟨t,m,n⟩ G 0):=by
   cases hi with
   |none=>rfl
   |some y=>simp only [A0];rw [hE y (by simp)]
  have e2:∀sv,Kb P ⟨t',m,n⟩ G ty sv lo hi mx=Kb P ⟨t,m,n⟩ G ty sv lo hi mx:=fun sv=>Ab3 (fun y hy=>h y (by subst hy;simp)) (fun y hy=>h y (by subst hy;simp)) (fun y hy=>h y (by subst hy;simp))
  rw [h x (by simp)]
  have e3:∀k y,E2 P ⟨t',m,n⟩ G ty k y lo hi mx=E2 P ⟨t,m,n⟩ G ty k y lo hi mx:=fun k y=>Wk (fun y hy=>h y (by subst hy;simp))
  simp only [el,eh,e2,e3]
  rfl
 case fieldAddr ty x f=>rw [h x (by simp)];rfl
 case field ty x f=>rw [h x (by simp)];rfl
 case indexAddr ty x i=>rw [h x (by simp),hE i (by simp)];rfl
 case index ty x i=>rw [h x (by simp),hE i (by simp)];rfl
 case extract x i=>rw [h x (by simp)];rfl
 case lookup ty x k ok=>
  cases ok<;>simp only
  rw [h x (by simp),hE k (by simp)];try rfl
 case mapUpdate ty x k v=>rw [h x (by simp),hE k (by simp),hE v (by simp)];try rfl
 case call c=>
  have hargs:∀x,x∈c.args.toList→∀G ty,opd P ⟨t',m,n⟩ G ty x=opd P ⟨t,m,n⟩ G ty x:=fun x hx=>h x (by unfold Call.operands;cases c.callee<;>simp at hx ⊢<;>simp [hx])
  have hargsE:∀x,x∈c.args.toList→∀G ty,Fv P ⟨t',m,n⟩ G ty x=Fv P ⟨t,m,n⟩ G ty x:=fun x hx G ty=>by simp only [Fv];rw [hargs x hx]
  have hA:=Es8 (P:=P) (G:=G) hargs c.argTypes.toList
  split
  ·split
   ·rename_i x hx
    split
    ·rw [hargs x (by rw [hx];simp)];rfl
    ·rfl
   ·rfl
  ·split
   ·rename_i x hx
    split
    ·rw [hargs x (by rw [hx];simp)];rfl
    ·rfl
   ·rfl
  ·split
   ·rfl
   ·split
    ·rename_i d x _ _ hx _
     rw [hargs d (by rw [hx];simp),hargs x (by rw [hx];simp),hargsE x (by rw [hx];simp)];rfl
    ·rfl
  ·split
   ·rename_i x y hx
    rw [hargsE x (by rw [hx];simp),hargsE y (by rw [hx];simp)];rfl
   ·rfl
  ·split
   ·rename_i x y hx
    rw [hargsE x (by rw [hx];simp),hargsE y (by rw [hx];simp)];rfl
   ·rfl
  ·split
   ·rename_i x ty hx _
    rw [hargs x (by rw [hx];simp)];rfl
   ·rfl
  ·rw [hA];rfl
  ·rename_i tm hc
   rw [hA,h (.tmp tm) (by unfold Call.operands;rw [hc];simp)];rfl
  ·rfl
 all_goals rfl
theorem Db3 {ops:Array Oper} {j:Nat} {want:Bool} (h:∀d,(ops[j]?).bind (·.dst)=some d→t'[d]? =t[d]?):O7 ⟨t',m,n⟩ ops j want=O7 ⟨t,m,n⟩ ops j want:=by
 unfold O7
 cases hd:(ops[j]?).bind (·.dst) with
 |none=>rfl
 |some d=>simp only [Ax];rw [h d hd]
theorem Et3 {own:List Nat} {s:Nat} {ops:Array Oper} (h:∀d,d∈o.looksAt ops→t'[d]? =t[d]?):Mn P sig own ops s o ⟨t',m,n⟩=Mn P sig own ops s o ⟨t,m,n⟩:=by
 have hop:∀x,x∈o.op.operands→∀G ty,opd P ⟨t',m,n⟩ G ty x=opd P ⟨t,m,n⟩ G ty x:=by
  intro x hx G ty
  cases x with
  |tmp d=>
   simp only [opd]
   rw [h d (Cb _ (List.mem_filterMap.2 ⟨.tmp d,by simpa using hx,rfl⟩))]
  |_=>rfl
 unfold Mn
 split
 ·rw [Gj0 hop]
 ·rename_i j want hg
  rw [Db3 (t:=t) (fun d hd=>h d (Bh _ (by rw [hg];simp [hd])))]
  split
  ·rfl
  ·split
   ·rw [Gj0 hop]
   ·rfl
end
end Go.X
/- Regions of any order: the order does not matter. -/
namespace Go.X
open Go Go.RowKit
structure Vx where
 kl:Option Nat
 v:Option (Nat×SV)
def Nv (k:Option Nat) (t:List SV):List SV:=match k with|some s=>SV.kills s t|none=>t
def Gs (v:Vx) (t:List SV):List SV:=match v.v with|some (d,x)=>(Nv v.kl t).set d x|none=>Nv v.kl t
def tA (V:Nat→Vx) (L:Nat→Bool) (t0:List SV):Nat→List SV
 |0=>t0
 |k+1=>if L k then Gs (V k) (tA V L t0 k) else tA V L t0 k
def vj:Nat→Bool:=fun _=>true
section
variable {V:Nat→Vx} {M:Nat→Option (List (Nat×Blk))} {L L':Nat→Bool} {t0:List SV} {m0:List (Nat×Blk)} {n j:Nat}
theorem aj (s:Nat):∀t:List SV,(SV.kills s t).length=t.length
 |[]=>rfl
 |x::t=>by simp [SV.kills,aj s t]
theorem ak (s:Nat):∀(t:List SV) (d:Nat),(SV.kills s t)[d]? =t[d]?.map (SV.kill s)
 |[],d=>by simp [SV.kills]
 |x::t,0=>by simp [SV.kills]
 |x::t,d+1=>by simpa [SV.kills] using ak s t d
theorem Nq (k:Option Nat) (t:List SV):(Nv k t).length=t.length:=by
 cases k with
 |none=>rfl
 |some s=>exact aj s t
theorem av {k:Option Nat} {t u:List SV} {d:Nat} (h:t[d]? =u[d]?):(Nv k t)[d]? =(Nv k u)[d]? :=by
 cases k with
 |none=>exact h
 |some s=>simp only [Nv,ak,h]
theorem Aq4 (v:Vx) (t:List SV):(Gs v t).length=t.length:=by
 unfold Gs;split
 ·rw [I6,Nq]
 ·rw [Nq]
theorem cj {v:Vx} {d:Nat} (hk:v.kl=none) (h:∀x,v.v≠some (d,x)) (t:List SV):(Gs v t)[d]? =t[d]? :=by
 obtain ⟨k,v⟩:=v
 simp only at hk h
 subst hk
 cases v with
 |none=>rfl
 |some p=>
  obtain ⟨e,x⟩:=p
  have:e≠d:=fun he=>h x (by rw [he])
  simp only [Gs,Nv]
  rw [C0,if_neg this]
theorem Aq5 (v:Vx) {t u:List SV} {d:Nat} (hl:t.length=u.length) (h:t[d]? =u[d]?):(Gs v t)[d]? =(Gs v u)[d]? :=by
 unfold Gs
 split
 ·rename_i e x _
  rw [C0,C0,Nq,Nq,hl]
  split
  ·rfl
  ·exact av h
 ·exact av h
theorem nt (V:Nat→Vx) (L:Nat→Bool) (t0:List SV):∀k,(tA V L t0 k).length=t0.length
 |0=>rfl
 |k+1=>by
  simp only [tA]
  split
  ·rw [Aq4];exact nt V L t0 k
  ·exact nt V L t0 k
theorem Fk2 {d:Nat} (hj:j≤n) (h:∀i x,i<n→(V i).v=some (d,x)→(L i=true↔i<j)) (hk:∀i,i<n→(V i).kl≠none→(L i=true↔i<j)):(tA V L t0 n)[d]? =(tA V vj t0 j)[d]? :=by
 have h1:∀k,k≤j→(tA V L t0 k)[d]? =(tA V vj t0 k)[d]? :=by
  intro k
  induction k with
  |zero=>intro _;rfl
  |succ k ih=>
   intro hkj
   have ih:=ih (by omega)
   simp only [tA,vj,if_true]
   have hlen:(tA V L t0 k).length=(tA V (fun _=>true) t0 k).length:=by rw [nt,nt]
   by_cases hL:L k=true
   ·rw [if_pos hL]
    exact Aq5 _ hlen ih
   ·rw [if_neg hL]
    have hkl:(V k).kl=none:=by
     cases hh:(V k).kl with
     |none=>rfl
     |some s=>exact absurd ((hk k (by omega) (by rw [hh];simp)).2 (by omega)) hL
    have hv:∀x,(V k).v≠some (d,x):=fun x hx=>hL ((h k x (by omega) hx).2 (by omega))
    rw [cj hkl hv]
    exact ih
 have h2:∀k,j≤k→k≤n→(tA V L t0 k)[d]? =(tA V L t0 j)[d]? :=by
  intro k
  induction k with
  |zero=>intro hk _;have:j=0:=by omega
         subst this;rfl
  |succ k ih=>
   intro hkj hn
   by_cases he:j=k+1
   ·subst he;rfl
   ·have ih:=ih (by omega) (by omega)
    simp only [tA]
    split
    ·rename_i hl
     have hkl:(V k).kl=none:=by
      cases hh:(V k).kl with
      |none=>rfl
      |some s=>have:=(hk k (by omega) (by rw [hh];simp)).1 hl;omega
     rw [cj hkl (fun x hx=>by have:=(h k x (by omega) hx).1 hl;omega)]
     exact ih
    ·exact ih
 rw [h2 n hj (Ac _),h1 j (Ac _)]
theorem n0 (h:∀i,i<n→L i=L' i):∀k,k≤n→tA V L t0 k=tA V L' t0 k:=by
 intro k
 induction k with
 |zero=>intro _;rfl
 |succ k ih=>intro hk;simp only [tA];rw [ih (by omega),h k (by omega)]
theorem Fk1 (h:∀i,i<n→L i=false):∀k,k≤n→tA V L t0 k=t0:=by
 intro k
 induction k with
 |zero=>intro _;rfl
 |succ k ih=>intro hk;simp only [tA];rw [ih (by omega),h k (by omega)];rfl
theorem Gw7 (hj:j<n) (hL:L j=false) (hL':∀i,L' i=if i=j then true else L i) (hkk:∀i,i<n→j<i→L i=true→(V j).kl=none∧(V i).kl=none) (h:∀i d x y,i<n→i≠j→j<i→L i=true→(V j).v=some (d,x)→(V i).v≠some (d,y)):tA V L' t0 n=Gs (V j) (tA V L t0 n):=by
 have h1:∀k,k≤j→tA V L' t0 k=tA V L t0 k:=by
  intro k
  induction k with
  |zero=>intro _;rfl
  |succ k ih=>
   intro hk
   simp only [tA]
   have e:L' k=L k:=by rw [hL',if_neg (by omega)]
   rw [e,ih (by omega)]
 have h2:∀k,j<k→k≤n→tA V L' t0 k=Gs (V j) (tA V L t0 k):=by
  intro k
  induction k with
  |zero=>intro hk;omega
  |succ k ih=>
   intro hk hn
   simp only [tA]
   by_cases he:k=j
   ·subst he
    have e:L' k=true:=by rw [hL',if_pos rfl]
    rw [e,hL,h1 k (Ac _)]
    simp
   ·have e:L' k=L k:=by rw [hL',if_neg he]
    rw [e,ih (by omega) (by omega)]
    split
    ·rename_i hl
     obtain ⟨k1,k2⟩:=hkk k (by omega) (by omega) hl
     unfold Gs
     rw [k1,k2]
     simp only [Nv]
     cases hvj:(V j).v with
     |none=>rfl
     |some p=>
      cases hvk:(V k).v with
      |none=>rfl
      |some q=>
       obtain ⟨d,x⟩:=p
       obtain ⟨e,y⟩:=q
       have hne:d≠e:=fun hde=>by
        subst hde
        exact h k d x y (by omega) he (by omega) hl hvj hvk
       simp only []
       rw [List.set_comm _ _ hne]
    ·rfl
 exact h2 n hj (Ac _)
end
mutual
theorem SV.kill_comm (s s':Nat):∀x:SV,(x.kill s').kill s=(x.kill s).kill s'
 | .e _| .nil _| .lit _ _| .und| .ip _ _| .nilq _=>by simp only [SV.kill]
 | .may g x=>by simp only [SV.kill,SV.kill_comm s s' x]
 | .bp k o=>by simp only [SV.kill];split<;>split<;>simp_all [SV.kill]
 | .ap k i o=>by simp only [SV.kill];split<;>split<;>simp_all [SV.kill]
 | .suf k i=>by simp only [SV.kill];split<;>split<;>simp_all [SV.kill]
 | .h k=>by simp only [SV.kill];split<;>split<;>simp_all [SV.kill]
 | .mh k=>by simp only [SV.kill];split<;>split<;>simp_all [SV.kill]
 | .slf k T=>by simp only [SV.kill];split<;>split<;>simp_all [SV.kill]
 | .tup xs=>by simp only [SV.kill,SV.kills_comm s s' xs]
 | .ag xs=>by simp only [SV.kill,SV.kills_comm s s' xs]
 | .clo g xs=>by simp only [SV.kill,SV.kills_comm s s' xs]
theorem SV.kills_comm (s s':Nat):∀xs:List SV,SV.kills s (SV.kills s' xs)=SV.kills s' (SV.kills s xs)
 |[]=>rfl
 |x::xs=>by simp only [SV.kills,SV.kill_comm s s' x,SV.kills_comm s s' xs]
end
theorem Z9 (s:Nat):∀(t:List SV) (d:Nat) (x:SV),SV.kills s (t.set d x)=(SV.kills s t).set d (x.kill s)
 |[],d,x=>by simp [SV.kills]
 |y::t,0,x=>by simp [SV.kills]
 |y::t,d+1,x=>by simp [SV.kills,Z9 s t d x]
theorem pd {V:Nat→Vx} {L:Nat→Bool} {t0:List SV} {s:Nat} (h0:SV.kills s t0=t0) (hv:∀k d x,L k=true→(V k).v=some (d,x)→x.kill s=x):∀n,SV.kills s (tA V L t0 n)=tA V L t0 n
 |0=>h0
 |n+1=>by
  have ih:=pd h0 hv n
  simp only [tA]
  split
  ·rename_i hL
   have hk:SV.kills s (Nv (V n).kl (tA V L t0 n))=Nv (V n).kl (tA V L t0 n):=by
    cases (V n).kl with
    |none=>exact ih
    |some s'=>simp only [Nv];rw [SV.kills_comm,ih]
   unfold Gs
   split
   ·rename_i d x hvx
    rw [Z9,hk,hv n d x hL hvx]
   ·exact hk
  ·exact ih
def Hb1 (ops:Array Oper) (j:Nat):Prop:=(∀i,i<j→((S2 [] ops.toList).getD j 0).testBit i=true)∧∀i,j<i→i<ops.size→((S2 [] ops.toList).getD i 0).testBit j=true
theorem Db4 {ops:Array Oper} {j:Nat} (h:Fz3 (S2 [] ops.toList) ops.size j=true) (hj:j<ops.size):Hb1 ops j:=by
 unfold Fz3 at h
 rw [Bj] at h
 refine ⟨fun i hi=> ?_,fun i hi hn=> ?_⟩
 ·have:=h i (E5.2 (by omega))
  rwa [if_pos hi] at this
 ·have:=h i (E5.2 hn)
  rwa [if_neg (by omega),if_pos hi] at this
theorem Tz {acc:List Nat} {i:Nat}:∀{ks:List Nat},(Q4 acc ks).testBit i=true→∃k,k∈ks∧(i=k∨(acc.getD k 0).testBit i=true)
 |[],h=>by simp [Q4] at h
 |k::ks,h=>by
  simp only [Q4,Nat.testBit_or,Am,Nat.testBit_two_pow,decide_eq_true_eq] at h
  rcases h with h|h|h
  ·exact ⟨k, .head _, .inl h.symm⟩
  ·exact ⟨k, .head _, .inr h⟩
  ·obtain ⟨k',h1,h2⟩:=Tz h
   exact ⟨k', .tail _ h1,h2⟩
theorem u6:∀(l:List Oper) (acc:List Nat),(∀k,k<acc.length→(S2 acc l)[k]? =acc[k]?)∧∀(k:Nat) (o:Oper),l[k]? =some o→(S2 acc l)[acc.length+k]? =some (Q4 ((S2 acc l).take (acc.length+k)) (Aj8 o))
 |[],acc=>⟨fun k _=>rfl,fun k o h=>by simp at h⟩
 |o::l,acc=>by
  obtain ⟨h1,h2⟩:=u6 l (acc++[Q4 acc (Aj8 o)])
  have hpre:∀k,k<acc.length→(S2 acc (o::l))[k]? =acc[k]? :=by
   intro k hk
   have:=h1 k (by simp;omega)
   rw [A8 hk] at this
   exact this
  refine ⟨hpre,fun k o' hk=> ?_⟩
  cases k with
  |zero=>
   simp only [Cc,Option.some.injEq] at hk
   subst hk
   have:=h1 acc.length (by simp)
   rw [A5 (Ac _),Cl2] at this
   have htake:(S2 acc (o::l)).take acc.length=acc:=by
    apply List.ext_getElem?
    intro i
    rw [Bb]
    split
    ·rename_i hi;exact hpre i hi
    ·rw [dz (by omega)]
   rw [Dl,htake]
   exact this
  |succ k=>
   have:=h2 k o' (by simpa using hk)
   rw [Az,List.length_singleton] at this
   rw [show acc.length+(k+1)=acc.length+1+k by omega]
   exact this
theorem Ud {ops:List Oper} {L:Nat→Bool} (hcl:∀(j:Nat) (o:Oper),ops[j]? =some o→L j=true→∀k,k∈Aj8 o→L k=true) (hlt:∀(j:Nat) (o:Oper),ops[j]? =some o→∀k,k∈Aj8 o→k<j):
  ∀(N j:Nat) (o:Oper),j<N→ops[j]? =some o→(∀k,k∈Aj8 o→L k=true)→∀i,((S2 [] ops).getD j 0).testBit i=true→L i=true:=by
 intro N
 induction N with
 |zero=>intro j o hj;omega
 |succ N ih=>
  intro j o hj ho hk i hi
  have hget:=(u6 ops []).2 j o ho
  simp only [Bc,Ek] at hget
  rw [Bf,hget,Cn] at hi
  obtain ⟨k,hk1,hk2⟩:=Tz hi
  have hkj:=hlt j o ho k hk1
  rcases hk2 with rfl|hk2
  ·exact hk _ hk1
  ·have:((S2 [] ops).take j).getD k 0=(S2 [] ops).getD k 0:=by
    rw [Bf,Bf,Bb,if_pos hkj]
   rw [this] at hk2
   have hko:∃o',ops[k]? =some o':=⟨_,Ay (by have:=(Ak.1 ho).1;omega)⟩
   obtain ⟨o',ho'⟩:=hko
   exact ih k o' (by omega) ho' (hcl k o' ho' (hk k hk1)) i hk2
end Go.X
/- Regions of any order, on the machine. -/
namespace Go.X
open Go Go.RowKit
theorem oz {x y:Option Blk} (h:Dq1 x y=true):x=y:=by
 cases x<;>cases y<;>simp only [Dq1,Ab] at h
 ·rfl
 ·rw [Blk.same_eq h]
theorem Bj7 {m:List (Nat×Blk)} {s:Nat} {b:Blk} (h:mget m s=some b):(s,b)∈m:=by
 induction m with
 |nil=>simp [mget] at h
 |cons p m ih=>
  obtain ⟨k,c⟩:=p
  simp only [mget] at h
  split at h
  ·rename_i e;subst e;injection h with h;subst h;exact .head _
  ·exact .tail _ (ih h)
theorem Ds4 {m m':List (Nat×Blk)} (h:eqM m m'=true) (s:Nat):mget m s=mget m' s:=by
 simp only [eqM,Aq,Bj] at h
 cases h1:mget m s with
 |some b=>rw [←h1];exact oz (h.1 (s,b) (Bj7 h1))
 |none=>
  cases h2:mget m' s with
  |none=>rfl
  |some b=>
   have:=oz (h.2 (s,b) (Bj7 h2))
   rw [h1,h2] at this;cases this
theorem E.sameOpt_eq {x y:Option E} (h:E.sameOpt x y=true):x=y:=by
 cases x<;>cases y<;>simp only [E.sameOpt,Ab] at h
 ·rfl
 ·rw [E.same_eq _ _ h]
theorem W.same_eq {x y:W} (h:x.same y=true):x=y:=by
 cases x<;>cases y<;>simp only [W.same,Aq,beq_iff_eq,Ab] at h
 ·rw [E.same_eq _ _ h]
 ·obtain ⟨⟨⟨⟨h1,h2⟩,h3⟩,h4⟩,h5⟩:=h
  rw [E.sameOpt_eq h1,h2,h3,E.sames_eq _ _ h4,h5]
 ·obtain ⟨⟨⟨⟨h1,h2⟩,h3⟩,h4⟩,h5⟩:=h
  rw [E.sameOpt_eq h1,h2,E.same_eq _ _ h3,E.sames_eq _ _ h4,h5]
 ·rw [h.1,E.sames_eq _ _ h.2]
theorem Xt:∀{x y:List W},S6 x y=true→x=y
 |[],[],_=>rfl
 |a::x,b::y,h=>by
  simp only [S6,Aq] at h
  rw [W.same_eq h.1,Xt h.2]
 |[],_::_,h=>by simp [S6] at h
 |_::_,[],h=>by simp [S6] at h
theorem Rp (p:Nat→Bool):∀l:List Nat,l.filter p∈Fs3 l
 |[]=>by simp [Fs3]
 |x::l=>by
  have ih:=Rp p l
  simp only [Hf,Fs3,Br,Cs]
  split
  ·exact .inr ⟨_,ih,rfl⟩
  ·exact .inl ih
section
variable {P:Program} {sig:Nat→Option Nat} {fn:Fns} {w0:Fr} {Oe:Nat→Option Nat} {η:List PV} {ops:Array Oper}
theorem bz (σ:St) (ε:Eff) (d:Option Tmp) (sv:SV):((σ.eff ε).set d sv).t=Gs ⟨ε.kl,d.map (fun d=>(d,sv))⟩ σ.t:=by
 cases d<;>cases h:ε.kl<;>simp [St.eff,St.set,Gs,Nv,h]
theorem Bz6 (σ:St) (ε:Eff) (d:Option Tmp) (sv:SV):((σ.eff ε).set d sv).m=ε.m:=by
 cases d<;>rfl
def Ent.vx (e:Ent):Vx:=⟨if e.tr then none else e.kl,e.o.dst.map fun d=>(d,e.sv)⟩
def Vof (ents:List Ent) (k:Nat):Vx:=match ents[k]? with|some e=>e.vx|none=>⟨none,none⟩
theorem d7 (V:Nat→Vx) (t0:List SV):∀k,tA V vj t0 (k+1)=tA (fun j=>V (j+1)) vj (Gs (V 0) t0) k
 |0=>by simp [tA,vj]
 |k+1=>by
  have ih:=d7 V t0 k
  rw [tA]
  simp only [vj,if_true]
  rw [show tA V vj t0 (k+1)=_ from ih]
  simp [tA,vj]
theorem Ay7 {own:List Nat} {rid:Nat}:∀(l:List Oper) (i:Nat) (σ:St) (ents:List Ent) (σ':St) (η1 η2 ζ:List PV),Gv9 P sig own ops rid l i σ=some (ents,σ')→Dx fn η1 (Bz3 ents)=some η2→η=η2++ζ→η1.length=σ.n→
  ents.length=l.length∧η2.length=σ'.n∧(∀k e,ents[k]? =some e→l[k]? =some e.o∧e.t=tA (Vof ents) vj σ.t k∧∃η1 η2 ζ,Dx fn η1 e.ws=some η2∧η=η2++ζ∧η1.length=e.n)∧σ'.t=tA (Vof ents) vj σ.t ents.length
 |[],i,σ,ents,σ',η1,η2,ζ,hx,hw,hη,hn=>by
  simp only [Gv9,Option.some.injEq,Prod.mk.injEq] at hx
  obtain ⟨rfl,rfl⟩:=hx
  simp only [Bz3,Dx,Option.some.injEq] at hw
  subst hw
  exact ⟨rfl,hn,fun k e h=>by simp at h,rfl⟩
 |o::l,i,σ,ents,σ',η1,η2,ζ,hx,hw,hη,hn=>by
  simp only [Gv9] at hx
  split at hx
  ·rename_i ws sv ε hc
   obtain ⟨⟨ents',σ2⟩,hrec,he⟩:=Aw.1 hx
   simp only [Prod.mk.injEq] at he
   have hE0:∃E0:Ent,ents=E0::ents'∧E0.o=o∧E0.t=σ.t∧E0.n=σ.n∧E0.ws=ws∧E0.sv=sv∧E0.kl=ε.kl∧(E0.tr=true→∀s,ε.kl=some s→SV.kills s σ.t=σ.t):=by
    refine ⟨_,he.1.symm,rfl,rfl,rfl,rfl,rfl,rfl,fun htr s hs=> ?_⟩
    simp only [hs] at htr
    exact SV.sames_eq _ _ htr
   obtain ⟨E0,rfl,rfl,k2,k3,rfl,rfl,k6,k7⟩:=hE0
   obtain ⟨_,rfl⟩:=he
   simp only [Bz3] at hw
   rw [Ft] at hw
   obtain ⟨η3,hw1,hw2⟩:=Aj.1 hw
   obtain ⟨ζ2,hζ2⟩:=H4 hw2
   have hset:((σ.eff ε).set E0.o.dst E0.sv).n=ε.n:=by cases E0.o.dst<;>rfl
   have hlen:=Qk hc hw1 hn
   obtain ⟨r1,r2,r3,r4⟩:=Ay7 l (i+1) _ ents' σ2 η3 η2 ζ hrec hw2 hη (by rw [hlen,hset])
   have ht:((σ.eff ε).set E0.o.dst E0.sv).t=Gs (Vof (E0::ents') 0) σ.t:=by
    rw [bz]
    simp only [Vof,Cc,Ent.vx]
    rw [k6]
    cases hk:ε.kl with
    |none=>simp
    |some s=>
     cases htr:E0.tr with
     |true=>simp only [if_true,Gs,Nv,k7 htr s hk]
     |false=>simp
   have hV:(fun j=>Vof (E0::ents') (j+1))=Vof ents':=by
    funext j;simp [Vof]
   refine ⟨by simp [r1],r2,fun k e hk=> ?_,?_⟩
   ·cases k with
    |zero=>
     simp only [Cc,Option.some.injEq] at hk
     subst hk
     exact ⟨rfl,k2,η1,η3,ζ2++ζ,hw1,by rw [hη,hζ2,Ar],by rw [k3];exact hn⟩
    |succ k=>
     obtain ⟨q1,q2,q3⟩:=r3 k e (by simpa using hk)
     refine ⟨by simpa using q1,?_,q3⟩
     rw [d7,hV,←ht];exact q2
   ·rw [As,d7,hV,←ht];exact r4
  ·cases hx
theorem H3 {own:List Nat} {rid:Nat} {B B':Nat→Bool}:∀(ents:List Ent) (i:Nat) (m:List (Nat×Blk)),(∀k,i≤k→k<i+ents.length→B k=B' k)→dq P sig own ops rid B ents i m=dq P sig own ops rid B' ents i m
 |[],_,_,_=>rfl
 |e::r,i,m,h=>by
  simp only [dq]
  rw [h i (Ac _) (by simp)]
  have hr:∀m,dq P sig own ops rid B r (i+1) m=dq P sig own ops rid B' r (i+1) m:=fun m=>H3 r (i+1) m fun k h1 h2=>h k (by omega) (by simp;omega)
  split
  ·split
   ·exact hr _
   ·rfl
  ·exact hr m
def cnt (L:Nat→Bool):Nat→Nat
 |0=>0
 |k+1=>cnt L k+if L k then 0 else 1
theorem Bb7 {L L':Nat→Bool} {j:Nat} (hL:L j=false) (hL':∀i,L' i=if i=j then true else L i):∀k,cnt L k=cnt L' k+if j<k then 1 else 0
 |0=>by simp [cnt]
 |k+1=>by
  have ih:=Bb7 hL hL' k
  by_cases hk:k=j
  ·subst hk
   have e:L' k=true:=by rw [hL',if_pos rfl]
   simp only [cnt,e,hL,if_true,Ab,if_false]
   rw [if_neg (Nat.lt_irrefl k)] at ih
   rw [if_pos (Nat.lt_succ_self k)]
   omega
  ·have e:L' k=L k:=by rw [hL',if_neg hk]
   simp only [cnt,e]
   by_cases hjk:j<k
   ·rw [if_pos hjk] at ih
    rw [if_pos (show j<k+1 by omega)]
    omega
   ·rw [if_neg hjk] at ih
    rw [if_neg (show¬j<k+1 by omega)]
    omega
theorem qn {L:Nat→Bool}:∀k,cnt L k=0→∀i,i<k→L i=true
 |0,_,i,hi=>by omega
 |k+1,h,i,hi=>by
  simp only [cnt] at h
  by_cases hk:i=k
  ·subst hk
   cases hl:L i with
   |true=>rfl
   |false=>rw [hl] at h;simp at h
  ·exact qn k (by omega) i (by omega)
theorem Fd9 (hC:Contract P sig fn) {own:List Nat} {rid:Nat} {Q:Exit→Act→World→Prop} {ds:List Deferred} {ents:List Ent} {σ σ':St}
  (hd:Bb4 ops=true) (hlen:ents.length=ops.size) (hE:∀k e,ents[k]? =some e→ops[k]? =some e.o∧e.t=tA (Vof ents) vj σ.t k∧∃η1 η2 ζ,Dx fn η1 e.ws=some η2∧η=η2++ζ∧η1.length=e.n)
  (hfin:σ'.t=tA (Vof ents) vj σ.t ops.size) (hchk:i5 P sig own ops rid ents σ σ'=true) (hQ:∀a' w',a'.defers=ds→Xk w0 Oe η ⟨σ'.t,σ'.m,0⟩ a'.tmps w'→Q .normal a' w'):
  ∀(fuel:Nat) (listed:Array Bool) (a:Act) (w:World),listed.size=ops.size→cnt (fun i=>listed.getD i false) ops.size≤fuel→
   (∀(j:Nat) (o:Oper),ops[j]? =some o→listed.getD j false=true→∀k,k∈Aj8 o→listed.getD k false=true)→a.defers=ds→
   (∃m,dq P sig own ops rid (fun k=>Sy ents k && listed.getD k false) ents 0 σ.m=some m∧Xk w0 Oe η ⟨tA (Vof ents) (fun i=>listed.getD i false) σ.t ops.size,m,0⟩ a.tmps w)→wpAny P .any ops Q fuel listed a w:=by
 have hop:∀j,j<ops.size→∃y,ops[j]? =some y∧pn y.op=false∧(∀k,k∈Aj8 y→k<j)∧∀i,i<j→((S2 [] ops.toList).getD j 0).testBit i=true∨∃x,ops[i]? =some x∧x.apart ops y=true:=by
  intro j hj
  unfold Bb4 at hd
  have h1:=(Bj.1 hd) j (by simp [hj])
  split at h1
  ·rename_i y hy
   simp only [Aq,A3,Bj,decide_eq_true_eq,E5,Am] at h1
   refine ⟨y,hy,h1.1.1,fun k hk=>h1.1.2 k hk,fun i hi=> ?_⟩
   rcases h1.2 i hi with h2|h2
   ·exact .inl h2
   ·right
    split at h2
    ·rename_i x hx;exact ⟨x,hx,h2⟩
    ·cases h2
  ·cases h1
 simp only [i5,Aq,Bj,E5] at hchk
 obtain ⟨hchk1,hchk2⟩:=hchk
 have hlt:∀(j:Nat) (o:Oper),ops.toList[j]? =some o→∀k,k∈Aj8 o→k<j:=by
  intro j o ho k hk
  have ho':ops[j]? =some o:=by simpa using ho
  obtain ⟨y,hy,_,h2,_⟩:=hop j (B3.1 ho').1
  rw [ho'] at hy;injection hy with hy;subst hy
  exact h2 k hk
 have hend:∀(listed:Array Bool) (a:Act) (w:World),(∀i,i<ops.size→listed.getD i false=true)→a.defers=ds→
   (∃m,dq P sig own ops rid (fun k=>Sy ents k && listed.getD k false) ents 0 σ.m=some m∧Xk w0 Oe η ⟨tA (Vof ents) (fun i=>listed.getD i false) σ.t ops.size,m,0⟩ a.tmps w)→Q .normal a w:=by
  rintro listed a w hl hds ⟨m,hm,β,hv,O,h⟩
  refine hQ a w hds ⟨β,hv,O,?_⟩
  have c1:=n0 (V:=Vof ents) (t0:=σ.t) (L:=fun i=>listed.getD i false) (L':=vj) (n:=ops.size) hl
  rw [H3 (B':=Sy ents) ents 0 σ.m (fun k _ hk=>by rw [hl k (by omega),J6])] at hm
  rw [hm] at hchk2
  have:=h.eqm (m':=σ'.m) (n:=0) (fun s=>Ds4 hchk2 s)
  rw [hfin,←c1 _ (Ac _)]
  exact this
 intro fuel
 induction fuel with
 |zero=>
  intro listed a w hsize hcnt hcl hds h
  have hl:=qn ops.size (by omega) (L:=fun i=>listed.getD i false)
  refine ⟨?_,hend listed a w hl hds h⟩
  refine List.eq_nil_iff_forall_not_mem.2 fun j hj=> ?_
  rw [mem_ready] at hj
  obtain ⟨h0,o,ho,_⟩:=hj
  have hj':=(B3.1 ho).1
  have:=hl j hj'
  rw [A9,C9 (by omega)] at h0 this
  simp only [Cn] at h0 this
  rw [h0] at this;cases this
 |succ fuel ih=>
  intro listed a w hsize hcnt hcl hds h
  let L:Nat→Bool:=fun i=>listed.getD i false
  refine ⟨fun hr=> ?_,fun j hj=> ?_⟩
  ·-- none is ready: all are listed
   refine hend listed a w (fun i hi=> ?_) hds h
   have:∀N i,i<N→i<ops.size→L i=true:=by
    intro N
    induction N with
    |zero=>intro i hi;omega
    |succ N ihN=>
     intro i hi1 hi2
     refine Classical.byContradiction fun hne=> ?_
     obtain ⟨y,hy,_,hk,_⟩:=hop i hi2
     have hmem:i∈Region.ready .any ops listed:=by
      rw [mem_ready]
      refine ⟨?_,y,hy,fun e he hb=> ?_⟩
      ·have:L i=false:=by
        cases hh:L i with
        |false=>rfl
        |true=>exact absurd hh hne
       have h3:listed.getD i false=false:=this
       rw [A9,C9 (by omega)] at h3 ⊢
       exact h3
      ·have hin:e.on∈Aj8 y:=Cs.2 ⟨e,Bp.2 ⟨by simpa using he,hb⟩,rfl⟩
       have:=hk _ hin
       exact ihN e.on (by omega) (by omega)
     rw [hr] at hmem;simp at hmem
   exact this (i+1) i (by omega) hi
  ·rw [mem_ready] at hj
   obtain ⟨h0,o,ho,hafter⟩:=hj
   have hj':j<ops.size:=(B3.1 ho).1
   have hLj:L j=false:=by
    show listed.getD j false=false
    rw [A9,C9 (by omega)] at h0 ⊢
    exact h0
   obtain ⟨y,hy,hsel,hk,hpair⟩:=hop j hj'
   rw [ho] at hy;injection hy with hy;subst hy
   have hready:∀k,k∈Aj8 o→L k=true:=by
    intro k hk1
    obtain ⟨e,he,rfl⟩:=Cs.1 hk1
    obtain ⟨he1,he2⟩:=Bp.1 he
    exact hafter e (by simpa using he1) he2
   have hcl':∀(j:Nat) (o:Oper),ops.toList[j]? =some o→L j=true→∀k,k∈Aj8 o→L k=true:=fun j o ho hl=>hcl j o (by simpa using ho) hl
   have hanc:∀i,((S2 [] ops.toList).getD j 0).testBit i=true→L i=true:=Ud hcl' hlt (j+1) j o (by omega) (by simpa using ho) hready
   have hup:∀k,k<ops.size→L k=true→∀i,((S2 [] ops.toList).getD k 0).testBit i=true→L i=true:=by
    intro k hk hLk i hb
    obtain ⟨x,hx,_⟩:=hop k hk
    exact Ud hcl' hlt (k+1) k x (by omega) (by simpa using hx) (fun z hz=>hcl k x hx hLk z hz) i hb
   have hbehind:∀i,j<i→i<ops.size→L i=true→∃x,ops[i]? =some x∧o.apart ops x=true:=by
    intro i hji hin hLi
    obtain ⟨x,hx,_,hxk,hxp⟩:=hop i hin
    rcases hxp j hji with hb|⟨o',ho',h1⟩
    ·have:=hup i hin hLi j hb
     rw [hLj] at this;cases this
    ·rw [ho] at ho';injection ho' with ho';subst ho'
     exact ⟨x,hx,h1⟩
   obtain ⟨e,he⟩:∃e,ents[j]? =some e:=⟨_,Ay (by omega)⟩
   obtain ⟨heo,het,η1,η2,ζ,hw,hη,hn⟩:=hE j e he
   rw [ho] at heo;injection heo with heo;subst heo
   have hcj:=hchk1 j (by omega)
   rw [he] at hcj
   simp only [Aq,Bj] at hcj
   obtain ⟨⟨_,hcY⟩,hcK⟩:=hcj
   have hVj:Vof ents j=e.vx:=by simp only [Vof,he]
   have hefj:Sy ents j=e.ef:=by simp only [Sy,he]
   have hVi:∀i d x,i<ops.size→(Vof ents i).v=some (d,x)→∃y,ops[i]? =some y∧y.dst=some d:=by
    intro i d x hi hv
    obtain ⟨e',he'⟩:∃e,ents[i]? =some e:=⟨_,Ay (by omega)⟩
    obtain ⟨h1,_⟩:=hE i e' he'
    simp only [Vof,he',Ent.vx] at hv
    obtain ⟨d',hd',hh⟩:=Aw.1 hv
    simp only [Prod.mk.injEq] at hh
    exact ⟨e'.o,h1,by rw [hd',hh.1]⟩
   have hKi:∀i,i<ops.size→(Vof ents i).kl≠none→Hb1 ops i:=by
    intro i hi hv
    obtain ⟨e',he'⟩:∃e,ents[i]? =some e:=⟨_,Ay (by omega)⟩
    have h1:=hchk1 i (by omega)
    rw [he'] at h1
    simp only [Aq] at h1
    have h2:=h1.2
    simp only [Vof,he',Ent.vx] at hv
    unfold Bw6 at h2
    have htr:e'.tr=false:=by
     cases hh:e'.tr with
     |false=>rfl
     |true=>rw [hh] at hv;simp at hv
    rw [htr] at h2
    simp only [Bool.not_false,if_true] at h2
    rw [hlen] at h2
    exact Db4 h2 hi
   have hfull:∀i,i<ops.size→i≠j→Hb1 ops i→(L i=true↔i<j):=by
    intro i hi hne hf
    constructor
    ·intro hLi
     refine Classical.byContradiction fun hge=> ?_
     have:=hup i hi hLi j (hf.1 j (by omega))
     rw [hLj] at this;cases this
    ·intro hlt2
     exact hanc i (hf.2 j hlt2 hj')
   have hfullj:Hb1 ops j→∀i,j<i→i<ops.size→L i=true→False:=by
    intro hf i hji hi hLi
    have:=hup i hi hLi j (hf.2 i hji hi)
    rw [hLj] at this;cases this
   have hlook:∀d,d∈e.o.looksAt ops→(tA (Vof ents) L σ.t ops.size)[d]? =e.t[d]? :=by
    intro d hd
    rw [het]
    refine Fk2 (by omega) (fun i x hi hv=> ?_) (fun i hi hv=> ?_)
    ·obtain ⟨y,hy,hyd⟩:=hVi i d x hi hv
     constructor
     ·intro hLi
      refine Classical.byContradiction fun hge=> ?_
      have hij:i≠j:=fun e=>by subst e;rw [hLj] at hLi;cases hLi
      obtain ⟨x',hx',hap⟩:=hbehind i (by omega) hi hLi
      rw [hy] at hx';injection hx' with hx';subst hx'
      exact (Oper.apart_spec hap).2.2 d hyd hd
     ·intro hlt
      rcases hpair i hlt with hb|⟨x',hx',hap⟩
      ·exact hanc i hb
      ·rw [hy] at hx';injection hx' with hx';subst hx'
       exact absurd hd ((Oper.apart_spec hap).1 d hyd)
    ·by_cases hij:i=j
     ·subst hij
      exact ⟨fun hLi=>(by rw [hLj] at hLi;cases hLi),fun h=>by omega⟩
     ·exact hfull i hi hij (hKi i hi hv)
   obtain ⟨m,hm,β,hv,O,hrel⟩:=h
   let A:=S2 [] ops.toList
   let U:=(Fj4 A ents j).filter L
   let B:Nat→Bool:=fun k=>Sy ents k && ((A.getD j 0).testBit k||U.contains k)
   have hBL:∀k,k<ops.size→B k=(Sy ents k && L k):=by
    intro k hk
    show (Sy ents k && ((A.getD j 0).testBit k||U.contains k))=(Sy ents k && L k)
    cases hef:Sy ents k with
    |false=>rfl
    |true=>
     rw [Bool.true_and,Bool.true_and,Cf]
     simp only [Am,List.contains_iff_mem]
     constructor
     ·rintro (h1|h1)
      ·exact hanc k h1
      ·exact (Bp.1 h1).2
     ·intro hLk
      by_cases h1:(A.getD j 0).testBit k=true
      ·exact .inl h1
      ·right
       refine Bp.2 ⟨Bp.2 ⟨E5.2 (by omega),?_⟩,hLk⟩
       have h2:(A.getD k 0).testBit j=false:=by
        cases hh:(A.getD k 0).testBit j with
        |false=>rfl
        |true=>have:=hup k hk hLk j hh;rw [hLj] at this;cases this
       have h3:k≠j:=fun e=>by subst e;rw [hLj] at hLk;cases hLk
       simp only [Bool.not_eq_true] at h1
       show (Sy ents k && k !=j && !(A.getD j 0).testBit k && !(A.getD k 0).testBit j)=true
       rw [hef,h1,h2]
       simp [h3]
   have hclo:Wp A ents B=true:=by
    unfold Wp
    rw [Bj]
    intro k hk
    have hk':k<ops.size:=by rw [←hlen];simpa using hk
    cases hb:B k with
    |false=>rfl
    |true=>
     rw [J4,J5,Bj]
     intro i hi
     have hi':i<ops.size:=by rw [←hlen];simpa using hi
     rw [hBL k hk'] at hb
     simp only [Aq] at hb
     cases hx:Sy ents i && (A.getD k 0).testBit i with
     |false=>rfl
     |true=>
      simp only [Aq] at hx
      rw [J4,J5,hBL i hi',hx.1,hup k hk' hb.2 i hx.2];rfl
   have hcU:=hcY U (Rp L _)
   unfold Ib5 at hcU
   have hcl2:Wp (S2 [] ops.toList) ents (fun k=>Sy ents k && (((S2 [] ops.toList).getD j 0).testBit k||U.contains k))=true:=hclo
   simp only [hcl2,J4,Ab,if_false] at hcU
   have hmB:dq P sig own ops rid (fun k=>Sy ents k && (((S2 [] ops.toList).getD j 0).testBit k||U.contains k)) ents 0 σ.m=some m:=by
    rw [←hm]
    exact H3 ents 0 σ.m fun k _ hk=>hBL k (by omega)
   rw [hmB] at hcU
   simp only at hcU
   split at hcU
   ·rename_i ws sv ε hcore
    simp only [Aq,beq_iff_eq] at hcU
    obtain ⟨⟨⟨⟨hws,hsv⟩,hkl⟩,hmm⟩,hek⟩:=hcU
    have hws':=Xt hws
    have hsv':=SV.same_eq _ _ hsv
    subst hws';subst hsv'
    have hcore':Mn P sig own ops (rid*4096+j) e.o ⟨tA (Vof ents) L σ.t ops.size,m,e.n⟩=some (e.ws,e.sv,ε):=by
     rw [←hcore]
     exact Et3 hlook
    have hrel':Rel w0 Oe η ⟨tA (Vof ents) L σ.t ops.size,m,e.n⟩ a.tmps w β hv O:=hrel.setN e.n
    refine Yw ho (lz hC hrel' hcore' hw hη hn) fun v w' hp=> ?_
    obtain ⟨β',hv',O',hr2⟩:=hp.rels (d:=e.o.dst) (Xm hcore')
    let L':Nat→Bool:=fun i=>(listed.setIfInBounds j true).getD i false
    have hL':∀i,L' i=if i=j then true else L i:=by
     intro i
     show (listed.setIfInBounds j true).getD i false=_
     split
     ·rename_i he;subst he
      rw [A9,Array.getElem?_setIfInBounds_self_of_lt (by omega)];rfl
     ·rename_i he
      exact getD_set_ne false (Ne.symm he)
    refine ih _ _ _ (by simpa using hsize) ?_ ?_ (by rw [Tw];exact hds) ?_
    ·have:=Bb7 hLj hL' ops.size
     rw [if_pos hj'] at this
     have e1:cnt L' ops.size=cnt (fun i=>(listed.setIfInBounds j true).getD i false) ops.size:=rfl
     have e2:cnt L ops.size=cnt (fun i=>listed.getD i false) ops.size:=rfl
     omega
    ·intro i y hy hl k hk
     by_cases hij:i=j
     ·subst hij
      rw [ho] at hy;injection hy with hy;subst hy
      exact getD_set_true (hready k hk)
     ·rw [getD_set_ne false (Ne.symm hij)] at hl
      exact getD_set_true (hcl i y hy hl k hk)
    ·have e1:tA (Vof ents) L' σ.t ops.size=Gs (Vof ents j) (tA (Vof ents) L σ.t ops.size):=Gw7 hj' hLj hL' (fun i hi hji hLi=>⟨by
      cases hh:(Vof ents j).kl with
      |none=>rfl
      |some s=>exact (hfullj (hKi j hj' (by rw [hh];simp)) i hji hi hLi).elim,by
      cases hh:(Vof ents i).kl with
      |none=>rfl
      |some s=>have:=(hfull i hi (by omega) (hKi i hi (by rw [hh];simp))).1 hLi;omega⟩) fun i d x y hi hij hji hLi h1 h2=>by
      obtain ⟨x',hx',hap⟩:=hbehind i hji hi hLi
      obtain ⟨y',hy',hyd⟩:=hVi i d y hi h2
      rw [hx'] at hy';injection hy' with hy';subst hy'
      obtain ⟨o',ho',hod⟩:=hVi j d x hj' h1
      rw [ho] at ho';injection ho' with ho';subst ho'
      exact (Oper.apart_spec hap).2.1 d hod hyd
     have e4:tA (Vof ents) L' σ.t ops.size=(((⟨tA (Vof ents) L σ.t ops.size,m,e.n⟩:St).eff ε).set e.o.dst e.sv).t:=by
      rw [e1,hVj,bz]
      simp only [Ent.vx]
      rw [hkl]
      cases htr:e.tr with
      |false=>simp
      |true=>
       simp only [if_true]
       cases hk2:e.kl with
       |none=>rfl
       |some s=>
        unfold Bw6 at hcK
        rw [htr] at hcK
        simp only [J4,Ab,if_false,hk2,Aq,Bj,E5,Am,beq_iff_eq] at hcK
        obtain ⟨g1,g2⟩:=hcK
        have hkt:=pd (V:=Vof ents) (L:=fun k=>L k && decide (k<ops.size)) (s:=s) (SV.sames_eq _ _ g1) (fun k d x hLk hvk=>by
         simp only [Aq,decide_eq_true_eq] at hLk
         obtain ⟨hLk,hks⟩:=hLk
         obtain ⟨e',he'⟩:∃e,ents[k]? =some e:=⟨_,Ay (by omega)⟩
         rcases g2 k (by omega) with (h1|h1)|h1
         ·subst h1;rw [hLj] at hLk;cases hLk
         ·have:=hup k hks hLk j h1;rw [hLj] at this;cases this
         ·rw [he'] at h1
          simp only [Vof,he',Ent.vx] at hvk
          obtain ⟨d',_,hh⟩:=Aw.1 hvk
          simp only [Prod.mk.injEq] at hh
          rw [←hh.2]
          exact SV.same_eq _ _ h1) ops.size
        have hcg:=n0 (V:=Vof ents) (t0:=σ.t) (L:=fun k=>L k && decide (k<ops.size)) (L':=L) (n:=ops.size) (fun i hi=>by simp [hi]) ops.size (Ac _)
        rw [hcg] at hkt
        simp only [Gs,Nv,hkt]
     have hmm':∃m',dq P sig own ops rid (fun k=>Sy ents k && L' k) ents 0 σ.m=some m'∧eqM ε.m m'=true:=by
      split at hmm
      ·rename_i m' hm'
       refine ⟨m',?_,hmm⟩
       cases hef:e.ef with
       |true=>
        rw [hef] at hm'
        simp only [if_true] at hm'
        rw [←hm']
        refine H3 ents 0 σ.m fun k _ hk=> ?_
        have hk':k<ops.size:=by omega
        show (Sy ents k && L' k)=(B k||k==j)
        rw [hBL k hk',hL']
        by_cases hkj:k=j
        ·subst hkj;simp [hefj,hef]
        ·simp [hkj]
       |false=>
        rw [hef] at hm'
        simp only [Ab,if_false] at hm'
        rw [←hm',←hm]
        refine H3 ents 0 σ.m fun k _ hk=> ?_
        show (Sy ents k && L' k)=(Sy ents k && L k)
        rw [hL']
        by_cases hkj:k=j
        ·subst hkj;simp [hefj,hef]
        ·simp [hkj]
      ·cases hmm
     obtain ⟨m',hm1,hm2⟩:=hmm'
     refine ⟨m',hm1,β',hv',O',?_⟩
     have:=hr2.eqm (m':=m') (n:=0) (fun s=>by rw [Bz6];exact Ds4 hm2 s)
     rw [←e4] at this
     exact this
   ·cases hcU
theorem lw (hC:Contract P sig fn) {own:List Nat} {rid:Nat} {Q:Exit→Act→World→Prop} {σ σ':St} {a:Act} {w:World} {η1 η2 ζ:List PV} {ws:List W} (h:Xk w0 Oe η σ a.tmps w)
  (hx:Et2 P sig own ops rid σ=some (ws,σ')) (hw:Dx fn η1 ws=some η2) (hη:η=η2++ζ) (hn:η1.length=σ.n) (hQ:∀a' w',a'.defers=a.defers→Xk w0 Oe η σ' a'.tmps w'→Q .normal a' w'):
  (Code.region rid ops true).wp P Q a w∧η2.length=σ'.n:=by
 unfold Et2 at hx
 split at hx
 ·rename_i hc
  simp only [Aq] at hc
  split at hx
  ·rename_i σ1 _
   simp only at hx
   split at hx
   ·rename_i ents σ2 htr
    split at hx
    ·rename_i hchk
     simp only [Option.some.injEq,Prod.mk.injEq] at hx
     obtain ⟨rfl,rfl⟩:=hx
     obtain ⟨h1,h2,h3,h4⟩:=Ay7 (fn:=fn) (η:=η) (ops:=ops) ops.toList 0 _ ents σ2 η1 η2 ζ htr hw hη hn
     have hl:ents.length=ops.size:=by rw [h1];simp
     refine ⟨wp_region_any hc.2 ?_,h2⟩
     obtain ⟨β,hv,O,hrel⟩:=h
     obtain ⟨O',hfrz,_⟩:=hrel.frz (Qt σ1.m) (n:=σ.n)
     have hrel2:=hfrz.below (w':=w.drew) ((Blw.refl _ _).drew)
     rw [hl] at h4
     refine Fd9 (w0:=w0) (Oe:=Oe) (η:=η) hC (ds:=a.defers) hc.1 hl (fun k e he=> ?_) h4 hchk (fun a' w' hd hr=>hQ a' w' hd ?_) ops.size (Array.replicate ops.size false) a _ (by simp) ?_ ?_ rfl ?_
     ·obtain ⟨q1,q2,q3⟩:=h3 k e he
      exact ⟨by simpa using q1,q2,q3⟩
     ·obtain ⟨β',hv',O',r⟩:=hr
      exact ⟨β',hv',O',r.setN σ2.n⟩
     ·have:∀(L:Nat→Bool) k,cnt L k≤k:=by
       intro L k
       induction k with
       |zero=>exact Ac _
       |succ k ih=>simp only [cnt];split<;>omega
      exact this _ _
     ·intro j o ho hl
      have hj:=(B3.1 ho).1
      simp [hj] at hl
     ·have hno:∀i,i<ops.size→(Array.replicate ops.size false).getD i false=false:=fun i hi=>by simp [hi]
      have c1:=Fk1 (V:=Vof ents) (t0:=σ.t) (L:=fun i=>(Array.replicate ops.size false).getD i false) hno
      refine ⟨Ks (Qt σ1.m) σ.m,?_,β,hv,O',?_⟩
      ·rw [H3 (B':=fun _=>false) ents 0 _ (fun k _ hk=>by rw [hno k (by omega),Bool.and_false])]
       have:∀(l:List Ent) (i:Nat) (m:List (Nat×Blk)),dq P sig own ops rid (fun _=>false) l i m=some m:=by
        intro l
        induction l with
        |nil=>intro i m;rfl
        |cons x l ih=>intro i m;simp only [dq,Ab,if_false];exact ih _ _
       exact this _ _ _
      ·rw [c1 _ (Ac _)]
       exact hrel2.setN 0
    ·cases hx
   ·cases hx
  ·cases hx
 ·cases hx
end
end Go.X
/- Where several ways come together. -/
namespace Go.X
open Go Go.RowKit
theorem Hk0 {η:List PV} {es:List E} {vs:List PV} (h:E.evs η es=some vs) {j:Nat} {e:E} (he:es[j]? =some e):∃p,vs[j]? =some p∧e.ev η=some p:=(Oc h).2 j e he
section
variable {η ζ vs:List PV} {es:List E} {n:Nat}
theorem Qf (hvs:E.evs (η++ζ) es=some vs) (hn:η.length=n) {x y:E} (h:Dm3 es n x y=true) {p:PV} (hp:x.ev (η++ζ)=some p):y.ev (η++vs)=some p:=by
 have hh:∀k,k<n→(η++ζ)[k]? =(η++vs)[k]? :=fun k hk=>by rw [A8 (by omega),A8 (by omega)]
 unfold Dm3 at h
 split at h
 ·rename_i k
  split at h
  ·rename_i hk
   split at h
   ·rename_i e he
    have:=E.same_eq _ _ h
    subst this
    obtain ⟨q,hq,hq2⟩:=Hk0 hvs he
    rw [hp] at hq2;injection hq2 with hq2;subst hq2
    simp only [E.ev]
    rw [A5 (by omega),hn]
    exact hq
   ·cases h
  ·rename_i hk
   have:=E.same_eq _ _ h
   subst this
   rw [←E.ev_scp hh _ (by simp only [E.scp,decide_eq_true_eq];omega)]
   exact hp
 ·simp only [Aq] at h
  have:=E.same_eq _ _ h.1
  subst this
  rw [←E.ev_scp hh _ h.2];exact hp
structure Mv (C C':Cx) (n:Nat) (R:List (Nat×SV)):Prop where
 ev:∀x:E,x.scp n=true→x.ev C'.η=x.ev C.η
 M:C.M.Le C'.M
 at_:∀s,G6 R s=none→C'.β s=C.β s∧C'.hv s=C.hv s
 arr:∀s e sz x ro xs,G6 R s=none→Dz8 C'.m s=true→mget C.m s=some (.arr e sz x ro)→x.ev C.η=some (.l sz xs)→∃e' x' ro',mget C'.m s=some (.arr e' sz x' ro')∧x'.ev C'.η=some (.l sz xs)
mutual
theorem Ap.mv {C C':Cx} {n:Nat} {R:List (Nat×SV)} (h:Mv C C' n R):∀(x:SV) (v:Value),x.scp n=true→x.okM C'.m R=true→Ap C x v→Ap C' x v
 | .e x,v,hs,hk,hr=>by
   simp only [Ap,SV.scp] at hs hr ⊢
   obtain ⟨p,h1,h2⟩:=hr
   exact ⟨p,by rw [h.ev _ hs];exact h1,h2.mono h.M⟩
 | .nil _,v,hs,hk,hr=>by simpa only [Ap] using hr
 | .lit sz x,v,hs,hk,hr=>by
   simp only [Ap,SV.scp] at hs hr ⊢
   obtain ⟨xs,a,h1,h2,h3⟩:=hr
   exact ⟨xs,a,by rw [h.ev _ hs];exact h1,h2,h3.mono h.M⟩
 | .may g x,v,hs,hk,hr=>by
   simp only [Ap,SV.scp,SV.okM,Aq] at hs hk hr ⊢
   obtain ⟨b,h1,h2,h3⟩:=hr
   exact ⟨b,by rw [h.ev _ hs.1];exact h1,fun hb=>Ap.mv h x v hs.2 hk (h2 hb),h3⟩
 | .und,v,hs,hk,hr=>by simp only [Ap]
 | .bp s off,v,hs,hk,hr=>by
   simp only [Ap,SV.okM,B8] at hk hr ⊢
   rw [(h.at_ s hk).1];exact hr
 | .ip x off,v,hs,hk,hr=>by
   simp only [Ap,SV.scp] at hs hr ⊢
   obtain ⟨p,h1,h2⟩:=hr
   exact ⟨p,by rw [h.ev _ hs];exact h1,h2.mono h.M⟩
 | .ap s i off,v,hs,hk,hr=>by
   simp only [Ap,SV.scp,SV.okM,Aq,B8] at hs hk hr ⊢
   obtain ⟨e,sz,x,ro,xs,k,iv,h1,h2,h3,h4,h5,h6⟩:=hr
   obtain ⟨e',x',ro',g1,g2⟩:=h.arr s e sz x ro xs hk.1 hk.2 h1 h2
   exact ⟨e',sz,x',ro',xs,k,iv,g1,g2,by rw [h.ev _ hs];exact h3,h4,h5,by rw [(h.at_ s hk.1).1];exact h6⟩
 | .suf s i,v,hs,hk,hr=>by
   simp only [Ap,SV.scp,SV.okM,Aq,B8] at hs hk hr ⊢
   obtain ⟨e,sz,x,ro,xs,k,iv,h1,h2,h3,h4,h5,h6⟩:=hr
   obtain ⟨e',x',ro',g1,g2⟩:=h.arr s e sz x ro xs hk.1 hk.2 h1 h2
   exact ⟨e',sz,x',ro',xs,k,iv,g1,g2,by rw [h.ev _ hs];exact h3,h4,h5,by rw [(h.at_ s hk.1).2];exact h6⟩
 | .h s,v,hs,hk,hr=>by
   simp only [Ap,SV.okM,B8] at hk hr ⊢
   rw [(h.at_ s hk).2];exact hr
 | .mh s,v,hs,hk,hr=>by
   simp only [Ap,SV.okM,B8] at hk hr ⊢
   rw [(h.at_ s hk).1];exact hr
 | .slf s T,v,hs,hk,hr=>by
   simp only [Ap,SV.okM,B8] at hk hr ⊢
   rw [(h.at_ s hk).1];exact hr
 | .nilq x,v,hs,hk,hr=>by
   simp only [Ap,SV.scp] at hs hr ⊢
   obtain ⟨sz,xs,b,h1,h2,h3⟩:=hr
   exact ⟨sz,xs,b,by rw [h.ev _ hs];exact h1,h2,h3⟩
 | .tup xs,v,hs,hk,hr=>by
   simp only [Ap,SV.scp,SV.okM] at hs hk hr ⊢
   obtain ⟨us,h1,h2⟩:=hr
   exact ⟨us,h1,A7.mv h xs _ hs hk h2⟩
 | .ag xs,v,hs,hk,hr=>by
   simp only [Ap,SV.scp,SV.okM] at hs hk hr ⊢
   obtain ⟨us,h1,h2,h3⟩:=hr
   exact ⟨us,h1,h2,A7.mv h xs _ hs hk h3⟩
 | .clo g xs,v,hs,hk,hr=>by
   simp only [Ap,SV.scp,SV.okM] at hs hk hr ⊢
   obtain ⟨us,h1,h2⟩:=hr
   exact ⟨us,h1,A7.mv h xs _ hs hk h2⟩
theorem A7.mv {C C':Cx} {n:Nat} {R:List (Nat×SV)} (h:Mv C C' n R):∀(xs:List SV) (us:List Value),SV.scps n xs=true→SV.okMs C'.m R xs=true→A7 C xs us→A7 C' xs us
 |[],us,hs,hk,hr=>by simpa only [A7] using hr
 |x::xs,us,hs,hk,hr=>by
  simp only [A7,SV.scps,SV.okMs,Aq] at hs hk hr ⊢
  obtain ⟨v,r,rfl,h1,h2⟩:=hr
  exact ⟨v,r,rfl,Ap.mv h x v hs.1 hk.1 h1,A7.mv h xs r hs.2 hk.2 h2⟩
end
theorem Dj8 {C C':Cx} {R:List (Nat×SV)} (hvs:E.evs (η++ζ) es=some vs) (hn:η.length=n) (hC:C.η=η++ζ) (hC':C'.η=η++vs) (hm:Mv C C' n R)
  (hR:∀s s',G6 R s=some (.h s')→C'.hv s=C.hv s') (hR2:∀s z,G6 R s=some (.nil z)→C'.hv s= .slice none 0 0) {x y:SV} (h:wk es n C'.m R x y=true) {v:Value} (hr:Ap C x v):Ap C' y v:=by
 unfold wk at h
 split at h
 ·simp only [Ap]
 ·rename_i y
  split at h
  ·rename_i e he
   obtain ⟨p,hp,hpr⟩:=SV.asE_ok he hr
   simp only [Ap]
   rw [hC] at hp
   exact ⟨p,by rw [hC'];exact Qf hvs hn h hp,hpr.mono hm.M⟩
  ·cases h
 ·rename_i s
  simp only [Ap]
  split at h
  ·rename_i s' hl
   split at h
   ·simp only [beq_iff_eq] at h;subst h
    simp only [Ap] at hr
    rw [hR s _ hl];exact hr
   ·cases h
  ·rename_i z hl
   split at h
   ·simp only [Ap] at hr
    rw [hR2 s _ hl];exact hr
   ·cases h
  ·cases h
  ·rename_i hl
   split at h
   ·simp only [beq_iff_eq] at h;subst h
    simp only [Ap] at hr
    rw [(hm.at_ _ hl).2];exact hr
   ·cases h
 ·simp only [Aq] at h
  have:=SV.same_eq _ _ h.1.1
  subst this
  exact Ap.mv hm _ _ h.1.2 h.2 hr
theorem Qd {C C':Cx} {R:List (Nat×SV)} (hvs:E.evs (η++ζ) es=some vs) (hn:η.length=n) (hC:C.η=η++ζ) (hC':C'.η=η++vs) (hm:Mv C C' n R)
  (hR:∀s s',G6 R s=some (.h s')→C'.hv s=C.hv s') (hR2:∀s z,G6 R s=some (.nil z)→C'.hv s= .slice none 0 0):∀{xs ys:List SV},Ip es n C'.m R xs ys=true→∀{us:List Value},A7 C xs us→A7 C' ys us
 |[],[],_,us,hr=>by simpa only [A7] using hr
 |x::xs,y::ys,h,us,hr=>by
  simp only [Ip,Aq] at h
  simp only [A7] at hr ⊢
  obtain ⟨v,r,rfl,h1,h2⟩:=hr
  exact ⟨v,r,rfl,Dj8 hvs hn hC hC' hm hR hR2 h.1 h1,Qd hvs hn hC hC' hm hR hR2 h.2 h2⟩
 |[],_::_,h,_,_=>by simp [Ip] at h
 |_::_,[],h,_,_=>by simp [Ip] at h
end
theorem Dy3 {m:List (Nat×Blk)} {s:Nat} {b:Blk} (h:mget m s=some b):(s,b)∈m:=by
 induction m with
 |nil=>simp [mget] at h
 |cons p m ih=>
  obtain ⟨k,b'⟩:=p
  simp only [mget] at h
  split at h
  ·rename_i hk;subst hk;injection h with h;subst h;exact .head _
  ·exact .tail _ (ih h)
theorem Lc {R:List (Nat×SV)} {s s':Nat} (h:G6 R s=some (.h s')):s'∈z8 R:=by
 induction R with
 |nil=>simp [G6] at h
 |cons p R ih=>
  obtain ⟨k,x⟩:=p
  simp only [G6] at h
  split at h
  ·injection h with h;subst h;simp [z8]
  ·have:=ih h
   cases x<;>simp [z8,this]
theorem y0 {R:List (Nat×SV)} (hg:Zk (z8 R)=true) {s1 s2 s':Nat} (h1:G6 R s1=some (.h s')) (h2:G6 R s2=some (.h s')):s1=s2:=by
 induction R with
 |nil=>simp [G6] at h1
 |cons p R ih=>
  obtain ⟨k,x⟩:=p
  simp only [G6] at h1 h2
  have hg':Zk (z8 R)=true:=by
   cases x<;>simp only [z8,Zk,Aq] at hg<;>first|exact hg|exact hg.2
  by_cases hk1:k=s1
  ·by_cases hk2:k=s2
   ·rw [←hk1,←hk2]
   ·rw [if_pos hk1] at h1
    rw [if_neg hk2] at h2
    injection h1 with h1;subst h1
    simp only [z8,Zk,Aq,A3,List.contains_eq_mem,decide_eq_false_iff_not] at hg
    exact absurd (Lc h2) hg.1
  ·rw [if_neg hk1] at h1
   by_cases hk2:k=s2
   ·rw [if_pos hk2] at h2
    injection h2 with h2;subst h2
    simp only [z8,Zk,Aq,A3,List.contains_eq_mem,decide_eq_false_iff_not] at hg
    exact absurd (Lc h1) hg.1
   ·rw [if_neg hk2] at h2
    exact ih hg' h1 h2
end Go.X
/- A state that arrives where several ways come together. -/
namespace Go.X
open Go Go.RowKit
section
variable {w0:Fr} {Oe:Nat→Option Nat} {η ζ vs:List PV} {es:List E} {n:Nat} {σ' σh:St} {tm:Array Value} {w:World} {β:Nat→Nat} {hv:Nat→Value} {O:Nat→Option Nat}
def N9 (R:List (Nat×SV)) (β:Nat→Nat) (s:Nat):Nat:=match G6 R s with|some (.h s')=>β s'|some _=>0|none=>β s
def Tq (R:List (Nat×SV)) (hv:Nat→Value) (s:Nat):Value:=match G6 R s with|some (.h s')=>hv s'|some _=> .slice none 0 0|none=>hv s
theorem Fk4 {es:List E} {n s' T':Nat} {m:List (Nat×Blk)} {R:List (Nat×SV)} {xs ys:List SV} (h:Ip es n m R xs ys=true) (hy:ys[0]? =some (.slf s' T')):xs[0]? =some (.slf s' T'):=by
 cases ys with
 |nil=>simp at hy
 |cons y ys=>
  simp only [Cc,Option.some.injEq] at hy
  subst hy
  cases xs with
  |nil=>simp [Ip] at h
  |cons x xs=>
   simp only [Ip,wk,Aq] at h
   rw [SV.same_eq _ _ h.1.1.1];rfl
theorem S9 {m:List (Nat×Blk)} {R:List (Nat×SV)}:∀{xs ys:List SV},Ip es n m R xs ys=true→∀{j:Nat} {y:SV},ys[j]? =some y→∃x,xs[j]? =some x∧wk es n m R x y=true
 |[],[],_,j,y,hy=>by simp at hy
 |x::xs,y::ys,h,j,z,hz=>by
  simp only [Ip,Aq] at h
  cases j with
  |zero=>simp at hz;subst hz;exact ⟨x,rfl,h.1⟩
  |succ j=>simpa using S9 h.2 (j:=j) (by simpa using hz)
 |[],_::_,h,_,_,_=>by simp [Ip] at h
 |_::_,[],h,_,_,_=>by simp [Ip] at h
theorem T5 {k:Nat}:∀{R:List (Nat×SV)},(R.map (·.1)).contains k=false→G6 R k=none
 |[],_=>rfl
 |(a,x)::R,h=>by
  simp only [Ec,List.contains_cons,H9,beq_eq_false_iff_ne,ne_eq] at h
  simp only [G6]
  rw [if_neg (fun e=>h.1 e.symm)]
  exact T5 h.2
theorem Sq {p:Pat} (h:Pw σ' σh n p=some es) (hvs:E.evs (η++ζ) es=some vs) (hn:η.length=n) (hr:Xk w0 Oe (η++ζ) σ' tm w):Xk w0 Oe (η++vs) σh tm w∧(η++vs).length=σh.n:=by
 unfold Pw at h
 split at h
 ·rename_i es' _
  dsimp only at h
  split at h
  ·rename_i hc
   injection h with h
   subst h
   simp only [Aq,beq_iff_eq,Bj,A3] at hc
   obtain ⟨⟨⟨⟨⟨hT,hM⟩,hg⟩,_⟩,hS0⟩,hN⟩:=hc
   generalize rens σ' p.items=R at hT hM hg hS0
   obtain ⟨β,hv,O,rel⟩:=hr
   let C:Cx:=⟨η++ζ,Bg w O,β,hv,σ'.m⟩
   let C':Cx:=⟨η++vs,Bg w O,N9 R β,Tq R hv,σh.m⟩
   have hh:∀k,k<n→(η++vs)[k]? =(η++ζ)[k]? :=fun k hk=>by rw [A8 (by omega),A8 (by omega)]
   have hblk:∀s b,mget σh.m s=some b→Yj es' n σh.m R σ'.m s=true:=fun s b hb=>hM (s,b) (Dy3 hb)
   have hmv:Mv C C' n R:=by
    refine ⟨fun x hx=>E.ev_scp hh x hx,Vw.Le.refl _,fun s hs=>⟨by simp only [C',C,N9,hs],by simp only [C',C,Tq,hs]⟩,fun s e sz x ro xs hs ha hx hx2=> ?_⟩
    have ha':Dz8 σh.m s=true:=ha
    unfold Dz8 at ha'
    split at ha'
    ·rename_i e' sz' y ro' hb
     have hx':mget σ'.m s=some (.arr e sz x ro):=hx
     have:=hblk s _ hb
     unfold Yj at this
     rw [hs,hx',hb] at this
     simp only [Aq,beq_iff_eq] at this
     obtain ⟨_,⟨⟨h1,h2⟩,h3⟩,h4⟩:=this
     subst h2
     exact ⟨e',y,ro',hb,Qf hvs hn h4 hx2⟩
    ·cases ha'
   have hR1:∀s s',G6 R s=some (.h s')→C'.hv s=C.hv s':=fun s s' hl=>by simp only [C',C,Tq,hl]
   have hR2:∀s z,G6 R s=some (.nil z)→C'.hv s= .slice none 0 0:=fun s z hl=>by simp only [C',Tq,hl]
   have from_:∀s b,mget σh.m s=some b→Has C' s b→∃s0 b0,mget σ'.m s0=some b0∧Has C s0 b0∧N9 R β s=β s0∧((G6 R s=some (.h s0))∨(G6 R s=none∧s0=s∧s∉z8 R)):=by
    intro s b hb hhas
    have:=hblk s b hb
    unfold Yj at this
    split at this
    ·rename_i s' hl
     split at this
     ·rename_i e sz x e' sz' y h1 h2
      rw [hb] at h2
      injection h2 with h2
      subst h2
      have hhas':B5 (Tq R hv s)=some (N9 R β s):=hhas
      simp only [Tq,N9,hl] at hhas'
      exact ⟨s',_,h1,hhas',by simp only [N9,hl], .inl hl⟩
     ·cases this
    ·rename_i z hl
     split at this
     ·rename_i e sz y h2
      rw [hb] at h2
      injection h2 with h2
      subst h2
      have hhas':B5 (Tq R hv s)=some (N9 R β s):=hhas
      simp only [Tq,hl,B5] at hhas'
      cases hhas'
     ·cases this
    ·cases this
    ·rename_i hl
     simp only [Aq,A3,List.contains_eq_mem,decide_eq_false_iff_not] at this
     obtain ⟨hgs,this⟩:=this
     split at this
     ·rename_i xs ro ys ro' h1 h2
      exact ⟨s,_,h1,trivial,by simp only [N9,hl], .inr ⟨hl,rfl,hgs⟩⟩
     ·rename_i e sz x ro e' sz' y ro' h1 h2
      rw [hb] at h2
      injection h2 with h2
      subst h2
      have hhas':B5 (Tq R hv s)=some (N9 R β s):=hhas
      simp only [Tq,N9,hl] at hhas'
      exact ⟨s,_,h1,hhas',by simp only [N9,hl], .inr ⟨hl,rfl,hgs⟩⟩
     ·rename_i x ro y ro' h1 h2
      exact ⟨s,_,h1,trivial,by simp only [N9,hl], .inr ⟨hl,rfl,hgs⟩⟩
     ·cases this
   have evs_len:vs.length=es'.length:=(Oc hvs).1
   refine ⟨⟨N9 R β,Tq R hv,O,rel.bel,rel.ext,rel.out,Qd hvs hn rfl rfl hmv hR1 hR2 hT rel.tmps,fun s b hb=> ?_,fun s1 s2 b1 b2 h1 h2 h12 k1 k2=> ?_,fun v hv0 ht=> ?_⟩,by rw [Az,hn,evs_len,hN]⟩
   ·have:=hblk s b hb
    unfold Yj at this
    have copy:∀s' e sz x ro y,mget σ'.m s'=some (.arr e sz x ro)→Dm3 es' n x y=true→N9 R β s=β s'→Tq R hv s=hv s'→Jb C' w O w0.ok s (.arr e sz y ro):=by
     intro s' e sz x ro y h1 h2 h3 h4
     obtain ⟨q0,xs,us,q1,q2,q3,q4⟩:=rel.mem s' _ h1
     refine ⟨q0,xs,us,Qf hvs hn h2 q1,?_,q3,?_⟩
     ·show Own w w0.ok e sz (Tq R hv s) xs.length us
      rw [h4];exact q2
     ·intro g hg'
      have hg2:B5 (Tq R hv s)=some g:=hg'
      rw [h4] at hg2
      obtain ⟨q5,q6⟩:=q4 g hg2
      exact ⟨by show g=N9 R β s;rw [h3];exact q5,q6⟩
    split at this
    ·rename_i s' hl
     split at this
     ·rename_i e sz x e' sz' y h1 h2
      rw [hb] at h2
      injection h2 with h2
      subst h2
      simp only [Aq,beq_iff_eq] at this
      obtain ⟨⟨rfl,rfl⟩,h3⟩:=this
      exact copy s' e sz x false y h1 h3 (by simp only [N9,hl]) (by simp only [Tq,hl])
     ·cases this
    ·rename_i z hl
     split at this
     ·rename_i e sz y h2
      rw [hb] at h2
      injection h2 with h2
      subst h2
      simp only [Aq,decide_eq_true_eq] at this
      refine ⟨this.1,[],[],Qf (p:= .l sz []) hvs hn this.2 rfl,?_,fun i x hx=>by simp at hx,fun g hg'=> ?_⟩
      ·show Own w w0.ok e sz (Tq R hv s) 0 []
       simp only [Tq,hl]
       exact ⟨by simp, .inl ⟨none,rfl,rfl⟩⟩
      ·have hg2:B5 (Tq R hv s)=some g:=hg'
       simp only [Tq,hl,B5] at hg2
       cases hg2
     ·cases this
    ·cases this
    ·rename_i hl
     simp only [Aq] at this
     obtain ⟨_,this⟩:=this
     split at this
     ·rename_i xs ro ys ro' h1 h2
      rw [hb] at h2
      injection h2 with h2
      subst h2
      simp only [Aq,beq_iff_eq] at this
      obtain ⟨rfl,h3⟩:=this
      obtain ⟨q1,q2,us,T,q3,q4,q5,q6⟩:=rel.mem s _ h1
      have hβ:N9 R β s=β s:=by simp only [N9,hl]
      refine ⟨by show w0.ok (N9 R β s);rw [hβ];exact q1,fun hro=>by show O (N9 R β s)=_;rw [hβ];exact q2 hro,us,T,by show w.heap[N9 R β s]? =_;rw [hβ];exact q3,q4,?_,fun s' T' hh=>q6 s' T' (Fk4 h3 hh)⟩
      exact Qd hvs hn rfl rfl hmv hR1 hR2 h3 q5
     ·rename_i e sz x ro e' sz' y ro' h1 h2
      rw [hb] at h2
      injection h2 with h2
      subst h2
      simp only [Aq,beq_iff_eq] at this
      obtain ⟨⟨⟨rfl,rfl⟩,rfl⟩,h3⟩:=this
      exact copy s e sz x ro y h1 h3 (by simp only [N9,hl]) (by simp only [Tq,hl])
     ·rename_i x ro y ro' h1 h2
      rw [hb] at h2
      injection h2 with h2
      subst h2
      simp only [Aq,beq_iff_eq] at this
      obtain ⟨rfl,h3⟩:=this
      obtain ⟨q1,q2,qs,ents,clock,q3,q4,q5⟩:=rel.mem s _ h1
      have hβ:N9 R β s=β s:=by simp only [N9,hl]
      exact ⟨by show w0.ok (N9 R β s);rw [hβ];exact q1,fun hro=>by show O (N9 R β s)=_;rw [hβ];exact q2 hro,qs,ents,clock,Qf hvs hn h3 q3,by show w.heap[N9 R β s]? =_;rw [hβ];exact q4,q5⟩
     ·cases this
   ·obtain ⟨s1',c1,m1,p1,q1,r1⟩:=from_ s1 b1 h1 k1
    obtain ⟨s2',c2,m2,p2,q2,r2⟩:=from_ s2 b2 h2 k2
    rw [q1,q2]
    refine rel.inj s1' s2' c1 c2 m1 m2 (fun he=> ?_) p1 p2
    subst he
    rcases r1 with r1|⟨_,r1,r1'⟩<;>rcases r2 with r2|⟨_,r2,r2'⟩
    ·exact h12 (y0 hg r1 r2)
    ·exact r2' (by rw [←r2];exact Lc r1)
    ·exact r1' (by rw [←r1];exact Lc r2)
    ·exact h12 (by rw [←r1,←r2])
   ·obtain ⟨x,hx,hs⟩:=S9 hT ht
    have hno:G6 R S0=none:=T5 hS0
    simp only [wk,hno] at hs
    split at hs
    ·rename_i s'
     simp only [beq_iff_eq] at hs
     subst hs
     exact rel.t0 v hv0 hx
    ·cases hs
  ·cases h
 ·cases h
end
end Go.X
/- Code. -/
namespace Go.X
open Go Go.RowKit
theorem G8 {fn:Fns} {N id:Nat}:∀(t:T) (η:List PV) (vs:List PV),t.yields id=false→t.ev fn N η=some (.yld id vs)→False
 | .w x k,η,vs,h,he=>by
   simp only [T.ev,Aj] at he
   obtain ⟨η',_,he⟩:=he
   exact G8 k η' vs h he
 | .ite c t e,η,vs,h,he=>by
   simp only [T.yields,H9] at h
   simp only [T.ev,Aj] at he
   obtain ⟨r,_,he⟩:=he
   split at he
   ·exact G8 t η vs h.1 he
   ·exact G8 e η vs h.2 he
   ·cases he
 | .ret es,η,vs,h,he=>by
   simp only [T.ev,Aw] at he
   obtain ⟨_,_,he⟩:=he
   cases he
 | .yld j es,η,vs,h,he=>by
   simp only [T.ev,Aw] at he
   obtain ⟨_,_,he⟩:=he
   injection he with h1 h2
   simp only [T.yields,beq_eq_false_iff_ne,ne_eq] at h
   exact h h1
 | .blk j b k,η,vs,h,he=>by
   simp only [T.yields,H9] at h
   simp only [T.ev,Aj] at he
   obtain ⟨o,ho,he⟩:=he
   split at he
   ·rename_i j' us
    split at he
    ·exact G8 k _ vs h.2 he
    ·injection he with he
     injection he with h1 h2
     subst h1
     exact G8 b η us h.1 ho
   ·cases he
 | .loop j es b,η,vs,h,he=>by
   simp only [T.ev,Aj] at he
   obtain ⟨st,_,he⟩:=he
   have key:∀m st,F1 (fun vs=>b.ev fn N (η++vs)) j m st=some (.yld id vs)→False:=by
    intro m
    induction m with
    |zero=>intro st h;simp [F1] at h
    |succ m ih=>
     intro st hr
     simp only [F1,Aj] at hr
     obtain ⟨o,ho,hr⟩:=hr
     split at hr
     ·rename_i j' us
      split at hr
      ·exact ih _ hr
      ·injection hr with hr
       injection hr with h1 h2
       subst h1
       exact G8 b _ us h ho
     ·cases hr
   exact key N st he
theorem oj {fn:Fns} {N:Nat} {η:List PV} {o:Out}:∀{t:T},t.ev fn N η=some o→t.strip.ev fn N η=some o
 | .w (.chk x) k,h=>by
   simp only [T.ev,W.ev,Aj,Aw] at h
   obtain ⟨η',⟨_,_,rfl⟩,h⟩:=h
   simp only [T.strip]
   exact oj h
 | .w (.call ..) k,h| .w (.clo ..) k,h| .w (.mcall ..) k,h| .ite ..,h| .ret ..,h| .yld ..,h| .blk ..,h| .loop ..,h=>h
theorem Dx8 {fn:Fns} {N:Nat} {η:List PV} {o:Out} {ex:E} {ta tb:T} {sz:Nat} (h:Fw7 ex ta tb=true) (hex:ex.ev η=some (.l sz [])) (hb:tb.ev fn N η=some o):ta.ev fn N η=some o:=by
 have hb':=oj hb
 unfold Fw7 at h
 split at h
 ·rename_i sz1 s1 s2 y heq
  simp only [Aq,beq_iff_eq] at h
  obtain ⟨⟨rfl,rfl⟩,h3⟩:=h
  have:=E.same_eq _ _ h3
  subst this
  rw [heq] at hb'
  simp only [T.ev,E.evs,E.ev,hex,Ax,H2] at hb'
  split at hb'
  ·rename_i hc
   obtain ⟨_,rfl,_⟩:=hc
   simpa [T.ev,E.evs,E.ev] using hb'
  ·simp at hb'
 ·cases h
theorem Tc {id:Nat} {r:Option T} {t:T} (h:Zq id r=some t):r=some t∧t.yields id=false:=by
 unfold Zq at h
 obtain ⟨u,h1,h2⟩:=Aj.1 h
 split at h2
 ·cases h2
 ·rename_i hy
  injection h2 with h2
  subst h2
  exact ⟨h1,by simpa using hy⟩
theorem Ay2 {P:Program} {Q:Exit→Act→World→Prop} {a:Act} {w:World} {c:Code} {n:Nat} (I:Nat→Act→World→Prop) (h₀:I n a w)
  (round:∀n a w,I n a w→c.wp P (Exit.then (fun a' w'=>∃m,m<n∧I m a' w') Q) a w):(Code.loop c).wp P Q a w:=by
 intro b k cs
 have key:∀n a w,I n a w→∃e a' w',Q e a' w'∧Arrives P (lone (b.at a (.code c:: .inLoop c::k)) cs w) b k cs e a' w':=by
  intro n
  induction n using Nat.strongRecOn with
  |_ n ih=>
   intro a w hI
   obtain ⟨e,a₁,w₁,hq,harr⟩:=round n a w hI b (.inLoop c::k) cs
   cases e with
   |normal=>
    obtain ⟨m,hlt,hI₁⟩:=hq
    obtain ⟨e₂,a₂,w₂,hq₂,harr₂⟩:=ih m hlt a₁ w₁ hI₁
    exact ⟨e₂,a₂,w₂,hq₂, .of_steps (Steps.trans harr (.one step_inLoop)) harr₂⟩
   |exit id=>exact ⟨_,a₁,w₁,hq, .pass (x:= .inLoop c) rfl (fun _ _=> .inl (by simp)) harr⟩
   |goto l=>exact ⟨_,a₁,w₁,hq, .pass (x:= .inLoop c) rfl (fun _ _=> .inl (by simp)) harr⟩
   |ret=>exact ⟨_,a₁,w₁,hq, .pass (x:= .inLoop c) rfl (fun _ _=> .inl (by simp)) harr⟩
   |panic ch=>exact ⟨_,a₁,w₁,hq, .pass (x:= .inLoop c) rfl (fun _ _=> .inl (by simp)) harr⟩
   |outgrown=>exact ⟨_,a₁,w₁,hq, .pass (x:= .inLoop c) rfl (fun _ _=> .inl (by simp)) harr⟩
 obtain ⟨e,a',w',hq,harr⟩:=key n a w h₀
 exact ⟨e,a',w',hq, .of_steps (.one step_loop) harr⟩
def SX.exit':SX→Exit
 | .normal=> .normal
 | .exit b=> .exit b
 | .ret=> .ret
section
variable {P:Program} {sig:Nat→Option Nat} {fn:Fns} {w0:Fr} {Oe:Nat→Option Nat} {N:Nat}
def KOk (fn:Fns) (N:Nat) (w0:Fr) (Oe:Nat→Option Nat) (k:K) (η:List PV) (o:Out) (ds:List Deferred) (Q:Exit→Act→World→Prop):Prop:=
 ∀x σ' T' η' ζ a' w',k x σ'=some T'→T'.ev fn N η'=some o→η'=η++ζ→η'.length=σ'.n→Xk w0 Oe η' σ' a'.tmps w'→a'.defers=ds→Q x.exit' a' w'
theorem KOk.ext {k:K} {η ζ:List PV} {o:Out} {ds:List Deferred} {Q:Exit→Act→World→Prop} (h:KOk fn N w0 Oe k η o ds Q):KOk fn N w0 Oe k (η++ζ) o ds Q:=
 fun x σ' T' η' ζ' a' w' h1 h2 h3 h4 h5 h6=>h x σ' T' η' (ζ++ζ') a' w' h1 h2 (by rw [h3,Ar]) h4 h5 h6
theorem Xk.env {η:List PV} {σ:St} {tm:Array Value} {w:World} (h:Xk w0 Oe η σ tm w) (ζ:List PV):Xk w0 Oe (η++ζ) σ tm w:=by
 obtain ⟨β,hv,O,h⟩:=h
 exact ⟨β,hv,O,h.env ζ⟩
theorem Er3 {p:Pat} {σ σh:St} {k:K} {η:List PV} {o:Out} {ds:List Deferred} {Q:Exit→Act→World→Prop} {d:Nat} {body tk:T} (hev:(T.blk d body tk).ev fn N η=some o) (hn:η.length=σ.n)
  (htk:k .normal σh=some tk) (hk:KOk fn N w0 Oe k η o ds Q):
  ∃o1,body.ev fn N η=some o1∧∀(x:SX) (σ':St) (T':T) (η' ζ:List PV) (a':Act) (w':World),
   ((∃y,(Pw σ' σh σ.n p).map (.yld d)=some T'∧x=y∧y= .normal)∨Zq d (k x σ')=some T')→T'.ev fn N η'=some o1→η'=η++ζ→η'.length=σ'.n→Xk w0 Oe η' σ' a'.tmps w'→a'.defers=ds→Q x.exit' a' w':=by
 simp only [T.ev,Aj] at hev
 obtain ⟨o1,ho1,hev⟩:=hev
 refine ⟨o1,ho1,fun x σ' T' η' ζ a' w' h1 h2 h3 h4 h5 h6=> ?_⟩
 rcases h1 with ⟨y,h1,rfl,rfl⟩|h1
 ·obtain ⟨es,ha,rfl⟩:=Aw.1 h1
  simp only [T.ev,Aw] at h2
  obtain ⟨vs,hvs,rfl⟩:=h2
  simp only [if_true] at hev
  subst h3
  obtain ⟨g1,g2⟩:=Sq ha hvs hn h5
  exact hk .normal σh tk (η++vs) vs a' w' htk hev rfl g2 g1 h6
 ·obtain ⟨h1,hy⟩:=Tc h1
  have:o1=o:=by
   split at hev
   ·rename_i j vs
    split at hev
    ·rename_i hj;subst hj;exact (G8 T' η' vs hy h2).elim
    ·injection hev
   ·injection hev
  subst this
  exact hk x σ' T' η' ζ a' w' h1 h2 h3 h4 h5 h6
theorem N2 (hC:Contract P sig fn) {H:Hints}:∀(c:Code) (lb d:Nat) (σ:St) (k:K) (t:T) (η:List PV) (o:Out) (a:Act) (w:World) (Q:Exit→Act→World→Prop),sx P sig H c lb d σ k=some t→t.ev fn N η=some o→η.length=σ.n→Xk w0 Oe η σ a.tmps w→
  KOk fn N w0 Oe k η o a.defers Q→c.wp P Q a w
 | .skip,lb,d,σ,k,t,η,o,a,w,Q,hs,he,hn,hr,hk=>by
   simp only [sx] at hs
   exact wp_skip (hk .normal σ t η [] a w hs he (by simp) hn hr rfl)
 | .exit id,lb,d,σ,k,t,η,o,a,w,Q,hs,he,hn,hr,hk=>by
   simp only [sx] at hs
   exact wp_exit (hk (.exit id) σ t η [] a w hs he (by simp) hn hr rfl)
 | .ret,lb,d,σ,k,t,η,o,a,w,Q,hs,he,hn,hr,hk=>by
   simp only [sx] at hs
   exact wp_ret (hk .ret σ t η [] a w hs he (by simp) hn hr rfl)
 | .region id ops draw,lb,d,σ,k,t,η,o,a,w,Q,hs,he,hn,hr,hk=>by
   simp only [sx] at hs
   split at hs
   ·rename_i ws σ' hx
    obtain ⟨t',hk',rfl⟩:=Aw.1 hs
    rw [lg] at he
    obtain ⟨η2,hw,he⟩:=Aj.1 he
    obtain ⟨ζ,rfl⟩:=H4 hw
    cases draw with
    |true=>
     simp only [if_true] at hx
     refine (lw (w0:=w0) (Oe:=Oe) hC (hr.env ζ) hx hw (ζ:=[]) (by simp) hn (Q:=Q) (fun a' w' hd hr'=> ?_)).1
     have hlen:=(lw (w0:=w0) (Oe:=Oe) (a:=a) (w:=w) (Q:=fun _ _ _=>True) hC (hr.env ζ) hx hw (ζ:=[]) (by simp) hn (fun _ _ _ _=>trivial)).2
     exact hk .normal σ' t' _ ζ a' w' hk' he rfl hlen hr' hd
    |false=>
     simp only [Ab,if_false] at hx
     refine wp_region ?_
     have:=Aw6 (w0:=w0) (Oe:=Oe) hC (Q:=Q) ops.toList 0 σ a w η (η++ζ) [] ws σ' (fun k o hk=>by simpa using hk) (hr.env ζ) hx hw (by simp) hn (fun a' w' hd hr'=>hk .normal σ' t' _ ζ a' w' hk' he rfl (lv _ _ _ _ _ _ _ hx hw hn) hr' hd)
     rw [List.range_eq_range']
     simpa using this
   ·split at hs
    ·injection hs with hs
     subst hs
     simp [T.bot,T.ev,E.evs,E.ev,PV.scal] at he
    ·cases hs
 | .seq x y,lb,d,σ,k,t,η,o,a,w,Q,hs,he,hn,hr,hk=>by
   simp only [sx] at hs
   refine wp_seq (N2 hC x lb d σ _ t η o a w _ hs he hn hr fun z σ' T' η' ζ a' w' h1 h2 h3 h4 h5 h6=> ?_)
   cases z with
   |normal=>
    simp only at h1
    show y.wp P Q a' w'
    refine N2 hC y lb d σ' k T' η' o a' w' Q h1 h2 h4 h5 ?_
    rw [h6,h3];exact hk.ext
   |exit b=>exact hk _ σ' T' η' ζ a' w' h1 h2 h3 h4 h5 h6
   |ret=>exact hk _ σ' T' η' ζ a' w' h1 h2 h3 h4 h5 h6
 | .cond c x y,lb,d,σ,k,t,η,o,a,w,Q,hs,he,hn,hr,hk=>by
   have hbool:∀ec,Fv P σ none 0 c=some ec→∀b,ec.ev η=some (.b b)→a.eval c= .bool b:=by
    intro ec hec b hb
    obtain ⟨β,hv,O,rel⟩:=hr
    obtain ⟨p,hp,hpr⟩:=Dq (ds:=a.defers) (C:=⟨η,Bg w O,β,hv,σ.m⟩) (G:=none) (fun g hg=>by cases hg) rfl hec rel.tmps
    have hp':ec.ev η=some p:=hp
    rw [hb] at hp';injection hp' with hp';subst hp'
    exact hpr.bool
   have plain:∀ec ta tb,Fv P σ none 0 c=some ec→∀(k':K) (d':Nat) (o':Out),sx P sig H x lb d' σ k'=some ta→sx P sig H y lb d' σ k'=some tb→(T.ite ec ta tb).ev fn N η=some o'→KOk fn N w0 Oe k' η o' a.defers Q→(Code.cond c x y).wp P Q a w:=by
    intro ec ta tb hec k' d' o' hta htb he' hk'
    simp only [T.ev,Aj] at he'
    obtain ⟨r,hr',he'⟩:=he'
    split at he'
    ·exact wp_cond_true (hbool ec hec true hr') (N2 hC x lb d' σ k' ta η o' a w Q hta he' hn hr hk')
    ·exact wp_cond_false (hbool ec hec false hr') (N2 hC y lb d' σ k' tb η o' a w Q htb he' hn hr hk')
    ·cases he'
   simp only [sx] at hs
   split at hs
   ·rename_i hec
    exact wp_cond_true (hbool _ hec true rfl) (N2 hC x lb d σ k t η o a w Q hs he hn hr hk)
   ·rename_i hec
    exact wp_cond_false (hbool _ hec false rfl) (N2 hC y lb d σ k t η o a w Q hs he hn hr hk)
   ·rename_i ec _ _ hec
    split at hs
    ·split at hs
     ·rename_i ta tb hta htb
      injection hs with hs
      subst hs
      exact plain ec ta tb hec k d o hta htb he hk
     ·cases hs
    ·rename_i p _
     split at hs
     ·cases hs
     ·rename_i σh _
      split at hs
      ·rename_i ta tb tk hta htb htk
       injection hs with hs
       subst hs
       obtain ⟨o1,ho1,hgo⟩:=Er3 (p:=p) he hn htk hk
       refine plain ec ta tb hec _ (d+1) o1 hta htb ho1 fun z σ' T' η' ζ a' w' h1 h2 h3 h4 h5 h6=>hgo z σ' T' η' ζ a' w' ?_ h2 h3 h4 h5 h6
       cases z with
       |normal=>exact .inl ⟨.normal,h1,rfl,rfl⟩
       |exit b=>exact .inr h1
       |ret=>exact .inr h1
      ·cases hs
   ·split at hs
    ·rename_i ex hq
     split at hs
     ·rename_i ta tb hta htb
      split at hs
      ·rename_i hnil
       injection hs with hs
       subst hs
       obtain ⟨sz,xs,b,hex,hcb,hxs⟩:∃sz xs b,ex.ev η=some (.l sz xs)∧a.eval c= .bool b∧(b=true→xs=[]):=by
        obtain ⟨β,hv,O,rel⟩:=hr
        have hr0:=D8 (ds:=a.defers) (C:=⟨η,Bg w O,β,hv,σ.m⟩) (G:=none) (fun g hg=>by cases hg) rfl hq rel.tmps
        simpa only [Ap] using hr0
       cases b with
       |true=>
        rw [hxs rfl] at hex
        exact wp_cond_true hcb (N2 hC x lb d σ k ta η o a w Q hta (Dx8 hnil hex he) hn hr hk)
       |false=>exact wp_cond_false hcb (N2 hC y lb d σ k _ η o a w Q htb he hn hr hk)
      ·cases hs
     ·cases hs
    ·cases hs
 | .block id c,lb,d,σ,k,t,η,o,a,w,Q,hs,he,hn,hr,hk=>by
   simp only [sx] at hs
   split at hs
   ·refine wp_block (N2 hC c id d σ _ t η o a w _ hs he hn hr fun z σ' T' η' ζ a' w' h1 h2 h3 h4 h5 h6=> ?_)
    cases z with
    |normal=>exact hk .normal σ' T' η' ζ a' w' h1 h2 h3 h4 h5 h6
    |exit b=>
     simp only at h1
     simp only [SX.exit',Exit.inBlock]
     by_cases hb:b=id
     ·rw [if_pos hb] at h1 ⊢
      exact hk .normal σ' T' η' ζ a' w' h1 h2 h3 h4 h5 h6
     ·rw [if_neg hb] at h1 ⊢
      exact hk (.exit b) σ' T' η' ζ a' w' h1 h2 h3 h4 h5 h6
    |ret=>exact hk .ret σ' T' η' ζ a' w' h1 h2 h3 h4 h5 h6
   ·rename_i p _
    split at hs
    ·cases hs
    ·rename_i σh _
     split at hs
     ·rename_i tc tk htc htk
      injection hs with hs
      subst hs
      obtain ⟨o1,ho1,hgo⟩:=Er3 (p:=p) he hn htk hk
      refine wp_block (N2 hC c id (d+1) σ _ tc η o1 a w _ htc ho1 hn hr fun z σ' T' η' ζ a' w' h1 h2 h3 h4 h5 h6=> ?_)
      cases z with
      |normal=>exact hgo .normal σ' T' η' ζ a' w' (.inl ⟨.normal,h1,rfl,rfl⟩) h2 h3 h4 h5 h6
      |exit b=>
       simp only at h1
       simp only [SX.exit',Exit.inBlock]
       by_cases hb:b=id
       ·rw [if_pos hb] at h1 ⊢
        exact hgo .normal σ' T' η' ζ a' w' (.inl ⟨.normal,h1,rfl,rfl⟩) h2 h3 h4 h5 h6
       ·rw [if_neg hb] at h1 ⊢
        exact hgo (.exit b) σ' T' η' ζ a' w' (.inr h1) h2 h3 h4 h5 h6
      |ret=>exact hgo .ret σ' T' η' ζ a' w' (.inr h1) h2 h3 h4 h5 h6
     ·cases hs
 | .loop c,lb,d,σ,k,t,η,o,a,w,Q,hs,he,hn,hr,hk=>by
   simp only [sx] at hs
   split at hs
   ·cases hs
   ·rename_i p _
    split at hs
    ·cases hs
    ·rename_i σh _
     split at hs
     ·rename_i es tb ha htb
      injection hs with hs
      subst hs
      simp only [T.ev,Aj] at he
      obtain ⟨st,hst,he⟩:=he
      have h0:=Sq (η:=η) (ζ:=[]) (vs:=st) ha (by simpa using hst) hn (by simpa using hr)
      refine Ay2 (n:=N) (fun m a' w'=>∃st,F1 (fun vs=>tb.ev fn N (η++vs)) d m st=some o∧Xk w0 Oe (η++st) σh a'.tmps w'∧(η++st).length=σh.n∧a'.defers=a.defers) ⟨st,he,h0.1,h0.2,rfl⟩ ?_
      rintro m a1 w1 ⟨st1,hround,hr1,hn1,hd1⟩
      cases m with
      |zero=>simp [F1] at hround
      |succ m=>
       simp only [F1,Aj] at hround
       obtain ⟨o1,ho1,hround⟩:=hround
       refine N2 hC c lb (d+1) σh _ tb (η++st1) o1 a1 w1 _ htb ho1 hn1 hr1 fun z σ' T' η' ζ a' w' h1 h2 h3 h4 h5 h6=> ?_
       have other:Zq d (k z σ')=some T'→Q z.exit' a' w':=by
        intro h1
        obtain ⟨h1,hy⟩:=Tc h1
        have:o1=o:=by
         split at hround
         ·rename_i j vs
          split at hround
          ·rename_i hj;subst hj;exact (G8 T' η' vs hy h2).elim
          ·injection hround
         ·injection hround
        subst this
        exact hk z σ' T' η' (st1++ζ) a' w' h1 h2 (by rw [h3,Ar]) h4 h5 (by rw [h6,hd1])
       cases z with
       |normal=>
        simp only at h1
        obtain ⟨es1,ha1,rfl⟩:=Aw.1 h1
        simp only [T.ev,Aw] at h2
        obtain ⟨vs,hvs,rfl⟩:=h2
        simp only [if_true] at hround
        rw [Ar] at h3
        subst h3
        obtain ⟨g1,g2⟩:=Sq ha1 hvs hn h5
        exact ⟨m,Nat.lt_succ_self m,vs,hround,g1,g2,by rw [h6,hd1]⟩
       |exit b=>exact other h1
       |ret=>exact other h1
     ·cases hs
 | .scope ..,lb,d,σ,k,t,η,o,a,w,Q,hs,_,_,_,_=>by simp [sx] at hs
 | .label ..,lb,d,σ,k,t,η,o,a,w,Q,hs,_,_,_,_=>by simp [sx] at hs
 | .goto ..,lb,d,σ,k,t,η,o,a,w,Q,hs,_,_,_,_=>by simp [sx] at hs
 | .rangeFunc ..,lb,d,σ,k,t,η,o,a,w,Q,hs,_,_,_,_=>by simp [sx] at hs
 | .refuse ..,lb,d,σ,k,t,η,o,a,w,Q,hs,_,_,_,_=>by simp [sx] at hs
end
end Go.X
/- Residual programs without the checks that what follows makes by itself. -/
namespace Go.X
open Go
def E.triv:E→Bool
 | .c _=>true
 |_=>false
mutual
def cov (a:E):E→Bool
 | .v n=>E.same a (.v n)||a.triv
 | .c x=>E.same a (.c x)||a.triv
 | .bin op x y=>E.same a (.bin op x y)||a.triv||cov a x||cov a y
 | .un op x=>E.same a (.un op x)||a.triv||cov a x
 | .ite g x y=>a.triv||cov a g||(cov a x && cov a y)||E.same a (.ite g x y)||
    (match a with
     | .ite (.un .not h) p q=>(h.same g && cov p y && cov q x)||((E.un .not h).same g && cov p x && cov q y)
     | .ite h p q=>h.same g && cov p x && cov q y
     |_=>false)
 | .proj j x=>E.same a (.proj j x)||a.triv||cov a x
 | .sub o n x=>E.same a (.sub o n x)||a.triv||cov a x
 | .agg xs=>E.same a (.agg xs)||a.triv||ql a xs
 | .fit n x=>E.same a (.fit n x)||a.triv||cov a x
 | .scal x=>E.same a (.scal x)||a.triv||cov a x
 | .idx sz x i=>E.same a (.idx sz x i)||a.triv||cov a x||cov a i
 | .len x=>E.same a (.len x)||a.triv||cov a x
 | .slen x=>E.same a (.slen x)||a.triv||cov a x
 | .sidx x i=>E.same a (.sidx x i)||a.triv||cov a x||cov a i
 | .ssl x lo hi=>E.same a (.ssl x lo hi)||a.triv||cov a x||cov a lo||cov a hi
 | .lsl sz x lo hi=>E.same a (.lsl sz x lo hi)||a.triv||cov a x||cov a lo||cov a hi
 | .app sz x y=>E.same a (.app sz x y)||a.triv||cov a x||cov a y
 | .lit sz xs=>E.same a (.lit sz xs)||a.triv||ql a xs
 | .rep sz n z=>E.same a (.rep sz n z)||a.triv||cov a n||cov a z
 | .set sz x i off vs=>E.same a (.set sz x i off vs)||a.triv||cov a x||cov a i||ql a vs
 | .conv k x=>E.same a (.conv k x)||a.triv||cov a x
 | .b2s x=>E.same a (.b2s x)||a.triv||cov a x
 | .s2b x=>E.same a (.s2b x)||a.triv||cov a x
 | .eqs n g ts x y=>E.same a (.eqs n g ts x y)||a.triv||cov a x||cov a y
 | .clo g caps=>E.same a (.clo g caps)||a.triv||ql a caps
 | .mn x y=>E.same a (.mn x y)||a.triv||cov a x||cov a y
 | .mx x y=>E.same a (.mx x y)||a.triv||cov a x||cov a y
 | .mget x k z=>E.same a (.mget x k z)||a.triv||cov a x||cov a k||cov a z
 | .mset x k v=>E.same a (.mset x k v)||a.triv||cov a x||cov a k||cov a v
 | .der x=>E.same a (.der x)||a.triv||cov a x
 | .mkp o x=>E.same a (.mkp o x)||a.triv||cov a x
def ql (a:E):List E→Bool
 |[]=>false
 |x::xs=>cov a x||ql a xs
end
theorem Dd {a:E} {η:List PV} (h:a.triv=true):(a.ev η).isSome=true:=by
 cases a<;>simp [E.triv] at h
 simp [E.ev]
theorem Cg {a b:E} {η:List PV} {p:PV} (h:E.same a b=true) (e:b.ev η=some p):(a.ev η).isSome=true:=by
 rw [E.same_eq _ _ h,e];rfl
mutual
theorem C1 {η:List PV} (a:E):∀(b:E) (p:PV),cov a b=true→b.ev η=some p→(a.ev η).isSome=true
 | .v n,p,h,e=>by
   simp only [cov,Am] at h
   rcases h with h|h
   ·exact Cg h e
   ·exact Dd h
 | .c x,p,h,e=>by
   simp only [cov,Am] at h
   rcases h with h|h
   ·exact Cg h e
   ·exact Dd h
 | .bin op x y,p,h,e=>by
   simp only [cov,Am] at h
   rcases h with ((h|h)|h)|h
   ·exact Cg h e
   ·exact Dd h
   ·simp only [E.ev] at e;obtain ⟨q0,hq0,e0⟩:=Aj.1 e;exact C1 a x _ h hq0
   ·simp only [E.ev] at e;obtain ⟨q0,hq0,e0⟩:=Aj.1 e;obtain ⟨q1,hq1,e1⟩:=Aj.1 e0;exact C1 a y _ h hq1
 | .un op x,p,h,e=>by
   simp only [cov,Am] at h
   rcases h with (h|h)|h
   ·exact Cg h e
   ·exact Dd h
   ·simp only [E.ev] at e;obtain ⟨q0,hq0,e0⟩:=Aj.1 e;exact C1 a x _ h hq0
 | .ite g x y,p,h,e=>by
   have e0:=e
   simp only [E.ev] at e
   obtain ⟨r,hg,e1⟩:=Aj.1 e
   have key:∀(h' p' q':E),(∀b,g.ev η=some (.b b)→h'.ev η=some (.b b))→cov p' x=true→cov q' y=true→((E.ite h' p' q').ev η).isSome=true:=by
    intro h' p' q' hh hp hq
    simp only [E.ev]
    split at e1
    ·rw [hh true hg];simp only [Ax];exact C1 p' x _ hp e1
    ·rw [hh false hg];simp only [Ax];exact C1 q' y _ hq e1
    ·cases e1
   have keyN:∀(h' p' q':E),(∀b,g.ev η=some (.b b)→h'.ev η=some (.b b))→cov p' y=true→cov q' x=true→((E.ite (.un .not h') p' q').ev η).isSome=true:=by
    intro h' p' q' hh hp hq
    simp only [E.ev]
    split at e1
    ·rw [hh true hg];simp only [Ax,X.un,J4];exact C1 q' x _ hq e1
    ·rw [hh false hg];simp only [Ax,X.un,Bool.not_false];exact C1 p' y _ hp e1
    ·cases e1
   simp only [cov,Am] at h
   rcases h with (((h|h)|h)|h)|h
   ·exact Dd h
   ·exact C1 a g _ h hg
   ·simp only [Aq] at h
    split at e1
    ·exact C1 a x _ h.1 e1
    ·exact C1 a y _ h.2 e1
    ·cases e1
   ·exact Cg h e0
   ·split at h
    ·simp only [Am,Aq] at h
     rcases h with h|h
     ·exact keyN _ _ _ (fun b hb=>by rw [E.same_eq _ _ h.1.1];exact hb) h.1.2 h.2
     ·exact key _ _ _ (fun b hb=>by rw [E.same_eq _ _ h.1.1];exact hb) h.1.2 h.2
    ·simp only [Aq] at h
     exact key _ _ _ (fun b hb=>by rw [E.same_eq _ _ h.1.1];exact hb) h.1.2 h.2
    ·cases h
 | .proj j x,p,h,e=>by
   simp only [cov,Am] at h
   rcases h with (h|h)|h
   ·exact Cg h e
   ·exact Dd h
   ·simp only [E.ev] at e;obtain ⟨q0,hq0,e0⟩:=Aj.1 e;exact C1 a x _ h hq0
 | .sub o n x,p,h,e=>by
   simp only [cov,Am] at h
   rcases h with (h|h)|h
   ·exact Cg h e
   ·exact Dd h
   ·simp only [E.ev] at e;obtain ⟨q0,hq0,e0⟩:=Aj.1 e;exact C1 a x _ h hq0
 | .agg xs,p,h,e=>by
   simp only [cov,Am] at h
   rcases h with (h|h)|h
   ·exact Cg h e
   ·exact Dd h
   ·simp only [E.ev] at e;obtain ⟨q0,hq0,e0⟩:=Aw.1 e;exact Iv a xs _ h hq0
 | .fit n x,p,h,e=>by
   simp only [cov,Am] at h
   rcases h with (h|h)|h
   ·exact Cg h e
   ·exact Dd h
   ·simp only [E.ev] at e;obtain ⟨q0,hq0,e0⟩:=Aj.1 e;exact C1 a x _ h hq0
 | .scal x,p,h,e=>by
   simp only [cov,Am] at h
   rcases h with (h|h)|h
   ·exact Cg h e
   ·exact Dd h
   ·simp only [E.ev] at e;obtain ⟨q0,hq0,e0⟩:=Aj.1 e;exact C1 a x _ h hq0
 | .idx sz x i,p,h,e=>by
   simp only [cov,Am] at h
   rcases h with ((h|h)|h)|h
   ·exact Cg h e
   ·exact Dd h
   ·simp only [E.ev] at e;obtain ⟨q0,hq0,e0⟩:=Aj.1 e;exact C1 a x _ h hq0
   ·simp only [E.ev] at e;obtain ⟨q0,hq0,e0⟩:=Aj.1 e;obtain ⟨q1,hq1,e1⟩:=Aj.1 e0;exact C1 a i _ h hq1
 | .len x,p,h,e=>by
   simp only [cov,Am] at h
   rcases h with (h|h)|h
   ·exact Cg h e
   ·exact Dd h
   ·simp only [E.ev] at e;obtain ⟨q0,hq0,e0⟩:=Aj.1 e;exact C1 a x _ h hq0
 | .slen x,p,h,e=>by
   simp only [cov,Am] at h
   rcases h with (h|h)|h
   ·exact Cg h e
   ·exact Dd h
   ·simp only [E.ev] at e;obtain ⟨q0,hq0,e0⟩:=Aj.1 e;exact C1 a x _ h hq0
 | .sidx x i,p,h,e=>by
   simp only [cov,Am] at h
   rcases h with ((h|h)|h)|h
   ·exact Cg h e
   ·exact Dd h
   ·simp only [E.ev] at e;obtain ⟨q0,hq0,e0⟩:=Aj.1 e;exact C1 a x _ h hq0
   ·simp only [E.ev] at e;obtain ⟨q0,hq0,e0⟩:=Aj.1 e;obtain ⟨q1,hq1,e1⟩:=Aj.1 e0;exact C1 a i _ h hq1
 | .ssl x lo hi,p,h,e=>by
   simp only [cov,Am] at h
   rcases h with (((h|h)|h)|h)|h
   ·exact Cg h e
   ·exact Dd h
   ·simp only [E.ev] at e;obtain ⟨q0,hq0,e0⟩:=Aj.1 e;exact C1 a x _ h hq0
   ·simp only [E.ev] at e;obtain ⟨q0,hq0,e0⟩:=Aj.1 e;obtain ⟨q1,hq1,e1⟩:=Aj.1 e0;exact C1 a lo _ h hq1
   ·simp only [E.ev] at e;obtain ⟨q0,hq0,e0⟩:=Aj.1 e;obtain ⟨q1,hq1,e1⟩:=Aj.1 e0;obtain ⟨q2,hq2,e2⟩:=Aj.1 e1;exact C1 a hi _ h hq2
 | .lsl sz x lo hi,p,h,e=>by
   simp only [cov,Am] at h
   rcases h with (((h|h)|h)|h)|h
   ·exact Cg h e
   ·exact Dd h
   ·simp only [E.ev] at e;obtain ⟨q0,hq0,e0⟩:=Aj.1 e;exact C1 a x _ h hq0
   ·simp only [E.ev] at e;obtain ⟨q0,hq0,e0⟩:=Aj.1 e;obtain ⟨q1,hq1,e1⟩:=Aj.1 e0;exact C1 a lo _ h hq1
   ·simp only [E.ev] at e;obtain ⟨q0,hq0,e0⟩:=Aj.1 e;obtain ⟨q1,hq1,e1⟩:=Aj.1 e0;obtain ⟨q2,hq2,e2⟩:=Aj.1 e1;exact C1 a hi _ h hq2
 | .app sz x y,p,h,e=>by
   simp only [cov,Am] at h
   rcases h with ((h|h)|h)|h
   ·exact Cg h e
   ·exact Dd h
   ·simp only [E.ev] at e;obtain ⟨q0,hq0,e0⟩:=Aj.1 e;exact C1 a x _ h hq0
   ·simp only [E.ev] at e;obtain ⟨q0,hq0,e0⟩:=Aj.1 e;obtain ⟨q1,hq1,e1⟩:=Aj.1 e0;exact C1 a y _ h hq1
 | .lit sz xs,p,h,e=>by
   simp only [cov,Am] at h
   rcases h with (h|h)|h
   ·exact Cg h e
   ·exact Dd h
   ·simp only [E.ev] at e;obtain ⟨q0,hq0,e0⟩:=Aj.1 e;exact Iv a xs _ h hq0
 | .rep sz n z,p,h,e=>by
   simp only [cov,Am] at h
   rcases h with ((h|h)|h)|h
   ·exact Cg h e
   ·exact Dd h
   ·simp only [E.ev] at e;obtain ⟨q0,hq0,e0⟩:=Aj.1 e;exact C1 a n _ h hq0
   ·simp only [E.ev] at e;obtain ⟨q0,hq0,e0⟩:=Aj.1 e;obtain ⟨q1,hq1,e1⟩:=Aj.1 e0;exact C1 a z _ h hq1
 | .set sz x i off vs,p,h,e=>by
   simp only [cov,Am] at h
   rcases h with (((h|h)|h)|h)|h
   ·exact Cg h e
   ·exact Dd h
   ·simp only [E.ev] at e;obtain ⟨q0,hq0,e0⟩:=Aj.1 e;exact C1 a x _ h hq0
   ·simp only [E.ev] at e;obtain ⟨q0,hq0,e0⟩:=Aj.1 e;obtain ⟨q1,hq1,e1⟩:=Aj.1 e0;exact C1 a i _ h hq1
   ·simp only [E.ev] at e;obtain ⟨q0,hq0,e0⟩:=Aj.1 e;obtain ⟨q1,hq1,e1⟩:=Aj.1 e0;obtain ⟨q2,hq2,e2⟩:=Aj.1 e1;exact Iv a vs _ h hq2
 | .conv k x,p,h,e=>by
   simp only [cov,Am] at h
   rcases h with (h|h)|h
   ·exact Cg h e
   ·exact Dd h
   ·simp only [E.ev] at e;obtain ⟨q0,hq0,e0⟩:=Aj.1 e;exact C1 a x _ h hq0
 | .b2s x,p,h,e=>by
   simp only [cov,Am] at h
   rcases h with (h|h)|h
   ·exact Cg h e
   ·exact Dd h
   ·simp only [E.ev] at e;obtain ⟨q0,hq0,e0⟩:=Aj.1 e;exact C1 a x _ h hq0
 | .s2b x,p,h,e=>by
   simp only [cov,Am] at h
   rcases h with (h|h)|h
   ·exact Cg h e
   ·exact Dd h
   ·simp only [E.ev] at e;obtain ⟨q0,hq0,e0⟩:=Aj.1 e;exact C1 a x _ h hq0
 | .eqs n g ts x y,p,h,e=>by
   simp only [cov,Am] at h
   rcases h with ((h|h)|h)|h
   ·exact Cg h e
   ·exact Dd h
   ·simp only [E.ev] at e;obtain ⟨q0,hq0,e0⟩:=Aj.1 e;exact C1 a x _ h hq0
   ·simp only [E.ev] at e;obtain ⟨q0,hq0,e0⟩:=Aj.1 e;obtain ⟨q1,hq1,e1⟩:=Aj.1 e0;exact C1 a y _ h hq1
 | .clo g caps,p,h,e=>by
   simp only [cov,Am] at h
   rcases h with (h|h)|h
   ·exact Cg h e
   ·exact Dd h
   ·simp only [E.ev] at e;obtain ⟨q0,hq0,e0⟩:=Aw.1 e;exact Iv a caps _ h hq0
 | .mn x y,p,h,e=>by
   simp only [cov,Am] at h
   rcases h with ((h|h)|h)|h
   ·exact Cg h e
   ·exact Dd h
   ·simp only [E.ev] at e;obtain ⟨q0,hq0,e0⟩:=Aj.1 e;exact C1 a x _ h hq0
   ·simp only [E.ev] at e;obtain ⟨q0,hq0,e0⟩:=Aj.1 e;obtain ⟨q1,hq1,e1⟩:=Aj.1 e0;exact C1 a y _ h hq1
 | .mx x y,p,h,e=>by
   simp only [cov,Am] at h
   rcases h with ((h|h)|h)|h
   ·exact Cg h e
   ·exact Dd h
   ·simp only [E.ev] at e;obtain ⟨q0,hq0,e0⟩:=Aj.1 e;exact C1 a x _ h hq0
   ·simp only [E.ev] at e;obtain ⟨q0,hq0,e0⟩:=Aj.1 e;obtain ⟨q1,hq1,e1⟩:=Aj.1 e0;exact C1 a y _ h hq1
 | .mget x k z,p,h,e=>by
   simp only [cov,Am] at h
   rcases h with (((h|h)|h)|h)|h
   ·exact Cg h e
   ·exact Dd h
   ·simp only [E.ev] at e;obtain ⟨q0,hq0,e0⟩:=Aj.1 e;exact C1 a x _ h hq0
   ·simp only [E.ev] at e;obtain ⟨q0,hq0,e0⟩:=Aj.1 e;obtain ⟨q1,hq1,e1⟩:=Aj.1 e0;exact C1 a k _ h hq1
   ·simp only [E.ev] at e;obtain ⟨q0,hq0,e0⟩:=Aj.1 e;obtain ⟨q1,hq1,e1⟩:=Aj.1 e0;obtain ⟨q2,hq2,e2⟩:=Aj.1 e1;exact C1 a z _ h hq2
 | .mset x k v,p,h,e=>by
   simp only [cov,Am] at h
   rcases h with (((h|h)|h)|h)|h
   ·exact Cg h e
   ·exact Dd h
   ·simp only [E.ev] at e;obtain ⟨q0,hq0,e0⟩:=Aj.1 e;exact C1 a x _ h hq0
   ·simp only [E.ev] at e;obtain ⟨q0,hq0,e0⟩:=Aj.1 e;obtain ⟨q1,hq1,e1⟩:=Aj.1 e0;exact C1 a k _ h hq1
   ·simp only [E.ev] at e;obtain ⟨q0,hq0,e0⟩:=Aj.1 e;obtain ⟨q1,hq1,e1⟩:=Aj.1 e0;obtain ⟨q2,hq2,e2⟩:=Aj.1 e1;exact C1 a v _ h hq2
 | .der x,p,h,e| .mkp _ x,p,h,e=>by
   simp only [cov,Am] at h
   rcases h with (h|h)|h
   ·exact Cg h e
   ·exact Dd h
   ·simp only [E.ev] at e;obtain ⟨q0,hq0,e0⟩:=Aj.1 e;exact C1 a x _ h hq0
theorem Iv {η:List PV} (a:E):∀(bs:List E) (ps:List PV),ql a bs=true→E.evs η bs=some ps→(a.ev η).isSome=true
 |[],ps,h,e=>by simp [ql] at h
 |b::bs,ps,h,e=>by
  simp only [ql,Am] at h
  simp only [E.evs] at e
  obtain ⟨q,hq,e1⟩:=Aj.1 e
  obtain ⟨qs,hqs,e2⟩:=Aw.1 e1
  rcases h with h|h
  ·exact C1 a b _ h hq
  ·exact Iv a bs _ h hqs
end
def Hw (a:E):T→Bool
 | .w (.chk x) k=>cov a x||Hw a k
 | .w (.call none _ _ ar _) _=>ql a ar
 | .w (.call (some g) _ _ _ _) _=>cov a g
 | .w (.clo none _ c ar _) _=>cov a c||ql a ar
 | .w (.clo (some g) _ _ _ _) _=>cov a g
 | .w (.mcall _ ar) _=>ql a ar
 | .ite c t e=>cov a c||(Hw a t && Hw a e)
 | .ret es=>ql a es
 | .yld _ es=>ql a es
 | .blk _ body _=>Hw a body
 | .loop _ init _=>ql a init
theorem Kt {fn:Fns} {N:Nat} {η:List PV} (a:E):∀(t:T) (o:Out),Hw a t=true→t.ev fn N η=some o→(a.ev η).isSome=true
 | .w (.chk x) k,o,h,e=>by
   simp only [Hw,Am] at h
   simp only [T.ev,W.ev] at e
   obtain ⟨η',h1,h2⟩:=Aj.1 e
   obtain ⟨p,hp,rfl⟩:=Aw.1 h1
   rcases h with h|h
   ·exact C1 a x _ h hp
   ·exact Kt a k _ h h2
 | .w (.call none fl f ar m) k,o,h,e=>by
   simp only [Hw] at h
   simp only [T.ev,W.ev,E1] at e
   obtain ⟨η',h1,h2⟩:=Aj.1 e
   obtain ⟨p,hp,_⟩:=Aj.1 h1
   exact Iv a ar _ h hp
 | .w (.call (some g) fl f ar m) k,o,h,e=>by
   simp only [Hw] at h
   simp only [T.ev,W.ev,E1] at e
   obtain ⟨η',h1,h2⟩:=Aj.1 e
   obtain ⟨p,hp,_⟩:=Aj.1 h1
   exact C1 a g _ h hp
 | .w (.clo none fl c ar m) k,o,h,e=>by
   simp only [Hw,Am] at h
   simp only [T.ev,W.ev,E1] at e
   obtain ⟨η',h1,h2⟩:=Aj.1 e
   obtain ⟨p,hp,h3⟩:=Aj.1 h1
   obtain ⟨q,hq,_⟩:=Aj.1 h3
   rcases h with h|h
   ·exact C1 a c _ h hp
   ·exact Iv a ar _ h hq
 | .w (.clo (some g) fl c ar m) k,o,h,e=>by
   simp only [Hw] at h
   simp only [T.ev,W.ev,E1] at e
   obtain ⟨η',h1,h2⟩:=Aj.1 e
   obtain ⟨p,hp,_⟩:=Aj.1 h1
   exact C1 a g _ h hp
 | .w (.mcall f ar) k,o,h,e=>by
   simp only [Hw] at h
   simp only [T.ev,W.ev] at e
   obtain ⟨η',h1,h2⟩:=Aj.1 e
   obtain ⟨p,hp,_⟩:=Aj.1 h1
   exact Iv a ar _ h hp
 | .ite c t f,o,h,e=>by
   simp only [Hw,Am,Aq] at h
   simp only [T.ev] at e
   obtain ⟨r,h1,h2⟩:=Aj.1 e
   rcases h with h|h
   ·exact C1 a c _ h h1
   ·split at h2
    ·exact Kt a t _ h.1 h2
    ·exact Kt a f _ h.2 h2
    ·cases h2
 | .ret es,o,h,e=>by
   simp only [Hw] at h
   simp only [T.ev] at e
   obtain ⟨ps,hp,_⟩:=Aw.1 e
   exact Iv a es _ h hp
 | .yld id es,o,h,e=>by
   simp only [Hw] at h
   simp only [T.ev] at e
   obtain ⟨ps,hp,_⟩:=Aw.1 e
   exact Iv a es _ h hp
 | .blk id body k,o,h,e=>by
   simp only [Hw] at h
   simp only [T.ev] at e
   obtain ⟨o1,h1,_⟩:=Aj.1 e
   exact Kt a body _ h h1
 | .loop id init body,o,h,e=>by
   simp only [Hw] at h
   simp only [T.ev] at e
   obtain ⟨ps,hp,_⟩:=Aj.1 e
   exact Iv a init _ h hp
def T.slim:T→T
 | .w (.chk x) k=>if Hw x k.slim then k.slim else .w (.chk x) k.slim
 | .w x k=> .w x k.slim
 | .ite c t e=> .ite c t.slim e.slim
 | .ret es=> .ret es
 | .yld id es=> .yld id es
 | .blk id body k=> .blk id body.slim k.slim
 | .loop id init body=> .loop id init body.slim
theorem G2 {fn:Fns} {N:Nat}:∀(t:T) (η:List PV),t.slim.ev fn N η=t.ev fn N η
 | .w (.chk x) k,η=>by
   simp only [T.slim]
   split
   ·rename_i h
    rw [G2 k η]
    simp only [T.ev,W.ev]
    cases hx:x.ev η with
    |some p=>rfl
    |none=>
     cases hk:k.ev fn N η with
     |none=>rfl
     |some o=>
      rw [←G2 k η] at hk
      have:=Kt x k.slim o h hk
      rw [hx] at this;cases this
   ·simp only [T.ev,W.ev]
    cases hx:x.ev η with
    |some p=>exact G2 k η
    |none=>rfl
 | .w (.call g fl f ar m) k,η=>by
   simp only [T.slim,T.ev]
   congr 1;funext η';exact G2 k η'
 | .w (.clo g fl c ar m) k,η=>by
   simp only [T.slim,T.ev]
   congr 1;funext η';exact G2 k η'
 | .w (.mcall f ar) k,η=>by
   simp only [T.slim,T.ev]
   congr 1;funext η';exact G2 k η'
 | .ite c t e,η=>by
   simp only [T.slim,T.ev,G2 t η,G2 e η]
 | .ret es,η=>rfl
 | .yld id es,η=>rfl
 | .blk id body k,η=>by
   simp only [T.slim,T.ev,G2 body η]
   congr 1;funext o
   cases o with
   |ret vs=>rfl
   |yld j vs=>simp only [G2 k (η++vs)]
 | .loop id init body,η=>by
   simp only [T.slim,T.ev]
   congr 1;funext st
   have:(fun vs=>body.slim.ev fn N (η++vs))=fun vs=>body.ev fn N (η++vs):=by funext vs;exact G2 body (η++vs)
   rw [this]
end Go.X
