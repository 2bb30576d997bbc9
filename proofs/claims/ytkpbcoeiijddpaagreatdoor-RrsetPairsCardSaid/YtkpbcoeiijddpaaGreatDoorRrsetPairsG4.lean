/- Residual programs without the checks that what follows makes by itself. -/
import Derived.Test.YtkpbcoeiijddpaaGreatDoorRrsetPairsG0
import Derived.Test.YtkpbcoeiijddpaaGreatDoorRrsetPairsG3
import Derived.Lib.Bytealg
import Derived.Shelf.SlSortCmp.NoneTotal
open Array renaming getElem?_toList→Ag,getD_eq_getD_getElem?→A5,getElem?_append_left→Cs,getElem?_eq_getElem→Dq
open Bool renaming and_eq_true→Ax,false_eq_true→Ac,or_eq_true→An,not_eq_true'→Cq,not_true→W5,or_eq_false_iff→oq,false_or→Fz2
open List renaming getElem?_eq_some_iff→Aq,getElem?_eq_getElem→Ay,append_assoc→Ap,getElem?_append_right→As,getElem?_append_left→A4,getElem?_take→A8,getElem?_drop→A9,eq_nil_of_length_eq_zero→Bv,getD_eq_getElem?_getD→By,length_nil→Bz,getElem?_map→Bf,length_pos_iff→Bg,getElem?_range→B4,all_eq_true→Cv,drop_zero→D1,mem_range→F1,mapM_cons→G6,getElem?_replicate→Hz,length_range→ay,length_map→Gd9
open Nat renaming le_refl→Ah,zero_le→Cm,add_zero→Dc,mod_eq_of_lt→Df,lt_of_lt_of_le→Ew,le_max_right→Br2,le_max_left→Gd8
open Option renaming bind_eq_some_iff→Aj,map_eq_some_iff→Av,bind_some→Aw,map_some→A3,isNone_iff_eq_none→B0,isSome_iff_exists→B6,isSome_none→Q8
open Option.some renaming injEq→Ak
set_option maxHeartbeats 1000000
set_option linter.unusedVariables false
set_option linter.unusedSimpArgs false
namespace Go.X
open Go
def E.triv:E→Bool
 | .c _=>true
 |_=>false
mutual
def cov (a:E):E→Bool
 | .v n=>E.same a (.v n)||a.triv
 | .c x=>E.same a (.c x)||a.triv
 | .bin op x y=>E.same a (.bin op x y)||a.triv||cov a x||cov a y
 | .un op x=>E.same a (.un op x)||a.triv||cov a x
 | .ite g x y=>a.triv||cov a g||(cov a x && cov a y)||E.same a (.ite g x y)||
    (match a with
     | .ite (.un .not h) p q=>(h.same g && cov p y && cov q x)||((E.un .not h).same g && cov p x && cov q y)
     | .ite h p q=>h.same g && cov p x && cov q y
     |_=>false)
 | .proj j x=>E.same a (.proj j x)||a.triv||cov a x
 | .sub o n x=>E.same a (.sub o n x)||a.triv||cov a x
 | .agg xs=>E.same a (.agg xs)||a.triv||fz a xs
 | .fit n x=>E.same a (.fit n x)||a.triv||cov a x
 | .scal x=>E.same a (.scal x)||a.triv||cov a x
 | .idx sz x i=>E.same a (.idx sz x i)||a.triv||cov a x||cov a i
 | .len x=>E.same a (.len x)||a.triv||cov a x
 | .slen x=>E.same a (.slen x)||a.triv||cov a x
 | .sidx x i=>E.same a (.sidx x i)||a.triv||cov a x||cov a i
 | .ssl x lo hi=>E.same a (.ssl x lo hi)||a.triv||cov a x||cov a lo||cov a hi
 | .lsl sz x lo hi=>E.same a (.lsl sz x lo hi)||a.triv||cov a x||cov a lo||cov a hi
 | .app sz x y=>E.same a (.app sz x y)||a.triv||cov a x||cov a y
 | .lit sz xs=>E.same a (.lit sz xs)||a.triv||fz a xs
 | .rep sz n z=>E.same a (.rep sz n z)||a.triv||cov a n||cov a z
 | .set sz x i off vs=>E.same a (.set sz x i off vs)||a.triv||cov a x||cov a i||fz a vs
 | .conv k x=>E.same a (.conv k x)||a.triv||cov a x
 | .b2s x=>E.same a (.b2s x)||a.triv||cov a x
 | .s2b x=>E.same a (.s2b x)||a.triv||cov a x
 | .eqs n g ts x y=>E.same a (.eqs n g ts x y)||a.triv||cov a x||cov a y
 | .clo g caps=>E.same a (.clo g caps)||a.triv||fz a caps
 | .mn x y=>E.same a (.mn x y)||a.triv||cov a x||cov a y
 | .mx x y=>E.same a (.mx x y)||a.triv||cov a x||cov a y
 | .mget x k z=>E.same a (.mget x k z)||a.triv||cov a x||cov a k||cov a z
 | .mset x k v=>E.same a (.mset x k v)||a.triv||cov a x||cov a k||cov a v
 | .der x=>E.same a (.der x)||a.triv||cov a x
 | .mkp o x=>E.same a (.mkp o x)||a.triv||cov a x
def fz (a:E):List E→Bool
 |[]=>false
 |x::xs=>cov a x||fz a xs
end
theorem Dv {a:E} {η:List PV} (h:a.triv=true):(a.ev η).isSome=true:=by cases a<;>simp [E.triv] at h;simp [E.ev]
theorem Cy {a b:E} {η:List PV} {p:PV} (h:E.same a b=true) (e:b.ev η=some p):(a.ev η).isSome=true:=by rw [E.same_eq _ _ h,e];rfl
mutual
theorem Cn {η:List PV} (a:E):∀(b:E) (p:PV),cov a b=true→b.ev η=some p→(a.ev η).isSome=true
 | .v n,p,h,e=>by
   simp only [cov,An] at h;rcases h with h|h
   ·exact Cy h e
   ·exact Dv h
 | .c x,p,h,e=>by
   simp only [cov,An] at h;rcases h with h|h
   ·exact Cy h e
   ·exact Dv h
 | .bin op x y,p,h,e=>by
   simp only [cov,An] at h;rcases h with ((h|h)|h)|h
   ·exact Cy h e
   ·exact Dv h
   ·simp only [E.ev] at e;obtain ⟨q0,hq0,e0⟩:=Aj.1 e;exact Cn a x _ h hq0
   ·simp only [E.ev] at e;obtain ⟨q0,hq0,e0⟩:=Aj.1 e;obtain ⟨q1,hq1,e1⟩:=Aj.1 e0;exact Cn a y _ h hq1
 | .un op x,p,h,e=>by
   simp only [cov,An] at h;rcases h with (h|h)|h
   ·exact Cy h e
   ·exact Dv h
   ·simp only [E.ev] at e;obtain ⟨q0,hq0,e0⟩:=Aj.1 e;exact Cn a x _ h hq0
 | .ite g x y,p,h,e=>by
   have e0:=e;simp only [E.ev] at e;obtain ⟨r,hg,e1⟩:=Aj.1 e;have key:∀(h' p' q':E),(∀b,g.ev η=some (.b b)→h'.ev η=some (.b b))→cov p' x=true→cov q' y=true→((E.ite h' p' q').ev η).isSome=true:=by
    intro h' p' q' hh hp hq;simp only [E.ev];split at e1
    ·rw [hh true hg];simp only [Aw];exact Cn p' x _ hp e1
    ·rw [hh false hg];simp only [Aw];exact Cn q' y _ hq e1
    ·cases e1
   have keyN:∀(h' p' q':E),(∀b,g.ev η=some (.b b)→h'.ev η=some (.b b))→cov p' y=true→cov q' x=true→((E.ite (.un .not h') p' q').ev η).isSome=true:=by
    intro h' p' q' hh hp hq;simp only [E.ev];split at e1
    ·rw [hh true hg];simp only [Aw,X.un,W5];exact Cn q' x _ hq e1
    ·rw [hh false hg];simp only [Aw,X.un,Bool.not_false];exact Cn p' y _ hp e1
    ·cases e1
   simp only [cov,An] at h;rcases h with (((h|h)|h)|h)|h
   ·exact Dv h
   ·exact Cn a g _ h hg
   ·simp only [Ax] at h;split at e1
    ·exact Cn a x _ h.1 e1
    ·exact Cn a y _ h.2 e1
    ·cases e1
   ·exact Cy h e0
   ·split at h
    ·simp only [An,Ax] at h;rcases h with h|h
     ·exact keyN _ _ _ (fun b hb=>by rw [E.same_eq _ _ h.1.1];exact hb) h.1.2 h.2
     ·exact key _ _ _ (fun b hb=>by rw [E.same_eq _ _ h.1.1];exact hb) h.1.2 h.2
    ·simp only [Ax] at h;exact key _ _ _ (fun b hb=>by rw [E.same_eq _ _ h.1.1];exact hb) h.1.2 h.2
    ·cases h
 | .proj j x,p,h,e=>by
   simp only [cov,An] at h;rcases h with (h|h)|h
   ·exact Cy h e
   ·exact Dv h
   ·simp only [E.ev] at e;obtain ⟨q0,hq0,e0⟩:=Aj.1 e;exact Cn a x _ h hq0
 | .sub o n x,p,h,e=>by
   simp only [cov,An] at h;rcases h with (h|h)|h
   ·exact Cy h e
   ·exact Dv h
   ·simp only [E.ev] at e;obtain ⟨q0,hq0,e0⟩:=Aj.1 e;exact Cn a x _ h hq0
 | .agg xs,p,h,e=>by
   simp only [cov,An] at h;rcases h with (h|h)|h
   ·exact Cy h e
   ·exact Dv h
   ·simp only [E.ev] at e;obtain ⟨q0,hq0,e0⟩:=Av.1 e;exact G9 a xs _ h hq0
 | .fit n x,p,h,e=>by
   simp only [cov,An] at h;rcases h with (h|h)|h
   ·exact Cy h e
   ·exact Dv h
   ·simp only [E.ev] at e;obtain ⟨q0,hq0,e0⟩:=Aj.1 e;exact Cn a x _ h hq0
 | .scal x,p,h,e=>by
   simp only [cov,An] at h;rcases h with (h|h)|h
   ·exact Cy h e
   ·exact Dv h
   ·simp only [E.ev] at e;obtain ⟨q0,hq0,e0⟩:=Aj.1 e;exact Cn a x _ h hq0
 | .idx sz x i,p,h,e=>by
   simp only [cov,An] at h;rcases h with ((h|h)|h)|h
   ·exact Cy h e
   ·exact Dv h
   ·simp only [E.ev] at e;obtain ⟨q0,hq0,e0⟩:=Aj.1 e;exact Cn a x _ h hq0
   ·simp only [E.ev] at e;obtain ⟨q0,hq0,e0⟩:=Aj.1 e;obtain ⟨q1,hq1,e1⟩:=Aj.1 e0;exact Cn a i _ h hq1
 | .len x,p,h,e=>by
   simp only [cov,An] at h;rcases h with (h|h)|h
   ·exact Cy h e
   ·exact Dv h
   ·simp only [E.ev] at e;obtain ⟨q0,hq0,e0⟩:=Aj.1 e;exact Cn a x _ h hq0
 | .slen x,p,h,e=>by
   simp only [cov,An] at h;rcases h with (h|h)|h
   ·exact Cy h e
   ·exact Dv h
   ·simp only [E.ev] at e;obtain ⟨q0,hq0,e0⟩:=Aj.1 e;exact Cn a x _ h hq0
 | .sidx x i,p,h,e=>by
   simp only [cov,An] at h;rcases h with ((h|h)|h)|h
   ·exact Cy h e
   ·exact Dv h
   ·simp only [E.ev] at e;obtain ⟨q0,hq0,e0⟩:=Aj.1 e;exact Cn a x _ h hq0
   ·simp only [E.ev] at e;obtain ⟨q0,hq0,e0⟩:=Aj.1 e;obtain ⟨q1,hq1,e1⟩:=Aj.1 e0;exact Cn a i _ h hq1
 | .ssl x lo hi,p,h,e=>by
   simp only [cov,An] at h;rcases h with (((h|h)|h)|h)|h
   ·exact Cy h e
   ·exact Dv h
   ·simp only [E.ev] at e;obtain ⟨q0,hq0,e0⟩:=Aj.1 e;exact Cn a x _ h hq0
   ·simp only [E.ev] at e;obtain ⟨q0,hq0,e0⟩:=Aj.1 e;obtain ⟨q1,hq1,e1⟩:=Aj.1 e0;exact Cn a lo _ h hq1
   ·simp only [E.ev] at e;obtain ⟨q0,hq0,e0⟩:=Aj.1 e;obtain ⟨q1,hq1,e1⟩:=Aj.1 e0;obtain ⟨q2,hq2,e2⟩:=Aj.1 e1;exact Cn a hi _ h hq2
 | .lsl sz x lo hi,p,h,e=>by
   simp only [cov,An] at h;rcases h with (((h|h)|h)|h)|h
   ·exact Cy h e
   ·exact Dv h
   ·simp only [E.ev] at e;obtain ⟨q0,hq0,e0⟩:=Aj.1 e;exact Cn a x _ h hq0
   ·simp only [E.ev] at e;obtain ⟨q0,hq0,e0⟩:=Aj.1 e;obtain ⟨q1,hq1,e1⟩:=Aj.1 e0;exact Cn a lo _ h hq1
   ·simp only [E.ev] at e;obtain ⟨q0,hq0,e0⟩:=Aj.1 e;obtain ⟨q1,hq1,e1⟩:=Aj.1 e0;obtain ⟨q2,hq2,e2⟩:=Aj.1 e1;exact Cn a hi _ h hq2
 | .app sz x y,p,h,e=>by
   simp only [cov,An] at h;rcases h with ((h|h)|h)|h
   ·exact Cy h e
   ·exact Dv h
   ·simp only [E.ev] at e;obtain ⟨q0,hq0,e0⟩:=Aj.1 e;exact Cn a x _ h hq0
   ·simp only [E.ev] at e;obtain ⟨q0,hq0,e0⟩:=Aj.1 e;obtain ⟨q1,hq1,e1⟩:=Aj.1 e0;exact Cn a y _ h hq1
 | .lit sz xs,p,h,e=>by
   simp only [cov,An] at h;rcases h with (h|h)|h
   ·exact Cy h e
   ·exact Dv h
   ·simp only [E.ev] at e;obtain ⟨q0,hq0,e0⟩:=Aj.1 e;exact G9 a xs _ h hq0
 | .rep sz n z,p,h,e=>by
   simp only [cov,An] at h;rcases h with ((h|h)|h)|h
   ·exact Cy h e
   ·exact Dv h
   ·simp only [E.ev] at e;obtain ⟨q0,hq0,e0⟩:=Aj.1 e;exact Cn a n _ h hq0
   ·simp only [E.ev] at e;obtain ⟨q0,hq0,e0⟩:=Aj.1 e;obtain ⟨q1,hq1,e1⟩:=Aj.1 e0;exact Cn a z _ h hq1
 | .set sz x i off vs,p,h,e=>by
   simp only [cov,An] at h;rcases h with (((h|h)|h)|h)|h
   ·exact Cy h e
   ·exact Dv h
   ·simp only [E.ev] at e;obtain ⟨q0,hq0,e0⟩:=Aj.1 e;exact Cn a x _ h hq0
   ·simp only [E.ev] at e;obtain ⟨q0,hq0,e0⟩:=Aj.1 e;obtain ⟨q1,hq1,e1⟩:=Aj.1 e0;exact Cn a i _ h hq1
   ·simp only [E.ev] at e;obtain ⟨q0,hq0,e0⟩:=Aj.1 e;obtain ⟨q1,hq1,e1⟩:=Aj.1 e0;obtain ⟨q2,hq2,e2⟩:=Aj.1 e1;exact G9 a vs _ h hq2
 | .conv k x,p,h,e=>by
   simp only [cov,An] at h;rcases h with (h|h)|h
   ·exact Cy h e
   ·exact Dv h
   ·simp only [E.ev] at e;obtain ⟨q0,hq0,e0⟩:=Aj.1 e;exact Cn a x _ h hq0
 | .b2s x,p,h,e=>by
   simp only [cov,An] at h;rcases h with (h|h)|h
   ·exact Cy h e
   ·exact Dv h
   ·simp only [E.ev] at e;obtain ⟨q0,hq0,e0⟩:=Aj.1 e;exact Cn a x _ h hq0
 | .s2b x,p,h,e=>by
   simp only [cov,An] at h;rcases h with (h|h)|h
   ·exact Cy h e
   ·exact Dv h
   ·simp only [E.ev] at e;obtain ⟨q0,hq0,e0⟩:=Aj.1 e;exact Cn a x _ h hq0
 | .eqs n g ts x y,p,h,e=>by
   simp only [cov,An] at h;rcases h with ((h|h)|h)|h
   ·exact Cy h e
   ·exact Dv h
   ·simp only [E.ev] at e;obtain ⟨q0,hq0,e0⟩:=Aj.1 e;exact Cn a x _ h hq0
   ·simp only [E.ev] at e;obtain ⟨q0,hq0,e0⟩:=Aj.1 e;obtain ⟨q1,hq1,e1⟩:=Aj.1 e0;exact Cn a y _ h hq1
 | .clo g caps,p,h,e=>by
   simp only [cov,An] at h;rcases h with (h|h)|h
   ·exact Cy h e
   ·exact Dv h
   ·simp only [E.ev] at e;obtain ⟨q0,hq0,e0⟩:=Av.1 e;exact G9 a caps _ h hq0
 | .mn x y,p,h,e=>by
   simp only [cov,An] at h;rcases h with ((h|h)|h)|h
   ·exact Cy h e
   ·exact Dv h
   ·simp only [E.ev] at e;obtain ⟨q0,hq0,e0⟩:=Aj.1 e;exact Cn a x _ h hq0
   ·simp only [E.ev] at e;obtain ⟨q0,hq0,e0⟩:=Aj.1 e;obtain ⟨q1,hq1,e1⟩:=Aj.1 e0;exact Cn a y _ h hq1
 | .mx x y,p,h,e=>by
   simp only [cov,An] at h;rcases h with ((h|h)|h)|h
   ·exact Cy h e
   ·exact Dv h
   ·simp only [E.ev] at e;obtain ⟨q0,hq0,e0⟩:=Aj.1 e;exact Cn a x _ h hq0
   ·simp only [E.ev] at e;obtain ⟨q0,hq0,e0⟩:=Aj.1 e;obtain ⟨q1,hq1,e1⟩:=Aj.1 e0;exact Cn a y _ h hq1
 | .mget x k z,p,h,e=>by
   simp only [cov,An] at h;rcases h with (((h|h)|h)|h)|h
   ·exact Cy h e
   ·exact Dv h
   ·simp only [E.ev] at e;obtain ⟨q0,hq0,e0⟩:=Aj.1 e;exact Cn a x _ h hq0
   ·simp only [E.ev] at e;obtain ⟨q0,hq0,e0⟩:=Aj.1 e;obtain ⟨q1,hq1,e1⟩:=Aj.1 e0;exact Cn a k _ h hq1
   ·simp only [E.ev] at e;obtain ⟨q0,hq0,e0⟩:=Aj.1 e;obtain ⟨q1,hq1,e1⟩:=Aj.1 e0;obtain ⟨q2,hq2,e2⟩:=Aj.1 e1;exact Cn a z _ h hq2
 | .mset x k v,p,h,e=>by
   simp only [cov,An] at h;rcases h with (((h|h)|h)|h)|h
   ·exact Cy h e
   ·exact Dv h
   ·simp only [E.ev] at e;obtain ⟨q0,hq0,e0⟩:=Aj.1 e;exact Cn a x _ h hq0
   ·simp only [E.ev] at e;obtain ⟨q0,hq0,e0⟩:=Aj.1 e;obtain ⟨q1,hq1,e1⟩:=Aj.1 e0;exact Cn a k _ h hq1
   ·simp only [E.ev] at e;obtain ⟨q0,hq0,e0⟩:=Aj.1 e;obtain ⟨q1,hq1,e1⟩:=Aj.1 e0;obtain ⟨q2,hq2,e2⟩:=Aj.1 e1;exact Cn a v _ h hq2
 | .der x,p,h,e| .mkp _ x,p,h,e=>by
   simp only [cov,An] at h;rcases h with (h|h)|h
   ·exact Cy h e
   ·exact Dv h
   ·simp only [E.ev] at e;obtain ⟨q0,hq0,e0⟩:=Aj.1 e;exact Cn a x _ h hq0
theorem G9 {η:List PV} (a:E):∀(bs:List E) (ps:List PV),fz a bs=true→E.evs η bs=some ps→(a.ev η).isSome=true
 |[],ps,h,e=>by simp [fz] at h
 |b::bs,ps,h,e=>by
  simp only [fz,An] at h;simp only [E.evs] at e;obtain ⟨q,hq,e1⟩:=Aj.1 e;obtain ⟨qs,hqs,e2⟩:=Av.1 e1;rcases h with h|h
  ·exact Cn a b _ h hq
  ·exact G9 a bs _ h hqs
end
def Gf (a:E):T→Bool
 | .w (.chk x) k=>cov a x||Gf a k
 | .w (.call none _ _ ar _) _=>fz a ar
 | .w (.call (some g) _ _ _ _) _=>cov a g
 | .w (.clo none _ c ar _) _=>cov a c||fz a ar
 | .w (.clo (some g) _ _ _ _) _=>cov a g
 | .w (.mcall _ ar) _=>fz a ar
 | .ite c t e=>cov a c||(Gf a t && Gf a e)
 | .ret es=>fz a es
 | .yld _ es=>fz a es
 | .blk _ body _=>Gf a body
 | .loop _ init _=>fz a init
theorem Jq {fn:Fns} {N:Nat} {η:List PV} (a:E):∀(t:T) (o:Out),Gf a t=true→t.ev fn N η=some o→(a.ev η).isSome=true
 | .w (.chk x) k,o,h,e=>by
   simp only [Gf,An] at h;simp only [T.ev,W.ev] at e;obtain ⟨η',h1,h2⟩:=Aj.1 e;obtain ⟨p,hp,rfl⟩:=Av.1 h1;rcases h with h|h
   ·exact Cn a x _ h hp
   ·exact Jq a k _ h h2
 | .w (.call none fl f ar m) k,o,h,e=>by simp only [Gf] at h;simp only [T.ev,W.ev,D9] at e;obtain ⟨η',h1,h2⟩:=Aj.1 e;obtain ⟨p,hp,_⟩:=Aj.1 h1;exact G9 a ar _ h hp
 | .w (.call (some g) fl f ar m) k,o,h,e=>by simp only [Gf] at h;simp only [T.ev,W.ev,D9] at e;obtain ⟨η',h1,h2⟩:=Aj.1 e;obtain ⟨p,hp,_⟩:=Aj.1 h1;exact Cn a g _ h hp
 | .w (.clo none fl c ar m) k,o,h,e=>by
   simp only [Gf,An] at h;simp only [T.ev,W.ev,D9] at e;obtain ⟨η',h1,h2⟩:=Aj.1 e;obtain ⟨p,hp,h3⟩:=Aj.1 h1;obtain ⟨q,hq,_⟩:=Aj.1 h3;rcases h with h|h
   ·exact Cn a c _ h hp
   ·exact G9 a ar _ h hq
 | .w (.clo (some g) fl c ar m) k,o,h,e=>by simp only [Gf] at h;simp only [T.ev,W.ev,D9] at e;obtain ⟨η',h1,h2⟩:=Aj.1 e;obtain ⟨p,hp,_⟩:=Aj.1 h1;exact Cn a g _ h hp
 | .w (.mcall f ar) k,o,h,e=>by simp only [Gf] at h;simp only [T.ev,W.ev] at e;obtain ⟨η',h1,h2⟩:=Aj.1 e;obtain ⟨p,hp,_⟩:=Aj.1 h1;exact G9 a ar _ h hp
 | .ite c t f,o,h,e=>by
   simp only [Gf,An,Ax] at h;simp only [T.ev] at e;obtain ⟨r,h1,h2⟩:=Aj.1 e;rcases h with h|h
   ·exact Cn a c _ h h1
   ·split at h2
    ·exact Jq a t _ h.1 h2
    ·exact Jq a f _ h.2 h2
    ·cases h2
 | .ret es,o,h,e=>by simp only [Gf] at h;simp only [T.ev] at e;obtain ⟨ps,hp,_⟩:=Av.1 e;exact G9 a es _ h hp
 | .yld id es,o,h,e=>by simp only [Gf] at h;simp only [T.ev] at e;obtain ⟨ps,hp,_⟩:=Av.1 e;exact G9 a es _ h hp
 | .blk id body k,o,h,e=>by simp only [Gf] at h;simp only [T.ev] at e;obtain ⟨o1,h1,_⟩:=Aj.1 e;exact Jq a body _ h h1
 | .loop id init body,o,h,e=>by simp only [Gf] at h;simp only [T.ev] at e;obtain ⟨ps,hp,_⟩:=Aj.1 e;exact G9 a init _ h hp
def T.slim:T→T
 | .w (.chk x) k=>if Gf x k.slim then k.slim else .w (.chk x) k.slim
 | .w x k=> .w x k.slim
 | .ite c t e=> .ite c t.slim e.slim
 | .ret es=> .ret es
 | .yld id es=> .yld id es
 | .blk id body k=> .blk id body.slim k.slim
 | .loop id init body=> .loop id init body.slim
theorem Gk {fn:Fns} {N:Nat}:∀(t:T) (η:List PV),t.slim.ev fn N η=t.ev fn N η
 | .w (.chk x) k,η=>by
   simp only [T.slim];split
   ·rename_i h;rw [Gk k η];simp only [T.ev,W.ev];cases hx:x.ev η with
    |some p=>rfl
    |none=>
     cases hk:k.ev fn N η with
     |none=>rfl
     |some o=>
      rw [←Gk k η] at hk;have:=Jq x k.slim o h hk;rw [hx] at this;cases this
   ·simp only [T.ev,W.ev];cases hx:x.ev η with
    |some p=>exact Gk k η
    |none=>rfl
 | .w (.call g fl f ar m) k,η=>by simp only [T.slim,T.ev];congr 1;funext η';exact Gk k η'
 | .w (.clo g fl c ar m) k,η=>by simp only [T.slim,T.ev];congr 1;funext η';exact Gk k η'
 | .w (.mcall f ar) k,η=>by simp only [T.slim,T.ev];congr 1;funext η';exact Gk k η'
 | .ite c t e,η=>by simp only [T.slim,T.ev,Gk t η,Gk e η]
 | .ret es,η=>rfl
 | .yld id es,η=>rfl
 | .blk id body k,η=>by
   simp only [T.slim,T.ev,Gk body η];congr 1;funext o;cases o with
   |ret vs=>rfl
   |yld j vs=>simp only [Gk k (η++vs)]
 | .loop id init body,η=>by
   simp only [T.slim,T.ev];congr 1;funext st;have:(fun vs=>body.slim.ev fn N (η++vs))=fun vs=>body.ev fn N (η++vs):=by funext vs;exact Gk body (η++vs)
   rw [this]
end Go.X
/- Functions. -/
namespace Go.X
open Go Go.RowKit
section
variable {P:Program} {sig:Nat→Option Nat} {fn:Fns} {w0:Fr} {Oe:Nat→Option Nat} {N:Nat}
theorem Cx6 {func:Func} {args:List PV} {w:World} {O:Nat→Option Nat} {cargs:Array Value} (hg:Given w O func.params.size args cargs) (hl:args.length=func.params.size+func.nfree) (ht:func.params.size+func.nfree≤func.ntmps) {fa:Option Nat} (hfa:∀e,fa=some e→∃xs b,args[0]? =some (.l (Al P e) xs)∧cargs[0]? =some (.slice b xs.length xs.length)):
  Tf ⟨w,none⟩ O args (K9 P none fa func) (cargs++Array.replicate (func.ntmps - cargs.size) undef) w:=by
 refine ⟨fun _=>0,fun _=>undef,O,Bel.refl ⟨w,none⟩,fun _ _ _=>rfl,hg.out,?_,fun s b hs=>by simp [K9,mget] at hs,fun s s' b b' hs=>by simp [K9,mget] at hs,fun v hv=>by cases hv⟩;have hsz:=hg.size;refine A0.mk (by simp [K9];omega) fun j x v hx hv=> ?_;simp only [K9,Q8,Ac,false_and,if_false] at hx;rw [Ap] at hx;by_cases h1:j<func.params.size
 ·rw [A4 (by simpa using h1)] at hx;simp only [Bf,Av] at hx;obtain ⟨k,hk,rfl⟩:=hx;rw [B4 h1] at hk;injection hk with hk;subst hk;have hp:args[j]? =some args[j]:=Ay (by omega);rw [Ag,Cs (by omega)] at hv;have hval:=hg.val j _ v h1 hp hv;have plain:Am ⟨args,Bw w O,fun _=>0,fun _=>undef,(K9 P none fa func).m⟩ (.e (.v j)) v:=by simp only [Am,E.ev];exact ⟨args[j],hp,hval⟩
  by_cases hj0:j=0
  ·rw [if_pos hj0];cases fa with
   |none=>exact plain
   |some e=>
    obtain ⟨xs,b,h5,h6⟩:=hfa e rfl;subst hj0;rw [hp] at h5;injection h5 with h5;rw [hv] at h6;injection h6 with h6;simp only [Am,E.ev];exact ⟨xs,b,by rw [hp,h5],h6,by rw [←h5];exact hval⟩
  ·rw [if_neg hj0];exact plain
 ·rw [As (by simpa using Nat.le_of_not_lt h1)] at hx;simp only [Gd9,ay] at hx;by_cases h2:j<func.params.size+func.nfree
  ·rw [A4 (by simp;omega)] at hx;simp only [Bf,Av] at hx;obtain ⟨k,hk,rfl⟩:=hx;rw [B4 (by omega)] at hk;injection hk with hk;subst hk;simp only [Am,E.ev,D1];have hjj:func.params.size+(j - func.params.size)=j:=by omega
   rw [hjj];have hp:args[j]? =some args[j]:=Ay (by omega);refine ⟨args[j],hp,hg.cap j _ v (by omega) hp ?_⟩;rw [Ag,Cs (by omega)] at hv;exact hv
  ·rw [As (by simp;omega),Hz] at hx;split at hx
   ·injection hx with hx;subst hx;simp only [Am]
   ·cases hx
theorem Own.mono' {B B':Nat→Prop} {w:World} {e size n:Nat} {v:Value} {xs:List Value} (h:Own w B e size v n xs) (hb:∀g,Bp v=some g→B' g):Own w B' e size v n xs:=by
 refine ⟨h.1,?_⟩;rcases h.2 with h1|⟨g,cap,cur,h1,h2,h3,h4⟩
 ·exact .inl h1
 ·exact .inr ⟨g,cap,cur,h1,h2,hb g (by rw [h1];simp only [Bp,if_neg (show¬cap=0 by omega)]),h4⟩
theorem pb {func:Func} {e:Nat} {r:Bool} {args:List PV} {w:World} {O:Nat→Option Nat} {cargs:Array Value} {v0:Value} {xs:List PV} {us:List Value} (hg:GivenM P e w O func.params.size args cargs v0 xs us) (hl:args.length=func.params.size+func.nfree) (ht:func.params.size+func.nfree≤func.ntmps):
  Tf ⟨w,some v0⟩ O args (K9 P (some (e,r)) none func) (cargs++Array.replicate (func.ntmps - cargs.size) undef) w:=by
 have hsz:=hg.size;have hpos:=hg.pos;have hmem:∀s b,mget (K9 P (some (e,r)) none func).m s=some b→s=S0∧b= .arr e (Al P e) (.v 0) .no:=by
  intro s b hs;simp only [K9,mget] at hs;split at hs
  ·rename_i h1;injection hs with hs;exact ⟨h1.symm,hs.symm⟩
  ·cases hs
 have harg:∀v,(cargs++Array.replicate (func.ntmps - cargs.size) undef)[0]? =some v→v=v0:=by intro v hv;rw [Cs (by omega),hg.arg] at hv;injection hv with hv;exact hv.symm
 refine ⟨fun _=>(Bp v0).getD 0,fun _=>v0,O,Bel.refl ⟨w,some v0⟩,fun _ _ _=>rfl,hg.out,?_,fun s b hs=> ?_,fun s s' b b' hs hs' hne=> ?_,fun v hv _=> ?_⟩
 ·refine A0.mk (by simp [K9];omega) fun j x v hx hv=> ?_;simp only [K9,Option.isSome_some,true_and] at hx;rw [Ap] at hx;by_cases h1:j<func.params.size
  ·rw [A4 (by simpa using h1)] at hx;simp only [Bf,Av] at hx;obtain ⟨k,hk,rfl⟩:=hx;rw [B4 h1] at hk;injection hk with hk;subst hk;by_cases hj:j=0
   ·subst hj;simp only [if_true,Am];exact harg v (by rw [←Ag];exact hv)
   ·simp only [if_neg hj,Am,E.ev];have hp:args[j]? =some args[j]:=Ay (by omega);refine ⟨args[j],hp,hg.val j _ v (by omega) h1 hp ?_⟩;rw [Ag,Cs (by omega)] at hv;exact hv
  ·rw [As (by simpa using Nat.le_of_not_lt h1)] at hx;simp only [Gd9,ay] at hx;by_cases h2:j<func.params.size+func.nfree
   ·rw [A4 (by simp;omega)] at hx;simp only [Bf,Av] at hx;obtain ⟨k,hk,rfl⟩:=hx;rw [B4 (by omega)] at hk;injection hk with hk;subst hk;simp only [Am,E.ev,D1];have hjj:func.params.size+(j - func.params.size)=j:=by omega
    rw [hjj];have hp:args[j]? =some args[j]:=Ay (by omega);refine ⟨args[j],hp,hg.cap j _ v (by omega) hp ?_⟩;rw [Ag,Cs (by omega)] at hv;exact hv
   ·rw [As (by simp;omega),Hz] at hx;split at hx
    ·injection hx with hx;subst hx;simp only [Am]
    ·cases hx
 ·obtain ⟨rfl,rfl⟩:=hmem s b hs;refine ⟨hg.sz,xs,us,?_,hg.own.mono' fun g hgb=> .inr hgb,hg.el,fun g hgb=> ?_,trivial⟩
  ·show (E.v 0).ev args=_;simp only [E.ev];exact hg.fst
  ·have hgb':Bp v0=some g:=hgb;refine ⟨?_,0,hg.shut g hgb',Cm _,fun _=>rfl⟩;show g=(Bp v0).getD 0;rw [hgb'];rfl
 ·obtain ⟨rfl,_⟩:=hmem s b hs;obtain ⟨rfl,_⟩:=hmem s' b' hs';exact absurd rfl hne
 ·injection hv with hv;subst hv;rw [Cs (by omega)];exact hg.arg
theorem dp {α:Type} {w:World} {g:α→Sem Value}:∀{l:List α} {us:List Value},us.length=l.length→(∀(j:Nat) (x:α) (u:Value),l[j]? =some x→us[j]? =some u→(g x).run P w= .ok u w)→(l.mapM g).run P w= .ok us w
 |[],us,hl,_=>by have:us=[]:=Bv (by simpa using hl);subst this;simp
 |x::l,[],hl,_=>by simp at hl
 |x::l,u::us,hl,h=>by have h1:=h 0 x u rfl rfl;have h2:=dp (l:=l) (us:=us) (by simpa using hl) (fun j y v hy hv=>h (j+1) y v (by simpa using hy) (by simpa using hv));simp [G6,h1,h2]
def gR (tm:Array Value):ResultVar→Sem Value
 | .tmp t=>pure (tm.getD t undef)
 | .cell a t=>do loadVar t (←asAddr (tm.getD a undef))
theorem Ox {func:Func} {σ:St} {η:List PV} {tm:Array Value} {w:World} {β:Nat→Nat} {hv:Nat→Value} {O:Nat→Option Nat} {svs:List SV} (h:Rel w0 Oe η σ tm w β hv O) (hs:Ih P σ func.results.toList=some svs):
  ∃us,A0 ⟨η,Bw w O,β,hv,σ.m⟩ svs us∧(Go.results func tm).run P w= .ok (if h:us.length=1 then us[0] else .tuple us.toArray) w:=by
 have go:∀{l:List ResultVar} {svs:List SV},Ih P σ l=some svs→∃us:List Value,A0 ⟨η,Bw w O,β,hv,σ.m⟩ svs us∧us.length=l.length∧∀(j:Nat) (x:ResultVar) (u:Value),l[j]? =some x→us[j]? =some u→
   (gR tm x).run P w= .ok u w:=by
  intro l
  induction l with
  |nil=>
   intro svs h;simp only [Ih,Ak] at h;subst h;exact ⟨[],by simp only [A0],rfl,fun j x u hx=>by simp at hx⟩
  |cons r l ih=>
   intro svs hs;simp only [Ih] at hs;split at hs
   ·rename_i x xs hx hxs;injection hs with hs;subst hs;obtain ⟨us,u1,u2,u3⟩:=ih hxs;have one:∃u,Am ⟨η,Bw w O,β,hv,σ.m⟩ x u∧(gR tm r).run P w= .ok u w:=by
     cases r with
     |tmp t=>
      simp only [Cy8] at hx;obtain ⟨u,h1,h2⟩:=h.tmps.get t x hx;refine ⟨u,h2,?_⟩;rw [Ag] at h1;simp [gR,A5,h1]
     |cell p t=>
      simp only [Cy8] at hx;split at hx
      ·rename_i sv hsv;split at hx
       ·rename_i v hl;injection hx with hx;subst hx;obtain ⟨u0,h1,h2⟩:=h.tmps.get p sv hsv;rw [Ag] at h1;obtain ⟨ad,u,g1,g2,g3⟩:=xr (G:=none) h (fun g hg=>by cases hg) h2 hl (fun x hx=>by simp at hx);subst g1;refine ⟨u,g3,?_⟩;simp [gR,A5,h1,asAddr,g2]
       ·cases hx
      ·cases hx
    obtain ⟨u,v1,v2⟩:=one;refine ⟨u::us,by simp only [A0];exact ⟨u,us,rfl,v1,u1⟩,by simp [u2],fun j y u' hy hu=> ?_⟩;cases j with
    |zero=>simp at hy hu;subst hy;subst hu;exact v2
    |succ j=>exact u3 j y u' (by simpa using hy) (by simpa using hu)
   ·cases hs
 obtain ⟨us,u1,u2,u3⟩:=go hs;refine ⟨us,u1,?_⟩;have hm:=dp (P:=P) (w:=w) (g:=gR tm) u2 u3;have e:Go.results func tm=(do let vs←List.toArray<$>func.results.toList.mapM (gR tm);pure (if h:vs.size=1 then vs[0] else .tuple vs)):=by
  unfold Go.results;rw [Array.mapM_eq_mapM_toList];have he:∀x,(match x with|ResultVar.tmp t=>pure (tm.getD t undef)|ResultVar.cell a t=>do loadVar t (←asAddr (tm.getD a undef)):Sem Value)=gR tm x:=fun x=>by cases x<;>rfl
  congr
 rw [e];simp only [Sem.run_bind,Sem.run_map];rw [hm];simp only [Result.andThen,Sem.run_pure];by_cases h1:us.length=1
 ·rw [dif_pos h1];have:us.toArray.size=1:=by simpa using h1
  simp only [this,dif_pos];simp
 ·rw [dif_neg h1];have:¬us.toArray.size=1:=by simpa using h1
  rw [dif_neg this]
theorem X2 {func:Func} {σ:St} {η:List PV} {tm:Array Value} {w:World} {β:Nat→Nat} {hv:Nat→Value} {O:Nat→Option Nat} {cs:List SV} (h:Rel w0 Oe η σ tm w β hv O) {svs:List SV} (hsv:Ih P σ func.results.toList=some svs) (hs:Lv P σ func.results.toList=some cs):
  ∃vs:Array Value,(Go.results func tm).run P w= .ok (.agg vs) w∧A0 ⟨η,Bw w O,β,hv,σ.m⟩ cs vs.toList:=by
 have e:∀x:ResultVar,func.results.toList=[x]→∀v,(gR tm x).run P w= .ok v w→(Go.results func tm).run P w= .ok v w:=by
  intro x hx v hv1;have e:Go.results func tm=(do let vs←List.toArray<$>func.results.toList.mapM (gR tm);pure (if h:vs.size=1 then vs[0] else .tuple vs)):=by
   unfold Go.results;rw [Array.mapM_eq_mapM_toList];have he:∀x,(match x with|ResultVar.tmp t=>pure (tm.getD t undef)|ResultVar.cell a t=>do loadVar t (←asAddr (tm.getD a undef)):Sem Value)=gR tm x:=fun x=>by cases x<;>rfl
   congr
  rw [e,hx];simp [G6,hv1,Result.andThen]
 unfold Lv at hs;split at hs
 ·rename_i p t hr;split at hs
  ·rename_i hag;split at hs
   ·rename_i s off hp;split at hs
    ·rename_i cs0 ro hb;injection hs with hs;subst hs;obtain ⟨_,_,vs,T,g3,g4,g5,_⟩:=h.mem s _ hb;obtain ⟨u0,h1,h2⟩:=h.tmps.get p _ hp;rw [Ag] at h1;simp only [Am] at h2;subst h2;have hle:off+Al P t≤cs0.length:=by
      rw [hr] at hsv;simp only [Ih,Cy8,hp] at hsv;unfold Ly at hsv;by_cases hle:off+Al P t≤cs0.length
      ·exact hle
      ·simp only [hb,hag,if_true,if_neg hle] at hsv;split at hsv
       ·rename_i hx _;split at hx
        ·rename_i hl;split at hl<;>cases hl
        ·cases hx
       ·cases hsv
     have hlen:=g5.length;refine ⟨((vs.toList.drop off).take (Al P t)).toArray,e _ hr _ ?_,?_⟩
     ·have:=Ix (P:=P) w (a:=⟨β s,off,none⟩) (us:=(vs.toList.drop off).take (Al P t)) hag (by simp at hlen ⊢;omega) fun j u hu=>by
       rw [A8] at hu;split at hu
       ·rw [A9,Ag] at hu;rw [add_lit,cell_of_row w (β s) (off+j) vs T (0,0) g3];exact hu
       ·cases hu
      simp [gR,A5,h1,asAddr,this]
     ·refine A0.mk (by simp [hlen]) fun j y u hy hu=> ?_;rw [A8] at hy;split at hy
      ·rename_i hj;have hu':((vs.toList.drop off).take (Al P t))[j]? =some u:=by simpa using hu
       rw [A8,if_pos hj] at hu';rw [A9] at hy hu';obtain ⟨u',hu2,hr'⟩:=g5.get _ y hy;rw [hu'] at hu2;injection hu2 with hu2;subst hu2;exact hr'
      ·cases hy
    ·cases hs
   ·cases hs
  ·cases hs
 ·rename_i t hr;split at hs
  ·rename_i cs0 hp;injection hs with hs;subst hs;obtain ⟨u0,h1,h2⟩:=h.tmps.get t _ hp;rw [Ag] at h1;simp only [Am] at h2;obtain ⟨vs,rfl,_,h3⟩:=h2;exact ⟨vs,e _ hr _ (by simp [gR,A5,h1]),h3⟩
  ·cases hs
 ·cases hs
theorem Xw (hC:Contract P sig fn) {f:Nat} (hmu:Qg (sig f)=none) {func:Func} {H:Hints} {t:T} {args rs:List PV} (hf:P.funcs[f]? =some func) (hx:Bp7 P sig f func H=some t) (hev:t.ev fn N args=some (.ret rs)) (hl:args.length=func.params.size+func.nfree) {w:World} {O:Nat→Option Nat} {cargs:Array Value} (hg:Given w O func.params.size args cargs) (hfa:∀e,Wk (sig f)=some e→∃xs b,args[0]? =some (.l (Al P e) xs)∧cargs[0]? =some (.slice b xs.length xs.length)):
  Calls P f cargs w fun e w'=>∃v,e= .returned v∧Cp3 P (sig f) w O rs v w':=by
 unfold Bp7 at hx;split at hx
 ·rename_i c hb;split at hx
  ·rename_i ht;rw [hmu] at hx;simp only [Q8,Ac,false_and,if_false] at hx;refine calls_of_wp hf hb ?_;refine L8 hC c 0 0 (K9 P none (Wk (sig f)) func) _ t args (.ret rs) _ w _ hx hev (by rw [hl];rfl) (Cx6 hg hl ht hfa) ?_;intro x σ' T' η' ζ a' w' h1 h2 h3 h4 h5 h6;have main:∀svs,Ih P σ' func.results.toList=some svs→(match rkOf (sig f) with
     | .own e=>Nh P σ' e svs
     | .full nl m=>match Lv P σ' func.results.toList with
       |some cs=>if dn nl m cs then (Xf σ'.m svs).map fun r=> .ret r.1 else none
       |none=>none
     | .plain=>(Xf σ'.m svs).map fun r=> .ret r.1)=some T'→∃v,(Go.results func a'.tmps).run P w'= .ok v w'∧Cp3 P (sig f) w O rs v w':=by
    intro svs hs hT;obtain ⟨β,hv,O',rel⟩:=h5;obtain ⟨us,u1,u2⟩:=Ox rel hs;refine ⟨_,u2,rel.bel.below rfl,?_⟩;have plainly:((Xf σ'.m svs).map fun r=>T.ret r.1)=some T'→∃O'',(∀c,c<w.heap.size→O'' c=O c)∧(∀c,w'.heap.size≤c→O'' c=none)∧Jg (Bw w' O'') rs (if h:us.length=1 then us[0] else .tuple us.toArray):=by
     intro hT;obtain ⟨⟨es,ss⟩,he,rfl⟩:=Av.1 hT;obtain ⟨O'',hrel,hM,hop,_⟩:=rel.frz ss (n:=0);obtain ⟨ps,q1,q2,q3⟩:=L5 rel hM he u1 (fun s hs=>hop s (by simpa using hs));simp only [T.ev,Av] at h2;obtain ⟨vs,hvs,hret⟩:=h2;injection hret with hret;subst hret;rw [q1] at hvs;injection hvs with hvs;subst hvs;refine ⟨O'',fun c hc=>hrel.ext c hc (by simp [Fr.x]),hrel.out,?_⟩;show Jg (Bw w' O'') ps _
     match ps,us,q2,q3 with
     |[p],[u],_,q3=>exact q3 0 p u rfl rfl
     |[],[],_,_=>exact ⟨#[],by simp,rfl,fun j p u hp=>by simp at hp⟩
     |p::p'::ps,u::u'::us,q2,q3=>
      have:¬(u::u'::us).length=1:=by simp
      rw [dif_neg this];exact ⟨_,rfl,by simpa using q2.symm,fun j p v hp hv=>q3 j p v hp (by simpa using hv)⟩
     |[],_::_,q2,_=>simp at q2
     |_::_,[],q2,_=>simp at q2
     |[_],_::_::_,q2,_=>simp at q2
     |_::_::_,[_],q2,_=>simp at q2
    cases hsig:rkOf (sig f) with
    |plain=>
     rw [hsig] at hT;exact plainly hT
    |full nl m=>
     rw [hsig] at hT;simp only at hT;split at hT
     ·rename_i cs hcs;split at hT
      ·rename_i hmask;obtain ⟨O'',g1,g2,g3⟩:=plainly hT;refine ⟨O'',g1,g2,g3,?_⟩;have hagg:∃vs:Array Value,(Go.results func a'.tmps).run P w'= .ok (.agg vs) w'∧A0 ⟨η',Bw w' O',β,hv,σ'.m⟩ cs vs.toList:=X2 rel hs hcs;obtain ⟨vs,hrun,hcells⟩:=hagg;rw [u2] at hrun;injection hrun with hrun _;rw [hrun];intro j hj;simp only [dn,Ax,decide_eq_true_eq,Cv,F1,An,Cq] at hmask;have hjl:j<cs.length:=by
        rcases Nat.lt_or_ge j cs.length with h|h
        ·exact h
        ·have:=Nat.testBit_lt_two_pow (Ew hmask.1 (Nat.pow_le_pow_right (by omega) h));rw [this] at hj;cases hj
       have hcj:cs[j]? =some cs[j]:=Ay hjl;obtain ⟨u,hu,hru⟩:=hcells.get j _ hcj;rw [Ag] at hu;have hnr:=(hmask.2 j hjl).resolve_left (by rw [hj];simp);have hgd:cs.getD j .und=cs[j]:=by simp [By,hcj]
       rw [hgd] at hnr;generalize cs[j]=x at hru hnr;cases x with
       |nil sz=>
        simp only [Am] at hru;exact ⟨vs,none,0,rfl,by rw [hu,hru],fun _=>⟨rfl,rfl⟩⟩
       |lit sz y=>
        simp only [Am] at hru;obtain ⟨xs,b,_,h5,_⟩:=hru;refine ⟨vs,b,xs.length,rfl,by rw [hu,h5],fun hn=> ?_⟩;rw [hn] at hnr;simp [SV.noRoom] at hnr
       |_=>simp [SV.noRoom] at hnr
      ·cases hT
     ·cases hT
    |own e=>
     rw [hsig] at hT;simp only at hT;refine ⟨O',fun c hc=>rel.ext c hc (by simp [Fr.x]),rel.out,?_⟩;unfold Nh at hT;split at hT
     ·rename_i s;split at hT
      ·rename_i e' sz x lk hb';split at hT
       ·rename_i hcond;obtain ⟨rfl,rfl⟩:=hcond;injection hT with hT;subst hT;obtain ⟨q0,xs,cs,q1,q2,q3,q4,_⟩:=rel.mem s _ hb';have q1':x.ev η'=some (.l (Al P e') xs):=q1;simp only [T.ev,E.evs,q1',Aw,A3,Ak,Out.ret.injEq] at h2;simp only [A0,Am] at u1;obtain ⟨v,r,rfl,hv1,rfl⟩:=u1;refine ⟨q0,xs,cs,h2.symm,?_,q3,fun g hg'=> ?_⟩
        ·show Own w' (Bp1 w.heap.size) e' (Al P e') v xs.length cs;rw [hv1];refine q2.mono fun g hg=> ?_;rcases hg with hg|hg
         ·exact hg
         ·simp [Fr.x] at hg
        ·have hg2:Bp v=some g:=hg';rw [hv1] at hg2;obtain ⟨_,lim,h7,_,h8⟩:=q4 g hg2;rw [h7,h8 rfl]
       ·cases hT
      ·cases hT
     ·rename_i sz;split at hT
      ·rename_i hcond;obtain ⟨rfl,h0⟩:=hcond;injection hT with hT;subst hT;simp only [T.ev,E.evs,E.ev,Aw,A3,Ak,Out.ret.injEq] at h2;simp only [A0,Am] at u1;obtain ⟨v,r,rfl,hv1,rfl⟩:=u1;refine ⟨h0,[],[],h2.symm,?_,fun i x hx=>by simp at hx,fun g hg'=> ?_⟩
       ·show Own w' (Bp1 w.heap.size) e (Al P e) v 0 [];rw [hv1];exact ⟨by simp, .inl ⟨none,rfl,rfl⟩⟩
       ·have hg2:Bp v=some g:=hg';rw [hv1] at hg2;simp [Bp] at hg2
      ·cases hT
     ·rename_i sz x;split at hT
      ·rename_i hcond;obtain ⟨rfl,h0⟩:=hcond;injection hT with hT;subst hT;simp only [A0,Am] at u1;obtain ⟨v,r,rfl,hv1,rfl⟩:=u1;obtain ⟨xs,b,hxe,hvb,_⟩:=hv1;have hxe':x.ev η'=some (.l (Al P e) xs):=hxe;simp only [T.ev,W.ev,Fy9,E.ev,E.evs,hxe',F9,X.bin,Er,Aw,if_true] at h2;have hx0:xs=[]:=by
        by_cases hx0:xs=[]
        ·exact hx0
        ·have hl:((xs.length:Int)==0)=false:=by have:=Bg.2 hx0;simp;omega
         rw [hl] at h2;simp [PV.scal] at h2
       subst hx0;simp only [Bz] at h2;have hrs:[PV.l (Al P e) []]=rs:=by simpa using h2
       refine ⟨h0,[],[],hrs.symm,?_,fun i x hx=>by simp at hx,fun g hg'=> ?_⟩
       ·show Own w' (Bp1 w.heap.size) e (Al P e) v 0 [];rw [hvb];exact ⟨by simp, .inl ⟨b,rfl,rfl⟩⟩
       ·have hg2:Bp v=some g:=hg';rw [hvb] at hg2;cases b<;>simp [Bp] at hg2
      ·cases hT
     ·cases hT
   unfold El4 at h1;simp only [hmu] at h1;have fin:∀svs,Ih P σ' func.results.toList=some svs→(match rkOf (sig f) with
     | .own e=>Nh P σ' e svs
     | .full nl m=>match Lv P σ' func.results.toList with
       |some cs=>if dn nl m cs then (Xf σ'.m svs).map fun r=> .ret r.1 else none
       |none=>none
     | .plain=>(Xf σ'.m svs).map fun r=> .ret r.1)=some T'→a'.defers=[]∧∃v,(Go.results func a'.tmps).run P w'= .ok v w'∧∃v',Ending.returned v= .returned v'∧Cp3 P (sig f) w O rs v' w':=by
    intro svs hs hT;obtain ⟨v,k1,k2⟩:=main svs hs hT;exact ⟨h6,v,k1,v,rfl,k2⟩
   cases x with
   |exit b=>simp at h1
   |normal=>
    simp only at h1;split at h1
    ·rename_i svs hs;exact fin svs hs h1
    ·cases h1
   |ret=>
    simp only at h1;split at h1
    ·rename_i svs hs;exact fin svs hs h1
    ·cases h1
  ·cases hx
 ·cases hx
theorem Br7 (hC:Contract P sig fn) {f e:Nat} {r:Bool} (hmu:Qg (sig f)=some (e,r)) {func:Func} {H:Hints} {t:T} {args rs:List PV} (hf:P.funcs[f]? =some func) (hx:Bp7 P sig f func H=some t) (hev:t.ev fn N args=some (.ret rs)) (hl:args.length=func.params.size+func.nfree) {w:World} {O:Nat→Option Nat} {cargs:Array Value} {v0:Value} {xs:List PV} {us:List Value} (hg:GivenM P e w O func.params.size args cargs v0 xs us):
  Calls P f cargs w fun en w'=>∃v,en= .returned v∧Cp2 P e r v0 w O rs v w':=by
 unfold Bp7 at hx;split at hx
 ·rename_i c hb;split at hx
  ·rename_i ht;rw [hmu,z0 hmu] at hx;have hpos:=hg.pos;have hnp:¬((some (e,r):Option (Nat×Bool)).isSome=true∧func.params.size=0):=fun h=>by omega
   rw [if_neg hnp] at hx;refine calls_of_wp hf hb ?_;refine L8 hC c 0 0 (K9 P (some (e,r)) none func) _ t args (.ret rs) _ w _ hx hev (by rw [hl];rfl) (pb hg hl ht) ?_;intro x σ' T' η' ζ a' w' h1 h2 h3 h4 h5 h6;have main:∀svs,Ih P σ' func.results.toList=some svs→d4 P σ' e r svs=some T'→∃v,(Go.results func a'.tmps).run P w'= .ok v w'∧Cp2 P e r v0 w O rs v w':=by
    intro svs hs hT;obtain ⟨β,hv,O',rel⟩:=h5;obtain ⟨us1,u1,u2⟩:=Ox rel hs;refine ⟨_,u2,rel.bel,O',fun c hc hx=>rel.ext c hc hx,rel.out,?_⟩;unfold d4 at hT;split at hT
    ·rename_i s hsel;split at hT
     ·rename_i e' sz x lk hb';split at hT
      ·rename_i hcond;obtain ⟨rfl,rfl⟩:=hcond;injection hT with hT;subst hT;obtain ⟨q0,ys,cs,q1,q2,q3,q4,_⟩:=rel.mem s _ hb';have q1':x.ev η'=some (.l (Al P e') ys):=q1;simp only [T.ev,E.evs,q1',Aw,A3,Ak,Out.ret.injEq] at h2;refine ⟨ys,cs,h2.symm,q3,fun hr=> ?_,fun hr=> ?_⟩
       ·subst hr;simp only [if_true] at hsel;split at hsel
        ·rename_i s';injection hsel with hsel;subst hsel;simp only [A0,Am] at u1;obtain ⟨v,r1,rfl,hv1,rfl⟩:=u1;refine ⟨?_,fun g hg'=> ?_⟩
         ·show Own w' _ e' (Al P e') v ys.length cs;rw [hv1];exact q2
         ·have hg2:Bp v=some g:=hg';rw [hv1] at hg2;obtain ⟨_,lim,h7,_,h8⟩:=q4 g hg2;rw [h7,h8 rfl]
        ·cases hsel
       ·subst hr;simp only [Ac,if_false] at hsel;split at hsel
        ·rename_i s' ht0;split at hsel
         ·rename_i hs0;injection hsel with hsel;subst hsel;subst hs0;have hvs:hv S0=v0:=by have g1:=rel.t0 v0 rfl ht0;obtain ⟨v,g2,g3⟩:=rel.tmps.get 0 _ ht0;rw [Ag,g1] at g2;injection g2 with g2;simp only [Am] at g3;rw [←g3,g2]
          simp only [A0] at u1;subst u1;refine ⟨rfl,?_,fun g hg'=> ?_⟩
          ·have:=q2.mono (B':=fun _=>True) fun _ _=>trivial;show Own w' _ e' (Al P e') v0 ys.length cs;rw [←hvs];exact this
          ·have hg2:Bp (hv S0)=some g:=by rw [hvs];exact hg'
           obtain ⟨_,lim,h7,_,h8⟩:=q4 g hg2;rw [h7,h8 rfl]
         ·cases hsel
        ·cases hsel
      ·cases hT
     ·cases hT
    ·cases hT
   unfold El4 at h1;simp only [hmu] at h1;have fin:∀svs,Ih P σ' func.results.toList=some svs→d4 P σ' e r svs=some T'→a'.defers=[]∧∃v,(Go.results func a'.tmps).run P w'= .ok v w'∧∃v',Ending.returned v= .returned v'∧Cp2 P e r v0 w O rs v' w':=by intro svs hs hT;obtain ⟨v,k1,k2⟩:=main svs hs hT;exact ⟨h6,v,k1,v,rfl,k2⟩
   cases x with
   |exit b=>simp at h1
   |normal=>
    simp only at h1;split at h1
    ·rename_i svs hs;exact fin svs hs h1
    ·cases h1
   |ret=>
    simp only at h1;split at h1
    ·rename_i svs hs;exact fin svs hs h1
    ·cases h1
  ·cases hx
 ·cases hx
def nv (sig:Nat→Option Nat) (f:Nat) (func:Func):Nat:=func.params.size+if (Qg (sig f)).isSome||(Wk (sig f)).isSome then TAG else 0
def Tab (P:Program) (sig:Nat→Option Nat) (tab:Nat→Option FT):Prop:=
 (∀ f ft, tab f = some ft → ∃ func H, P.funcs[f]? = some func ∧ (func.name == "runtime.NumGoroutine") = false ∧ nv sig f func = ft.np ∧ func.params.size < TAG ∧ func.nfree = ft.nf ∧ ∃ t, Bp7 P sig f func H = some t ∧ t.slim = ft.t) ∧ Gg8 P sig
theorem Ns {f:Nat} {func:Func} {H:Hints} {t:T} (hx:Bp7 P sig f func H=some t):func.body.isSome=true:=by
 unfold Bp7 at hx;split at hx
 ·rename_i h;rw [h];rfl
 ·cases hx
theorem p9 {tab:Nat→Option FT} {ext:Fns→Fns} (hT:Tab P sig tab) (hE:∀fn,Contract P sig fn→Contract P sig (ext fn)):∀k,Contract P sig (Oj tab ext k)
 |0=>⟨fun f n vs rs h=>by simp [Oj] at h,hT.2⟩
 |k+1=>by
  refine ⟨fun f n vs rs h=> ?_,hT.2⟩
  ·
   have ih:=p9 hT hE k;simp only [Oj] at h;split at h
   ·rename_i ft hft;split at h
    ·rename_i hc;obtain ⟨o,ho,h⟩:=Aj.1 h;split at h
     ·rename_i vs';injection h with h;subst h;obtain ⟨func,H,hf,hn,hp,hlt,hnf,t0,hx,hs⟩:=hT.1 f ft hft;rw [←hs,Gk] at ho;obtain ⟨hc1,hc2⟩:=hc;unfold nv at hp;refine ⟨fun hn1 w O args hg=> ?_,fun hn1=> ?_⟩
      ·have hno:((Qg (sig f)).isSome||(Wk (sig f)).isSome)=false:=by
        cases hb:((Qg (sig f)).isSome||(Wk (sig f)).isSome) with
        |false=>rfl
        |true=>
         rw [hb] at hp;simp only [if_true] at hp;omega
       rw [hno] at hp;simp only [Ac,if_false,Dc] at hp;simp only [oq,Option.isSome_eq_false_iff,B0] at hno;obtain ⟨hmu,hfa⟩:=hno;refine Gp.of_calls hf hn (Ns hx) ?_;refine Xw ih hmu hf hx ho ?_ (by rw [hp,hc1];exact hg) (fun e he=>by rw [hfa] at he;cases he);rw [hc2,←hp,Df hlt,hnf]
      ·have hyes:((Qg (sig f)).isSome||(Wk (sig f)).isSome)=true:=by
        cases hb:((Qg (sig f)).isSome||(Wk (sig f)).isSome) with
        |true=>rfl
        |false=>
         rw [hb] at hp;simp only [Ac,if_false] at hp;omega
       rw [hyes] at hp;simp only [if_true] at hp;have e1:n - TAG=func.params.size:=by omega
       have e2:(func.params.size+TAG) % TAG=func.params.size:=by rw [Nat.add_mod_right];exact Df hlt
       cases hmu:Qg (sig f) with
       |some er=>
        obtain ⟨e,r⟩:=er;refine .inl ⟨e,r,rfl,fun w O args v0 xs us hg=> ?_⟩;refine Gp.of_calls hf hn (Ns hx) ?_;rw [e1] at hg;refine Br7 ih hmu hf hx ho ?_ hg;rw [hc2,←hp,e2,hnf]
       |none=>
        rw [hmu] at hyes;simp only [Q8,Fz2] at hyes;obtain ⟨e,hfa⟩:=B6.1 hyes;refine .inr ⟨e,hfa,fun w O args b xs hg h0 h5=> ?_⟩;refine Gp.of_calls hf hn (Ns hx) ?_;rw [e1] at hg;refine Xw ih hmu hf hx ho ?_ hg (fun e' he=> ?_)
        ·rw [hc2,←hp,e2,hnf]
        ·rw [hfa] at he;injection he with he;subst he;exact ⟨xs,b,h0,h5⟩
     ·cases h
    ·cases h
   ·exact (hE _ ih).says f n vs rs h
end
end Go.X
/- The functions of a table without fuel. -/
namespace Go.X
open Go
def Fle (fn fn':Fns):Prop:=∀f n vs rs,fn f n vs=some rs→fn' f n vs=some rs
theorem Fle.refl (fn:Fns):Fle fn fn:=fun _ _ _ _ h=>h
theorem Fle.trans {a b c:Fns} (h:Fle a b) (h':Fle b c):Fle a c:=fun f n vs rs e=>h' f n vs rs (h f n vs rs e)
theorem Mk {flat:Bool} {m:Nat} {η η':List PV} {r r':Option (List PV)} (hr:∀rs,r=some rs→r'=some rs) (h:results flat m η r=some η'):results flat m η r'=some η':=by unfold results at h ⊢;obtain ⟨rs,h1,h2⟩:=Aj.1 h;rw [hr rs h1];exact h2
theorem Qp {η η':List PV} {m:Nat} {g:Option E} {r r':Option (List PV)} (hr:∀x,r=some x→r'=some x) (h:D9 η m g r=some η'):D9 η m g r'=some η':=by
 unfold D9 at h ⊢;split at h
 ·exact hr _ h
 ·obtain ⟨v,h1,h2⟩:=Aj.1 h;rw [h1];simp only [Aw];split at h2
  ·exact hr _ h2
  ·exact h2
  ·cases h2
theorem W.ev_le {fn fn':Fns} (hf:Fle fn fn') {η η':List PV}:∀{x:W},x.ev fn η=some η'→x.ev fn' η=some η'
 | .chk x,h=>h
 | .call g flat f ar m,h=>by simp only [W.ev] at h ⊢;refine Qp (fun x hx=> ?_) h;obtain ⟨vs,h1,h2⟩:=Aj.1 hx;rw [h1];exact Mk (fun rs hr=>hf _ _ _ _ hr) h2
 | .clo g flat c ar m,h=>by
   simp only [W.ev] at h ⊢;refine Qp (fun x hx=> ?_) h;obtain ⟨q,h0,hx⟩:=Aj.1 hx;obtain ⟨vs,h1,h2⟩:=Aj.1 hx;rw [h0];simp only [Aw];rw [h1];simp only [Aw];split at h2
   ·exact Mk (fun rs hr=>hf _ _ _ _ hr) h2
   ·cases h2
 | .mcall f ar,h=>by simp only [W.ev] at h ⊢;obtain ⟨vs,h1,h2⟩:=Aj.1 h;rw [h1];exact Mk (fun rs hr=>hf _ _ _ _ hr) h2
theorem Ov {s s':List PV→Option Out} (hs:∀vs o,s vs=some o→s' vs=some o) {id:Nat}:∀{n n':Nat} {st:List PV} {o:Out},n≤n'→Fb s id n st=some o→Fb s' id n' st=some o
 |0,_,_,_,_,h=>by simp [Fb] at h
 |n+1,0,_,_,hn,_=>by omega
 |n+1,n'+1,st,o,hn,h=>by
  simp only [Fb] at h ⊢;obtain ⟨o1,h1,h2⟩:=Aj.1 h;rw [hs _ _ h1];simp only [Aw];split at h2
  ·split at h2
   ·rename_i hj;rw [if_pos hj];exact Ov hs (by omega) h2
   ·rename_i hj;rw [if_neg hj];exact h2
  ·exact h2
theorem T.ev_le {fn fn':Fns} (hf:Fle fn fn') {N N':Nat} (hN:N≤N'):∀{t:T} {η:List PV} {o:Out},t.ev fn N η=some o→t.ev fn' N' η=some o
 | .w x k,η,o,h=>by simp only [T.ev] at h ⊢;obtain ⟨η',h1,h2⟩:=Aj.1 h;rw [W.ev_le hf h1];exact T.ev_le hf hN h2
 | .ite c t e,η,o,h=>by
   simp only [T.ev] at h ⊢;obtain ⟨r,h1,h2⟩:=Aj.1 h;rw [h1];simp only [Aw];split at h2
   ·exact T.ev_le hf hN h2
   ·exact T.ev_le hf hN h2
   ·cases h2
 | .ret es,η,o,h=>h
 | .yld id es,η,o,h=>h
 | .blk id body k,η,o,h=>by
   simp only [T.ev] at h ⊢;obtain ⟨o1,h1,h2⟩:=Aj.1 h;rw [T.ev_le hf hN h1];simp only [Aw];split at h2
   ·split at h2
    ·rename_i hj;rw [if_pos hj];exact T.ev_le hf hN h2
    ·rename_i hj;rw [if_neg hj];exact h2
   ·exact h2
 | .loop id init body,η,o,h=>by simp only [T.ev] at h ⊢;obtain ⟨st,h1,h2⟩:=Aj.1 h;rw [h1];exact Ov (fun vs o ho=>T.ev_le hf hN ho) hN h2
def H1 (ext:Fns→Fns):Prop:=∀fn fn',Fle fn fn'→Fle (ext fn) (ext fn')
section
variable {tab:Nat→Option FT} {ext:Fns→Fns}
theorem Ul (hE:H1 ext):∀k,Fle (Oj tab ext k) (Oj tab ext (k+1))
 |0=>fun f n vs rs h=>by simp [Oj] at h
 |k+1=>fun f n vs rs h=>by
  have ih:=Ul hE k;rw [Oj] at h ⊢;cases ht:tab f with
  |none=>simp only [ht] at h ⊢;exact hE _ _ ih _ _ _ _ h
  |some t=>
   simp only [ht] at h ⊢;split at h
   ·rename_i hc;rw [if_pos hc];obtain ⟨o,h1,h2⟩:=Aj.1 h;rw [T.ev_le ih (Nat.le_succ k) h1];exact h2
   ·cases h
theorem Ij (hE:H1 ext) {k k':Nat} (h:k≤k'):Fle (Oj tab ext k) (Oj tab ext k'):=by
 induction h with
 |refl=>exact Fle.refl _
 |step _ ih=>exact ih.trans (Ul hE _)
open Classical in
noncomputable def sem (tab:Nat→Option FT) (ext:Fns→Fns):Fns:=fun f n args=>
 if h:∃rs k,Oj tab ext k f n args=some rs then some h.choose else none
theorem N8 (hE:H1 ext) {f n:Nat} {args rs:List PV}:sem tab ext f n args=some rs↔∃k,Oj tab ext k f n args=some rs:=by
 unfold sem;constructor
 ·intro h;split at h
  ·rename_i hex;injection h with h;subst h;exact hex.choose_spec
  ·cases h
 ·rintro ⟨k,hk⟩;have hex:∃rs k,Oj tab ext k f n args=some rs:=⟨rs,k,hk⟩;rw [dif_pos hex];obtain ⟨k',hk'⟩:=hex.choose_spec;have h1:=Ij hE (Gd8 k k') _ _ _ _ hk;have h2:=Ij hE (Br2 k k') _ _ _ _ hk';rw [h1] at h2;exact h2.symm
theorem W.ev_cont (hE:H1 ext) {η η':List PV}:∀{x:W},x.ev (sem tab ext) η=some η'→∃k,x.ev (Oj tab ext k) η=some η':=by
 have res:∀{flat:Bool} {m f n:Nat} {vs:List PV},results flat m η (sem tab ext f n vs)=some η'→∃k,results flat m η (Oj tab ext k f n vs)=some η':=by intro flat m f n vs h;unfold results at h;obtain ⟨rs,h1,h2⟩:=Aj.1 h;obtain ⟨k,hk⟩:=(N8 hE).1 h1;exact ⟨k,by unfold results;rw [hk];exact h2⟩
 intro x h;cases x with
 |chk x=>exact ⟨0,h⟩
 |call g flat f ar m=>
  simp only [W.ev] at h ⊢;unfold D9 at h ⊢;split at h
  ·obtain ⟨vs,h1,h2⟩:=Aj.1 h;obtain ⟨k,hk⟩:=res h2;exact ⟨k,by rw [h1];exact hk⟩
  ·obtain ⟨v,h0,h⟩:=Aj.1 h;split at h
   ·obtain ⟨vs,h1,h2⟩:=Aj.1 h;obtain ⟨k,hk⟩:=res h2;exact ⟨k,by rw [h0];simp only [Aw];rw [h1];exact hk⟩
   ·exact ⟨0,by rw [h0];exact h⟩
   ·cases h
 |clo g flat c ar m=>
  have body:((c.ev η).bind fun q=>(E.evs η ar).bind fun vs=>match q with| .f f caps=>results flat m η (sem tab ext f vs.length (vs++caps))|_=>none)=some η'→∃k,((c.ev η).bind fun q=>(E.evs η ar).bind fun vs=>match q with| .f f caps=>results flat m η (Oj tab ext k f vs.length (vs++caps))|_=>none)=some η':=by
   intro hh;obtain ⟨q,h0,hh⟩:=Aj.1 hh;obtain ⟨vs,h1,hh⟩:=Aj.1 hh;cases q with
   |f f caps=>
    obtain ⟨k,hk⟩:=res hh;exact ⟨k,by rw [h0];simp only [Aw];rw [h1];exact hk⟩
   |_=>simp at hh
  simp only [W.ev] at h ⊢;unfold D9 at h ⊢;split at h
  ·exact body h
  ·obtain ⟨v,h0,h⟩:=Aj.1 h;split at h
   ·obtain ⟨k,hk⟩:=body h;exact ⟨k,by rw [h0];exact hk⟩
   ·exact ⟨0,by rw [h0];exact h⟩
   ·cases h
 |mcall f ar=>
  simp only [W.ev] at h ⊢;obtain ⟨vs,h1,h2⟩:=Aj.1 h;obtain ⟨k,hk⟩:=res h2;exact ⟨k,by rw [h1];exact hk⟩
theorem T.ev_cont (hE:H1 ext) {N:Nat}:∀{t:T} {η:List PV} {o:Out},t.ev (sem tab ext) N η=some o→∃k,t.ev (Oj tab ext k) N η=some o
 | .w x t,η,o,h=>by simp only [T.ev] at h ⊢;obtain ⟨η',h1,h2⟩:=Aj.1 h;obtain ⟨k1,g1⟩:=W.ev_cont hE h1;obtain ⟨k2,g2⟩:=T.ev_cont hE h2;refine ⟨max k1 k2,?_⟩;rw [W.ev_le (Ij hE (Gd8 k1 k2)) g1];exact T.ev_le (Ij hE (Br2 k1 k2)) (Ah _) g2
 | .ite c t e,η,o,h=>by
   simp only [T.ev] at h ⊢;obtain ⟨r,h1,h2⟩:=Aj.1 h;split at h2
   ·obtain ⟨k,g⟩:=T.ev_cont hE h2;exact ⟨k,by rw [h1];exact g⟩
   ·obtain ⟨k,g⟩:=T.ev_cont hE h2;exact ⟨k,by rw [h1];exact g⟩
   ·cases h2
 | .ret es,η,o,h=>⟨0,h⟩
 | .yld id es,η,o,h=>⟨0,h⟩
 | .blk id body t,η,o,h=>by
   simp only [T.ev] at h ⊢;obtain ⟨o1,h1,h2⟩:=Aj.1 h;obtain ⟨k1,g1⟩:=T.ev_cont hE h1;split at h2
   ·split at h2
    ·rename_i hj;obtain ⟨k2,g2⟩:=T.ev_cont hE h2;refine ⟨max k1 k2,?_⟩;rw [T.ev_le (Ij hE (Gd8 k1 k2)) (Ah _) g1];simp only [Aw];rw [if_pos hj];exact T.ev_le (Ij hE (Br2 k1 k2)) (Ah _) g2
    ·rename_i hj;exact ⟨k1,by rw [g1];simp only [Aw];rw [if_neg hj];exact h2⟩
   ·exact ⟨k1,by rw [g1];exact h2⟩
 | .loop id init body,η,o,h=>by
   simp only [T.ev] at h ⊢;obtain ⟨st,h1,h2⟩:=Aj.1 h;have key:∀(n:Nat) (st:List PV),Fb (fun vs=>body.ev (sem tab ext) N (η++vs)) id n st=some o→∃k,Fb (fun vs=>body.ev (Oj tab ext k) N (η++vs)) id n st=some o:=by
    intro n
    induction n with
    |zero=>intro st h;simp [Fb] at h
    |succ n ih=>
     intro st h;simp only [Fb] at h ⊢;obtain ⟨o1,h1,h2⟩:=Aj.1 h;obtain ⟨k1,g1⟩:=T.ev_cont hE h1;split at h2
     ·split at h2
      ·rename_i hj;obtain ⟨k2,g2⟩:=ih _ h2;refine ⟨max k1 k2,?_⟩;rw [T.ev_le (Ij hE (Gd8 k1 k2)) (Ah _) g1];simp only [Aw];rw [if_pos hj];exact Ov (fun vs o ho=>T.ev_le (Ij hE (Br2 k1 k2)) (Ah _) ho) (Ah _) g2
      ·rename_i hj;exact ⟨k1,by rw [g1];simp only [Aw];rw [if_neg hj];exact h2⟩
     ·exact ⟨k1,by rw [g1];exact h2⟩
   obtain ⟨k,g⟩:=key N st h2;exact ⟨k,by rw [h1];exact g⟩
theorem Ed8 (hE:H1 ext) {f n N:Nat} {ft:FT} {args rs:List PV} (ht:tab f=some ft) (hn:ft.np=n) (hl:args.length=ft.np % TAG+ft.nf) (h:ft.t.ev (sem tab ext) N args=some (.ret rs)):sem tab ext f n args=some rs:=by obtain ⟨k,hk⟩:=T.ev_cont hE h;refine (N8 hE).2 ⟨max k N+1,?_⟩;rw [Oj];simp only [ht];rw [if_pos ⟨hn,hl⟩,T.ev_le (Ij hE (Gd8 k N)) (Br2 k N) hk];rfl
end
end Go.X
/- Functions without a body: what the model says of them. -/
namespace Go.X
open Go Go.RowKit
inductive XK where
 |countS|indexS|cmpS
 deriving DecidableEq
def XK.entry:XK→Array Value→Sem Value
 | .countS=>Extern.BytealgCount.count
 | .indexS=>Extern.BytealgIndexByte.indexByte
 | .cmpS=>Extern.BytealgCompare.compare
def il (f:List UInt8→UInt8→Int):List PV→Option (List PV)
 |[.s x, .i .u8 c]=>some [.i .i64 (f x c.toNat.toUInt8)]
 |_=>none
def Cy7 (f:List UInt8→List UInt8→Int):List PV→Option (List PV)
 |[.s x, .s y]=>some [.i .i64 (f x y)]
 |_=>none
def XK.run:XK→List PV→Option (List PV)
 | .countS=>il fun x c=>(Lib.countByte x c:Int)
 | .indexS=>il Lib.indexByte
 | .cmpS=>Cy7 Lib.compareBytes
theorem Jp {f:List UInt8→UInt8→Int} {vs rs:List PV} (h:il f vs=some rs):∃x c,vs=[.s x, .i .u8 c]∧rs=[.i .i64 (f x c.toNat.toUInt8)]:=by
 unfold il at h;split at h
 ·rename_i x c;injection h with h;exact ⟨x,c,rfl,h.symm⟩
 ·cases h
theorem Qv {f:List UInt8→List UInt8→Int} {vs rs:List PV} (h:Cy7 f vs=some rs):∃x y,vs=[.s x, .s y]∧rs=[.i .i64 (f x y)]:=by
 unfold Cy7 at h;split at h
 ·rename_i x c;injection h with h;exact ⟨x,c,rfl,h.symm⟩
 ·cases h
def lkX:List (Nat×XK)→Nat→Option XK
 |[],_=>none
 |(k,t)::r,f=>if k=f then some t else lkX r f
def Wq (xs:List (Nat×XK)):Fns→Fns:=fun _ f n args=>match lkX xs f with
 |some k=>if n=args.length then k.run args else none
 |none=>none
theorem Qt (xs:List (Nat×XK)):H1 (Wq xs):=fun _ _ _ _ _ _ _ h=>h
def XOK (P : Program) (f : Nat) (k : XK) : Prop := ∃ func, P.funcs[f]? = some func ∧ (func.name == "runtime.NumGoroutine") = false ∧ func.body.isNone = true ∧ Extern.findNext func = none ∧ Extern.find func = some k.entry
def Gg6 (P:Program):List (Nat×XK)→Prop
 |[]=>True
 |p::r=>XOK P p.1 p.2∧Gg6 P r
theorem Ct1 {P:Program}:∀{xs:List (Nat×XK)} {f:Nat} {k:XK},Gg6 P xs→lkX xs f=some k→XOK P f k
 |[],_,_,_,h=>by simp [lkX] at h
 |(j,t)::r,f,k,hx,h=>by
  simp only [lkX] at h;split at h
  ·rename_i e;injection h with h;subst h;subst e;exact hx.1
  ·exact Ct1 hx.2 h
theorem Mq {w:World} {O:Nat→Option Nat} {n:Nat} {vs:List PV} {args:Array Value} (hg:Given w O n vs args) (hn:n=vs.length) {j:Nat} {p:PV} (hp:vs[j]? =some p):∃v,args[j]? =some v∧Rep (Bw w O) p v:=by have hj:=(Aq.1 hp).1;have hs:=hg.size;obtain ⟨v,hv⟩:∃v,args[j]? =some v:=⟨args[j]'(by omega),Dq (by omega)⟩;exact ⟨v,hv,hg.val j p v (by omega) hp hv⟩
theorem Rb {args:Array Value} {a b:Value} (hs:args.size=2) (ha:args[0]? =some a) (hb:args[1]? =some b):args= #[a,b]:=by
 obtain ⟨l⟩:=args
 match l,hs with
 |[x,y],_=>simp at ha hb;simp [ha,hb]
theorem fj {sig:Nat→Option Nat}:∀{xs:List (Nat×XK)},(xs.all fun p=>(sig p.1).isNone)=true→∀f k,lkX xs f=some k→sig f=none
 |[],_,f,k,h=>by simp [lkX] at h
 |(j,t)::r,h,f,k,hk=>by
  simp only [List.all_cons,Ax,B0] at h;simp only [lkX] at hk;split at hk
  ·rename_i e;subst e;exact h.1
  ·exact fj h.2 f k hk
theorem XK.run_len {k:XK} {vs rs:List PV} (h:k.run vs=some rs):vs.length=2:=by
 cases k with
 |countS=>obtain ⟨x,c,rfl,_⟩:=Jp (by simpa only [XK.run] using h);rfl
 |indexS=>obtain ⟨x,c,rfl,_⟩:=Jp (by simpa only [XK.run] using h);rfl
 |cmpS=>obtain ⟨x,c,rfl,_⟩:=Qv h;rfl
theorem Cl2 {P:Program} {sig:Nat→Option Nat} {xs:List (Nat×XK)} (hx:Gg6 P xs) (hsig:∀f k,lkX xs f=some k→sig f=none) (fn:Fns) (hC:Contract P sig fn):Contract P sig (Wq xs fn):=by
 refine ⟨fun f n vs rs h=> ?_,hC.bld⟩
 ·simp only [Wq] at h;split at h
  ·rename_i k hk;split at h
   ·rename_i hn;refine ⟨fun _ w O args hg=> ?_,fun hT=>by rw [hn,XK.run_len h] at hT;simp [TAG] at hT⟩;obtain ⟨func,h1,h2,h3,h4,h5⟩:=Ct1 hx hk;have hrun:=fun a=>run_callFunc_extern h1 h2 h3 h4 h5 a w;have fin:∀(z:Int) (a:Array Value),args=a→(k.entry a).run P w= .ok (.int .i64 z) w→Gp P f args w (Cp3 P (sig f) w O [.i .i64 z]):=by
     intro z a ha hr;subst ha;refine .inl ⟨.int .i64 z,w,?_,Blw.refl _ _,O,fun _ _=>rfl,hg.out,?_⟩
     ·rw [hrun,hr];rfl
     ·rw [hsig f k hk];exact Rep.i .i64 z
    cases k with
    |countS=>
     obtain ⟨x,c,rfl,rfl⟩:=Jp (by simpa only [XK.run] using h);obtain ⟨a,ha,ra⟩:=Mq hg hn (j:=0) rfl;obtain ⟨b,hb,rb⟩:=Mq hg hn (j:=1) rfl;have e:=Rb (by rw [hg.size];rfl) ha hb;obtain ⟨s,rfl,rfl⟩:=ra.str;have:=rb.int;subst this;exact fin _ _ e (Lib.run_countString s c w)
    |indexS=>
     obtain ⟨x,c,rfl,rfl⟩:=Jp (by simpa only [XK.run] using h);obtain ⟨a,ha,ra⟩:=Mq hg hn (j:=0) rfl;obtain ⟨b,hb,rb⟩:=Mq hg hn (j:=1) rfl;have e:=Rb (by rw [hg.size];rfl) ha hb;obtain ⟨s,rfl,rfl⟩:=ra.str;have:=rb.int;subst this;exact fin _ _ e (Lib.run_indexByteString s c w)
    |cmpS=>
     obtain ⟨x,y,rfl,rfl⟩:=Qv h;obtain ⟨a,ha,ra⟩:=Mq hg hn (j:=0) rfl;obtain ⟨b,hb,rb⟩:=Mq hg hn (j:=1) rfl;have e:=Rb (by rw [hg.size];rfl) ha hb;obtain ⟨s,rfl,rfl⟩:=ra.str;obtain ⟨t,rfl,rfl⟩:=rb.str;exact fin _ _ e (Lib.run_compareString s t w)
   ·cases h
  ·cases h
theorem Xt {tab:Nat→Option FT} {xs:List (Nat×XK)} {f:Nat} {k:XK} {args rs:List PV} (ht:tab f=none) (hk:lkX xs f=some k) (h:k.run args=some rs):sem tab (Wq xs) f args.length args=some rs:=by refine (N8 (Qt xs)).2 ⟨1,?_⟩;rw [Oj];simp only [ht];simp only [Wq,hk,if_true];exact h
end Go.X
/- slices.SortFunc, by the library's contract: what is turned is the sorted list. -/
namespace Go.X
open Go Go.RowKit
def scl:PV→Bool
 | .b _| .i _ _| .s _=>true
 |_=>false
def Hp7 (agg:Bool) (sz:Nat):PV→Bool
 | .a cs=>agg && cs.length==sz && cs.all scl
 |p=> !agg && sz==1 && scl p
def Ts (fn:Fns) (g:Nat) (caps:List PV) (x y:PV):Int:=match fn g 2 (x::y::caps) with
 |some [.i .i64 n]=>n
 |_=>0
structure SortFit (fn:Fns) (g:Nat) (caps xs:List PV):Prop where
 ans:∀x∈xs,∀y∈xs,fn g 2 (x::y::caps)=some [.i .i64 (Ts fn g caps x y)]
 irr:∀x∈xs,¬Ts fn g caps x x<0
 tr:∀x∈xs,∀y∈xs,∀z∈xs,Ts fn g caps x y<0→Ts fn g caps y z<0→Ts fn g caps x z<0
 ntr:∀x∈xs,∀y∈xs,∀z∈xs,¬Ts fn g caps x y<0→¬Ts fn g caps y z<0→¬Ts fn g caps x z<0
 tot:∀x∈xs,∀y∈xs,¬Ts fn g caps x y<0→¬Ts fn g caps y x<0→x=y
def Hp2 (fn:Fns) (g:Nat) (caps:List PV) (x y:PV):Bool:= !decide (Ts fn g caps y x<0)
theorem Er6 {fn fn':Fns} (hf:Fle fn fn') {g:Nat} {caps:List PV} {x y:PV} {n:Int} (h:fn g 2 (x::y::caps)=some [.i .i64 n]):Ts fn' g caps x y=n∧Ts fn g caps x y=n:=by unfold Ts;rw [h,hf _ _ _ _ h];exact ⟨rfl,rfl⟩
theorem SortFit.le {fn fn':Fns} (hf:Fle fn fn') {g:Nat} {caps xs:List PV} (h:SortFit fn g caps xs):SortFit fn' g caps xs∧∀x∈xs,∀y∈xs,Ts fn' g caps x y=Ts fn g caps x y:=by
 have e:∀x∈xs,∀y∈xs,Ts fn' g caps x y=Ts fn g caps x y:=fun x hx y hy=>(Er6 hf (h.ans x hx y hy)).1;refine ⟨⟨fun x hx y hy=> ?_,fun x hx=> ?_,fun x hx y hy z hz=> ?_,fun x hx y hy z hz=> ?_,fun x hx y hy=> ?_⟩,e⟩
 ·rw [e x hx y hy];exact hf _ _ _ _ (h.ans x hx y hy)
 ·rw [e x hx x hx];exact h.irr x hx
 ·rw [e x hx y hy,e y hy z hz,e x hx z hz];exact h.tr x hx y hy z hz
 ·rw [e x hx y hy,e y hy z hz,e x hx z hz];exact h.ntr x hx y hy z hz
 ·rw [e x hx y hy,e y hy x hx];exact h.tot x hx y hy
structure SK where
 agg:Bool
 e:Nat
 sz:Nat
 gs:List Nat
open Classical in
noncomputable def SK.run (s:SK) (fn:Fns) (n:Nat):List PV→Option (List PV)
 |[.l sz xs, .f g caps]=>if n=TAG+2∧sz=s.sz∧g∈s.gs∧xs.length<4611686018427387904∧(∀x∈xs,Hp7 s.agg s.sz x=true)∧SortFit fn g caps xs then some [.l sz (xs.mergeSort (Hp2 fn g caps))] else none
 |_=>none
def Cn8 (P:Program) (f sz:Nat) (agg:Bool):Prop:=
 (∀(p:Option Addr) (cap:Nat) (fv:Value) (w:World),Calls P f #[.slice p 0 cap,fv] w fun e w'=>e= .returned (.tuple #[])∧w'=w)∧
 match agg with
 |false=>sz=1∧∀{α:Type} [Inhabited α] (enc:α→Value) (_:Proofs.OneCell enc) (cf:α→α→Int) (_:Sort.SWO (Proofs.ltOf cf)) (g:Nat) (cb:Array Value) (blk off cap:Nat) (d:Array α) (w:World)
   (_:∀args w,(callFunc g args).run P w= .ok (.enter g args) w) (_:Proofs.CmpLays1 P g cb enc cf blk off d.size w) (_:Sort.Holds enc w blk off d) (_:blk<w.heap.size) (_:d.size<4611686018427387904) (_:∀x y,(Proofs.ltOf cf) x y=false→(Proofs.ltOf cf) y x=false→x=y),
   Calls P f #[.slice (some ⟨blk,off,none⟩) d.size cap, .func (.func g) #[] cb] w fun e w'=>
    e= .returned (.tuple #[])∧∃n os,w'=Proofs.sortWorld enc w blk off n (d.toList.mergeSort fun x y=> !(Proofs.ltOf cf) y x).toArray os
 |true=>∀{α:Type} [Inhabited α] (enc:α→List Value) (_:∀x,(enc x).length=sz) (_:∀x,∀v∈enc x,v.oneCell'=true) (cf:α→α→Int) (_:Sort.SWO (Proofs.ltOf cf)) (g:Nat) (cb:Array Value) (blk off cap:Nat) (d:Array α) (w:World)
   (_:∀args w,(callFunc g args).run P w= .ok (.enter g args) w) (_:Proofs.CmpLays P g cb enc sz cf blk off d.size w) (_:Sort.HoldsK enc sz w blk off d) (_:blk<w.heap.size) (_:d.size<4611686018427387904) (_:∀x y,(Proofs.ltOf cf) x y=false→(Proofs.ltOf cf) y x=false→x=y),
   Calls P f #[.slice (some ⟨blk,off,none⟩) d.size cap, .func (.func g) #[] cb] w fun e w'=>
    e= .returned (.tuple #[])∧∃n os,w'=Proofs.sortWorldK enc sz w blk off n (d.toList.mergeSort fun x y=> !(Proofs.ltOf cf) y x).toArray os
def Bp0 (P : Program) (f : Nat) : Prop := ∃ fn, P.funcs[f]? = some fn ∧ (fn.name == "runtime.NumGoroutine") = false ∧ fn.body.isSome = true
structure SOK (P:Program) (sig:Nat→Option Nat) (f:Nat) (s:SK):Prop where
 sig:Qg (sig f)=some (s.e,false)
 size:Al P s.e=s.sz
 says:Cn8 P f s.sz s.agg
 body:Bp0 P f
 gs:∀g∈s.gs,Bp0 P g
end Go.X
/- slices.SortFunc: the library's contract keeps the executor's. -/
namespace Go.X
open Go Go.RowKit
section
variable {w:World} {O:Nat→Option Nat} {g m:Nat} {F:Array Value} {os:Array Obj}
end
theorem Blw.grow {w w':World} (h:Blw w.heap.size w w'):∃q os',w'=Sort.grow (w.drewN q) os':=by
 obtain ⟨h1,h2,h3,h4,h5,h6⟩:=h;refine ⟨w'.drawn - w.drawn,w'.heap.extract w.heap.size w'.heap.size,?_⟩;have hh:w'.heap=w.heap++w'.heap.extract w.heap.size w'.heap.size:=by
  apply Array.ext_getElem?;intro k;by_cases hk:k<w.heap.size
  ·rw [Cs hk,h6 k hk]
  ·rw [Array.getElem?_append_right (by omega),Array.getElem?_extract];by_cases hk2:k<w'.heap.size
   ·rw [if_pos (by omega)];congr 1;omega
   ·rw [if_neg (by omega),Array.getElem?_eq_none (by omega)]
 obtain ⟨a1,a2,a3,a4,a5⟩:=w';obtain ⟨b1,b2,b3,b4,b5⟩:=w;simp only at h1 h2 h3 h4 hh;subst h1;subst h2;subst h3;simp only [Sort.grow,World.drewN,World.mk.injEq];refine ⟨hh,trivial,by omega,trivial,trivial⟩
section
variable {P:Program} {sig:Nat→Option Nat} {fn:Fns}
end
end Go.X
/- slices.SortFunc, outside: what it says. -/
namespace Go.X
open Go Go.RowKit
section
variable {P:Program} {sig:Nat→Option Nat} {fn:Fns}
end
end Go.X
