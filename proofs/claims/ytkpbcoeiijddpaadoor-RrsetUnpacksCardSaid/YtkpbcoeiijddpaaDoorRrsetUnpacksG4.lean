/- Residual programs without the checks that what follows makes by itself. -/
import Derived.Test.YtkpbcoeiijddpaaDoorRrsetUnpacksG0
import Derived.Test.YtkpbcoeiijddpaaDoorRrsetUnpacksG3
import Derived.Lib.Bytealg
import Derived.Shelf.SlSortCmp.NoneTotal
import GoSem.ClaimChange
import Derived.WideShapes
import Derived.ChangeShapes
import Derived.OpenShut
import Derived.Carry
import Derived.SizedLaws
import Derived.IntWalk
open Array renaming getElem?_toList→Af,getD_eq_getD_getElem?→A6,length_toList→Bg,getElem?_append_left→Cm,getElem?_eq_getElem→C9
open Bool renaming and_eq_true→Ax,false_eq_true→Ab,or_eq_true→An,not_eq_true'→B9,not_true→Uk,or_eq_false_iff→dr
open Int renaming toNat_natCast→G3
open List renaming getElem?_eq_some_iff→Aq,getElem?_eq_getElem→Az,length_append→Ac,append_assoc→Ap,getElem?_append_right→A3,getElem?_append_left→A5,getElem?_take→A8,getElem?_drop→A9,eq_nil_of_length_eq_zero→Bj,length_cons→Bq,getD_eq_getElem?_getD→Bz,getElem?_map→Bb,length_nil→Bd,length_pos_iff→Bf,take_append_drop→Br,cons_append→Bt,getElem?_range→B4,all_eq_true→Cy,getElem?_cons_zero→Cr,nil_append→C1,getElem?_cons_succ→Dz,getElem?_of_mem→Dh,drop_eq_getElem_cons→Eb,drop_drop→Er,mem_range→Fy,drop_zero→Fz,mapM_cons→Gg,getElem?_replicate→G1,length_map→Hq,drop_eq_nil_of_le→Ph,length_range→Wp
open Nat renaming le_refl→Ag,add_mul→Bn,zero_le→Ch,add_zero→Dx,mod_eq_of_lt→Dy,zero_add→D1,lt_of_lt_of_le→D7,one_mul→Eh,le_max_right→yg,le_max_left→Eq5
open Option renaming bind_eq_some_iff→Aj,map_eq_some_iff→Av,bind_some→Aw,map_some→As,isNone_iff_eq_none→B0,isSome_iff_exists→B6,bind_eq_bind→Mx,isSome_none→Pd,pure_def→Ry
open Option.some renaming injEq→Ak
set_option maxHeartbeats 1000000
set_option linter.unusedVariables false
set_option linter.unusedSimpArgs false
namespace Go.X
open Go
def E.triv:E→Bool
 | .c _=>true
 |_=>false
mutual
def cov (a:E):E→Bool
 | .v n=>E.same a (.v n)||a.triv
 | .c x=>E.same a (.c x)||a.triv
 | .bin op x y=>E.same a (.bin op x y)||a.triv||cov a x||cov a y
 | .un op x=>E.same a (.un op x)||a.triv||cov a x
 | .ite g x y=>a.triv||cov a g||(cov a x && cov a y)||E.same a (.ite g x y)||
    (match a with
     | .ite (.un .not h) p q=>(h.same g && cov p y && cov q x)||((E.un .not h).same g && cov p x && cov q y)
     | .ite h p q=>h.same g && cov p x && cov q y
     |_=>false)
 | .proj j x=>E.same a (.proj j x)||a.triv||cov a x
 | .sub o n x=>E.same a (.sub o n x)||a.triv||cov a x
 | .agg xs=>E.same a (.agg xs)||a.triv||X9 a xs
 | .fit n x=>E.same a (.fit n x)||a.triv||cov a x
 | .scal x=>E.same a (.scal x)||a.triv||cov a x
 | .idx sz x i=>E.same a (.idx sz x i)||a.triv||cov a x||cov a i
 | .len x=>E.same a (.len x)||a.triv||cov a x
 | .slen x=>E.same a (.slen x)||a.triv||cov a x
 | .sidx x i=>E.same a (.sidx x i)||a.triv||cov a x||cov a i
 | .ssl x lo hi=>E.same a (.ssl x lo hi)||a.triv||cov a x||cov a lo||cov a hi
 | .lsl sz x lo hi=>E.same a (.lsl sz x lo hi)||a.triv||cov a x||cov a lo||cov a hi
 | .app sz x y=>E.same a (.app sz x y)||a.triv||cov a x||cov a y
 | .lit sz xs=>E.same a (.lit sz xs)||a.triv||X9 a xs
 | .rep sz n z=>E.same a (.rep sz n z)||a.triv||cov a n||cov a z
 | .set sz x i off vs=>E.same a (.set sz x i off vs)||a.triv||cov a x||cov a i||X9 a vs
 | .conv k x=>E.same a (.conv k x)||a.triv||cov a x
 | .b2s x=>E.same a (.b2s x)||a.triv||cov a x
 | .s2b x=>E.same a (.s2b x)||a.triv||cov a x
 | .eqs n g ts x y=>E.same a (.eqs n g ts x y)||a.triv||cov a x||cov a y
 | .clo g caps=>E.same a (.clo g caps)||a.triv||X9 a caps
 | .mn x y=>E.same a (.mn x y)||a.triv||cov a x||cov a y
 | .mx x y=>E.same a (.mx x y)||a.triv||cov a x||cov a y
 | .mget x k z=>E.same a (.mget x k z)||a.triv||cov a x||cov a k||cov a z
 | .mset x k v=>E.same a (.mset x k v)||a.triv||cov a x||cov a k||cov a v
 | .der x=>E.same a (.der x)||a.triv||cov a x
 | .mkp o x=>E.same a (.mkp o x)||a.triv||cov a x
def X9 (a:E):List E→Bool
 |[]=>false
 |x::xs=>cov a x||X9 a xs
end
theorem Dj {a:E} {η:List PV} (h:a.triv=true):(a.ev η).isSome=true:=by cases a<;>simp [E.triv] at h;simp [E.ev]
theorem Ck {a b:E} {η:List PV} {p:PV} (h:E.same a b=true) (e:b.ev η=some p):(a.ev η).isSome=true:=by rw [E.same_eq _ _ h,e];rfl
mutual
theorem Cf {η:List PV} (a:E):∀(b:E) (p:PV),cov a b=true→b.ev η=some p→(a.ev η).isSome=true
 | .v n,p,h,e=>by
   simp only [cov,An] at h;rcases h with h|h
   ·exact Ck h e
   ·exact Dj h
 | .c x,p,h,e=>by
   simp only [cov,An] at h;rcases h with h|h
   ·exact Ck h e
   ·exact Dj h
 | .bin op x y,p,h,e=>by
   simp only [cov,An] at h;rcases h with ((h|h)|h)|h
   ·exact Ck h e
   ·exact Dj h
   ·simp only [E.ev] at e;obtain ⟨q0,hq0,e0⟩:=Aj.1 e;exact Cf a x _ h hq0
   ·simp only [E.ev] at e;obtain ⟨q0,hq0,e0⟩:=Aj.1 e;obtain ⟨q1,hq1,e1⟩:=Aj.1 e0;exact Cf a y _ h hq1
 | .un op x,p,h,e=>by
   simp only [cov,An] at h;rcases h with (h|h)|h
   ·exact Ck h e
   ·exact Dj h
   ·simp only [E.ev] at e;obtain ⟨q0,hq0,e0⟩:=Aj.1 e;exact Cf a x _ h hq0
 | .ite g x y,p,h,e=>by
   have e0:=e;simp only [E.ev] at e;obtain ⟨r,hg,e1⟩:=Aj.1 e;have key:∀(h' p' q':E),(∀b,g.ev η=some (.b b)→h'.ev η=some (.b b))→cov p' x=true→cov q' y=true→((E.ite h' p' q').ev η).isSome=true:=by
    intro h' p' q' hh hp hq;simp only [E.ev];split at e1
    ·rw [hh true hg];simp only [Aw];exact Cf p' x _ hp e1
    ·rw [hh false hg];simp only [Aw];exact Cf q' y _ hq e1
    ·cases e1
   have keyN:∀(h' p' q':E),(∀b,g.ev η=some (.b b)→h'.ev η=some (.b b))→cov p' y=true→cov q' x=true→((E.ite (.un .not h') p' q').ev η).isSome=true:=by
    intro h' p' q' hh hp hq;simp only [E.ev];split at e1
    ·rw [hh true hg];simp only [Aw,X.un,Uk];exact Cf q' x _ hq e1
    ·rw [hh false hg];simp only [Aw,X.un,Bool.not_false];exact Cf p' y _ hp e1
    ·cases e1
   simp only [cov,An] at h;rcases h with (((h|h)|h)|h)|h
   ·exact Dj h
   ·exact Cf a g _ h hg
   ·simp only [Ax] at h;split at e1
    ·exact Cf a x _ h.1 e1
    ·exact Cf a y _ h.2 e1
    ·cases e1
   ·exact Ck h e0
   ·split at h
    ·simp only [An,Ax] at h;rcases h with h|h
     ·exact keyN _ _ _ (fun b hb=>by rw [E.same_eq _ _ h.1.1];exact hb) h.1.2 h.2
     ·exact key _ _ _ (fun b hb=>by rw [E.same_eq _ _ h.1.1];exact hb) h.1.2 h.2
    ·simp only [Ax] at h;exact key _ _ _ (fun b hb=>by rw [E.same_eq _ _ h.1.1];exact hb) h.1.2 h.2
    ·cases h
 | .proj j x,p,h,e=>by
   simp only [cov,An] at h;rcases h with (h|h)|h
   ·exact Ck h e
   ·exact Dj h
   ·simp only [E.ev] at e;obtain ⟨q0,hq0,e0⟩:=Aj.1 e;exact Cf a x _ h hq0
 | .sub o n x,p,h,e=>by
   simp only [cov,An] at h;rcases h with (h|h)|h
   ·exact Ck h e
   ·exact Dj h
   ·simp only [E.ev] at e;obtain ⟨q0,hq0,e0⟩:=Aj.1 e;exact Cf a x _ h hq0
 | .agg xs,p,h,e=>by
   simp only [cov,An] at h;rcases h with (h|h)|h
   ·exact Ck h e
   ·exact Dj h
   ·simp only [E.ev] at e;obtain ⟨q0,hq0,e0⟩:=Av.1 e;exact Gm a xs _ h hq0
 | .fit n x,p,h,e=>by
   simp only [cov,An] at h;rcases h with (h|h)|h
   ·exact Ck h e
   ·exact Dj h
   ·simp only [E.ev] at e;obtain ⟨q0,hq0,e0⟩:=Aj.1 e;exact Cf a x _ h hq0
 | .scal x,p,h,e=>by
   simp only [cov,An] at h;rcases h with (h|h)|h
   ·exact Ck h e
   ·exact Dj h
   ·simp only [E.ev] at e;obtain ⟨q0,hq0,e0⟩:=Aj.1 e;exact Cf a x _ h hq0
 | .idx sz x i,p,h,e=>by
   simp only [cov,An] at h;rcases h with ((h|h)|h)|h
   ·exact Ck h e
   ·exact Dj h
   ·simp only [E.ev] at e;obtain ⟨q0,hq0,e0⟩:=Aj.1 e;exact Cf a x _ h hq0
   ·simp only [E.ev] at e;obtain ⟨q0,hq0,e0⟩:=Aj.1 e;obtain ⟨q1,hq1,e1⟩:=Aj.1 e0;exact Cf a i _ h hq1
 | .len x,p,h,e=>by
   simp only [cov,An] at h;rcases h with (h|h)|h
   ·exact Ck h e
   ·exact Dj h
   ·simp only [E.ev] at e;obtain ⟨q0,hq0,e0⟩:=Aj.1 e;exact Cf a x _ h hq0
 | .slen x,p,h,e=>by
   simp only [cov,An] at h;rcases h with (h|h)|h
   ·exact Ck h e
   ·exact Dj h
   ·simp only [E.ev] at e;obtain ⟨q0,hq0,e0⟩:=Aj.1 e;exact Cf a x _ h hq0
 | .sidx x i,p,h,e=>by
   simp only [cov,An] at h;rcases h with ((h|h)|h)|h
   ·exact Ck h e
   ·exact Dj h
   ·simp only [E.ev] at e;obtain ⟨q0,hq0,e0⟩:=Aj.1 e;exact Cf a x _ h hq0
   ·simp only [E.ev] at e;obtain ⟨q0,hq0,e0⟩:=Aj.1 e;obtain ⟨q1,hq1,e1⟩:=Aj.1 e0;exact Cf a i _ h hq1
 | .ssl x lo hi,p,h,e=>by
   simp only [cov,An] at h;rcases h with (((h|h)|h)|h)|h
   ·exact Ck h e
   ·exact Dj h
   ·simp only [E.ev] at e;obtain ⟨q0,hq0,e0⟩:=Aj.1 e;exact Cf a x _ h hq0
   ·simp only [E.ev] at e;obtain ⟨q0,hq0,e0⟩:=Aj.1 e;obtain ⟨q1,hq1,e1⟩:=Aj.1 e0;exact Cf a lo _ h hq1
   ·simp only [E.ev] at e;obtain ⟨q0,hq0,e0⟩:=Aj.1 e;obtain ⟨q1,hq1,e1⟩:=Aj.1 e0;obtain ⟨q2,hq2,e2⟩:=Aj.1 e1;exact Cf a hi _ h hq2
 | .lsl sz x lo hi,p,h,e=>by
   simp only [cov,An] at h;rcases h with (((h|h)|h)|h)|h
   ·exact Ck h e
   ·exact Dj h
   ·simp only [E.ev] at e;obtain ⟨q0,hq0,e0⟩:=Aj.1 e;exact Cf a x _ h hq0
   ·simp only [E.ev] at e;obtain ⟨q0,hq0,e0⟩:=Aj.1 e;obtain ⟨q1,hq1,e1⟩:=Aj.1 e0;exact Cf a lo _ h hq1
   ·simp only [E.ev] at e;obtain ⟨q0,hq0,e0⟩:=Aj.1 e;obtain ⟨q1,hq1,e1⟩:=Aj.1 e0;obtain ⟨q2,hq2,e2⟩:=Aj.1 e1;exact Cf a hi _ h hq2
 | .app sz x y,p,h,e=>by
   simp only [cov,An] at h;rcases h with ((h|h)|h)|h
   ·exact Ck h e
   ·exact Dj h
   ·simp only [E.ev] at e;obtain ⟨q0,hq0,e0⟩:=Aj.1 e;exact Cf a x _ h hq0
   ·simp only [E.ev] at e;obtain ⟨q0,hq0,e0⟩:=Aj.1 e;obtain ⟨q1,hq1,e1⟩:=Aj.1 e0;exact Cf a y _ h hq1
 | .lit sz xs,p,h,e=>by
   simp only [cov,An] at h;rcases h with (h|h)|h
   ·exact Ck h e
   ·exact Dj h
   ·simp only [E.ev] at e;obtain ⟨q0,hq0,e0⟩:=Aj.1 e;exact Gm a xs _ h hq0
 | .rep sz n z,p,h,e=>by
   simp only [cov,An] at h;rcases h with ((h|h)|h)|h
   ·exact Ck h e
   ·exact Dj h
   ·simp only [E.ev] at e;obtain ⟨q0,hq0,e0⟩:=Aj.1 e;exact Cf a n _ h hq0
   ·simp only [E.ev] at e;obtain ⟨q0,hq0,e0⟩:=Aj.1 e;obtain ⟨q1,hq1,e1⟩:=Aj.1 e0;exact Cf a z _ h hq1
 | .set sz x i off vs,p,h,e=>by
   simp only [cov,An] at h;rcases h with (((h|h)|h)|h)|h
   ·exact Ck h e
   ·exact Dj h
   ·simp only [E.ev] at e;obtain ⟨q0,hq0,e0⟩:=Aj.1 e;exact Cf a x _ h hq0
   ·simp only [E.ev] at e;obtain ⟨q0,hq0,e0⟩:=Aj.1 e;obtain ⟨q1,hq1,e1⟩:=Aj.1 e0;exact Cf a i _ h hq1
   ·simp only [E.ev] at e;obtain ⟨q0,hq0,e0⟩:=Aj.1 e;obtain ⟨q1,hq1,e1⟩:=Aj.1 e0;obtain ⟨q2,hq2,e2⟩:=Aj.1 e1;exact Gm a vs _ h hq2
 | .conv k x,p,h,e=>by
   simp only [cov,An] at h;rcases h with (h|h)|h
   ·exact Ck h e
   ·exact Dj h
   ·simp only [E.ev] at e;obtain ⟨q0,hq0,e0⟩:=Aj.1 e;exact Cf a x _ h hq0
 | .b2s x,p,h,e=>by
   simp only [cov,An] at h;rcases h with (h|h)|h
   ·exact Ck h e
   ·exact Dj h
   ·simp only [E.ev] at e;obtain ⟨q0,hq0,e0⟩:=Aj.1 e;exact Cf a x _ h hq0
 | .s2b x,p,h,e=>by
   simp only [cov,An] at h;rcases h with (h|h)|h
   ·exact Ck h e
   ·exact Dj h
   ·simp only [E.ev] at e;obtain ⟨q0,hq0,e0⟩:=Aj.1 e;exact Cf a x _ h hq0
 | .eqs n g ts x y,p,h,e=>by
   simp only [cov,An] at h;rcases h with ((h|h)|h)|h
   ·exact Ck h e
   ·exact Dj h
   ·simp only [E.ev] at e;obtain ⟨q0,hq0,e0⟩:=Aj.1 e;exact Cf a x _ h hq0
   ·simp only [E.ev] at e;obtain ⟨q0,hq0,e0⟩:=Aj.1 e;obtain ⟨q1,hq1,e1⟩:=Aj.1 e0;exact Cf a y _ h hq1
 | .clo g caps,p,h,e=>by
   simp only [cov,An] at h;rcases h with (h|h)|h
   ·exact Ck h e
   ·exact Dj h
   ·simp only [E.ev] at e;obtain ⟨q0,hq0,e0⟩:=Av.1 e;exact Gm a caps _ h hq0
 | .mn x y,p,h,e=>by
   simp only [cov,An] at h;rcases h with ((h|h)|h)|h
   ·exact Ck h e
   ·exact Dj h
   ·simp only [E.ev] at e;obtain ⟨q0,hq0,e0⟩:=Aj.1 e;exact Cf a x _ h hq0
   ·simp only [E.ev] at e;obtain ⟨q0,hq0,e0⟩:=Aj.1 e;obtain ⟨q1,hq1,e1⟩:=Aj.1 e0;exact Cf a y _ h hq1
 | .mx x y,p,h,e=>by
   simp only [cov,An] at h;rcases h with ((h|h)|h)|h
   ·exact Ck h e
   ·exact Dj h
   ·simp only [E.ev] at e;obtain ⟨q0,hq0,e0⟩:=Aj.1 e;exact Cf a x _ h hq0
   ·simp only [E.ev] at e;obtain ⟨q0,hq0,e0⟩:=Aj.1 e;obtain ⟨q1,hq1,e1⟩:=Aj.1 e0;exact Cf a y _ h hq1
 | .mget x k z,p,h,e=>by
   simp only [cov,An] at h;rcases h with (((h|h)|h)|h)|h
   ·exact Ck h e
   ·exact Dj h
   ·simp only [E.ev] at e;obtain ⟨q0,hq0,e0⟩:=Aj.1 e;exact Cf a x _ h hq0
   ·simp only [E.ev] at e;obtain ⟨q0,hq0,e0⟩:=Aj.1 e;obtain ⟨q1,hq1,e1⟩:=Aj.1 e0;exact Cf a k _ h hq1
   ·simp only [E.ev] at e;obtain ⟨q0,hq0,e0⟩:=Aj.1 e;obtain ⟨q1,hq1,e1⟩:=Aj.1 e0;obtain ⟨q2,hq2,e2⟩:=Aj.1 e1;exact Cf a z _ h hq2
 | .mset x k v,p,h,e=>by
   simp only [cov,An] at h;rcases h with (((h|h)|h)|h)|h
   ·exact Ck h e
   ·exact Dj h
   ·simp only [E.ev] at e;obtain ⟨q0,hq0,e0⟩:=Aj.1 e;exact Cf a x _ h hq0
   ·simp only [E.ev] at e;obtain ⟨q0,hq0,e0⟩:=Aj.1 e;obtain ⟨q1,hq1,e1⟩:=Aj.1 e0;exact Cf a k _ h hq1
   ·simp only [E.ev] at e;obtain ⟨q0,hq0,e0⟩:=Aj.1 e;obtain ⟨q1,hq1,e1⟩:=Aj.1 e0;obtain ⟨q2,hq2,e2⟩:=Aj.1 e1;exact Cf a v _ h hq2
 | .der x,p,h,e| .mkp _ x,p,h,e=>by
   simp only [cov,An] at h;rcases h with (h|h)|h
   ·exact Ck h e
   ·exact Dj h
   ·simp only [E.ev] at e;obtain ⟨q0,hq0,e0⟩:=Aj.1 e;exact Cf a x _ h hq0
theorem Gm {η:List PV} (a:E):∀(bs:List E) (ps:List PV),X9 a bs=true→E.evs η bs=some ps→(a.ev η).isSome=true
 |[],ps,h,e=>by simp [X9] at h
 |b::bs,ps,h,e=>by
  simp only [X9,An] at h;simp only [E.evs] at e;obtain ⟨q,hq,e1⟩:=Aj.1 e;obtain ⟨qs,hqs,e2⟩:=Av.1 e1;rcases h with h|h
  ·exact Cf a b _ h hq
  ·exact Gm a bs _ h hqs
end
def F7 (a:E):T→Bool
 | .w (.chk x) k=>cov a x||F7 a k
 | .w (.call none _ _ ar _) _=>X9 a ar
 | .w (.call (some g) _ _ _ _) _=>cov a g
 | .w (.clo none _ c ar _) _=>cov a c||X9 a ar
 | .w (.clo (some g) _ _ _ _) _=>cov a g
 | .w (.mcall _ ar) _=>X9 a ar
 | .ite c t e=>cov a c||(F7 a t && F7 a e)
 | .ret es=>X9 a es
 | .yld _ es=>X9 a es
 | .blk _ body _=>F7 a body
 | .loop _ init _=>X9 a init
theorem Im {fn:Fns} {N:Nat} {η:List PV} (a:E):∀(t:T) (o:Out),F7 a t=true→t.ev fn N η=some o→(a.ev η).isSome=true
 | .w (.chk x) k,o,h,e=>by
   simp only [F7,An] at h;simp only [T.ev,W.ev] at e;obtain ⟨η',h1,h2⟩:=Aj.1 e;obtain ⟨p,hp,rfl⟩:=Av.1 h1;rcases h with h|h
   ·exact Cf a x _ h hp
   ·exact Im a k _ h h2
 | .w (.call none fl f ar m) k,o,h,e=>by simp only [F7] at h;simp only [T.ev,W.ev,D3] at e;obtain ⟨η',h1,h2⟩:=Aj.1 e;obtain ⟨p,hp,_⟩:=Aj.1 h1;exact Gm a ar _ h hp
 | .w (.call (some g) fl f ar m) k,o,h,e=>by simp only [F7] at h;simp only [T.ev,W.ev,D3] at e;obtain ⟨η',h1,h2⟩:=Aj.1 e;obtain ⟨p,hp,_⟩:=Aj.1 h1;exact Cf a g _ h hp
 | .w (.clo none fl c ar m) k,o,h,e=>by
   simp only [F7,An] at h;simp only [T.ev,W.ev,D3] at e;obtain ⟨η',h1,h2⟩:=Aj.1 e;obtain ⟨p,hp,h3⟩:=Aj.1 h1;obtain ⟨q,hq,_⟩:=Aj.1 h3;rcases h with h|h
   ·exact Cf a c _ h hp
   ·exact Gm a ar _ h hq
 | .w (.clo (some g) fl c ar m) k,o,h,e=>by simp only [F7] at h;simp only [T.ev,W.ev,D3] at e;obtain ⟨η',h1,h2⟩:=Aj.1 e;obtain ⟨p,hp,_⟩:=Aj.1 h1;exact Cf a g _ h hp
 | .w (.mcall f ar) k,o,h,e=>by simp only [F7] at h;simp only [T.ev,W.ev] at e;obtain ⟨η',h1,h2⟩:=Aj.1 e;obtain ⟨p,hp,_⟩:=Aj.1 h1;exact Gm a ar _ h hp
 | .ite c t f,o,h,e=>by
   simp only [F7,An,Ax] at h;simp only [T.ev] at e;obtain ⟨r,h1,h2⟩:=Aj.1 e;rcases h with h|h
   ·exact Cf a c _ h h1
   ·split at h2
    ·exact Im a t _ h.1 h2
    ·exact Im a f _ h.2 h2
    ·cases h2
 | .ret es,o,h,e=>by simp only [F7] at h;simp only [T.ev] at e;obtain ⟨ps,hp,_⟩:=Av.1 e;exact Gm a es _ h hp
 | .yld id es,o,h,e=>by simp only [F7] at h;simp only [T.ev] at e;obtain ⟨ps,hp,_⟩:=Av.1 e;exact Gm a es _ h hp
 | .blk id body k,o,h,e=>by simp only [F7] at h;simp only [T.ev] at e;obtain ⟨o1,h1,_⟩:=Aj.1 e;exact Im a body _ h h1
 | .loop id init body,o,h,e=>by simp only [F7] at h;simp only [T.ev] at e;obtain ⟨ps,hp,_⟩:=Aj.1 e;exact Gm a init _ h hp
def T.slim:T→T
 | .w (.chk x) k=>if F7 x k.slim then k.slim else .w (.chk x) k.slim
 | .w x k=> .w x k.slim
 | .ite c t e=> .ite c t.slim e.slim
 | .ret es=> .ret es
 | .yld id es=> .yld id es
 | .blk id body k=> .blk id body.slim k.slim
 | .loop id init body=> .loop id init body.slim
theorem Ft {fn:Fns} {N:Nat}:∀(t:T) (η:List PV),t.slim.ev fn N η=t.ev fn N η
 | .w (.chk x) k,η=>by
   simp only [T.slim];split
   ·rename_i h;rw [Ft k η];simp only [T.ev,W.ev];cases hx:x.ev η with
    |some p=>rfl
    |none=>
     cases hk:k.ev fn N η with
     |none=>rfl
     |some o=>
      rw [←Ft k η] at hk;have:=Im x k.slim o h hk;rw [hx] at this;cases this
   ·simp only [T.ev,W.ev];cases hx:x.ev η with
    |some p=>exact Ft k η
    |none=>rfl
 | .w (.call g fl f ar m) k,η=>by simp only [T.slim,T.ev];congr 1;funext η';exact Ft k η'
 | .w (.clo g fl c ar m) k,η=>by simp only [T.slim,T.ev];congr 1;funext η';exact Ft k η'
 | .w (.mcall f ar) k,η=>by simp only [T.slim,T.ev];congr 1;funext η';exact Ft k η'
 | .ite c t e,η=>by simp only [T.slim,T.ev,Ft t η,Ft e η]
 | .ret es,η=>rfl
 | .yld id es,η=>rfl
 | .blk id body k,η=>by
   simp only [T.slim,T.ev,Ft body η];congr 1;funext o;cases o with
   |ret vs=>rfl
   |yld j vs=>simp only [Ft k (η++vs)]
 | .loop id init body,η=>by
   simp only [T.slim,T.ev];congr 1;funext st;have:(fun vs=>body.slim.ev fn N (η++vs))=fun vs=>body.ev fn N (η++vs):=by funext vs;exact Ft body (η++vs)
   rw [this]
end Go.X
/- Functions. -/
namespace Go.X
open Go Go.RowKit
section
variable {P:Program} {sig:Nat→Option Nat} {fn:Fns} {w0:Fr} {Oe:Nat→Option Nat} {N:Nat}
theorem Av6 {func:Func} {args:List PV} {w:World} {O:Nat→Option Nat} {cargs:Array Value} (hg:Given w O func.params.size args cargs) (hl:args.length=func.params.size+func.nfree) (ht:func.params.size+func.nfree≤func.ntmps) {fa:Option Nat} (hfa:∀e,fa=some e→∃xs b,args[0]? =some (.l (Ah P e) xs)∧cargs[0]? =some (.slice b xs.length xs.length)):
  Q8 ⟨w,none⟩ O args (J9 P none fa func) (cargs++Array.replicate (func.ntmps - cargs.size) undef) w:=by
 refine ⟨fun _=>0,fun _=>undef,O,Bel.refl ⟨w,none⟩,fun _ _ _=>rfl,hg.out,?_,fun s b hs=>by simp [J9,mget] at hs,fun s s' b b' hs=>by simp [J9,mget] at hs,fun v hv=>by cases hv⟩;have hsz:=hg.size;refine A4.mk (by simp [J9];omega) fun j x v hx hv=> ?_;simp only [J9,Pd,Ab,false_and,if_false] at hx;rw [Ap] at hx;by_cases h1:j<func.params.size
 ·rw [A5 (by simpa using h1)] at hx;simp only [Bb,Av] at hx;obtain ⟨k,hk,rfl⟩:=hx;rw [B4 h1] at hk;injection hk with hk;subst hk;have hp:args[j]? =some args[j]:=Az (by omega);rw [Af,Cm (by omega)] at hv;have hval:=hg.val j _ v h1 hp hv;have plain:Am ⟨args,By w O,fun _=>0,fun _=>undef,(J9 P none fa func).m⟩ (.e (.v j)) v:=by simp only [Am,E.ev];exact ⟨args[j],hp,hval⟩
  by_cases hj0:j=0
  ·rw [if_pos hj0];cases fa with
   |none=>exact plain
   |some e=>
    obtain ⟨xs,b,h5,h6⟩:=hfa e rfl;subst hj0;rw [hp] at h5;injection h5 with h5;rw [hv] at h6;injection h6 with h6;simp only [Am,E.ev];exact ⟨xs,b,by rw [hp,h5],h6,by rw [←h5];exact hval⟩
  ·rw [if_neg hj0];exact plain
 ·rw [A3 (by simpa using Nat.le_of_not_lt h1)] at hx;simp only [Hq,Wp] at hx;by_cases h2:j<func.params.size+func.nfree
  ·rw [A5 (by simp;omega)] at hx;simp only [Bb,Av] at hx;obtain ⟨k,hk,rfl⟩:=hx;rw [B4 (by omega)] at hk;injection hk with hk;subst hk;simp only [Am,E.ev,Fz];have hjj:func.params.size+(j - func.params.size)=j:=by omega
   rw [hjj];have hp:args[j]? =some args[j]:=Az (by omega);refine ⟨args[j],hp,hg.cap j _ v (by omega) hp ?_⟩;rw [Af,Cm (by omega)] at hv;exact hv
  ·rw [A3 (by simp;omega),G1] at hx;split at hx
   ·injection hx with hx;subst hx;simp only [Am]
   ·cases hx
theorem Own.mono' {B B':Nat→Prop} {w:World} {e size n:Nat} {v:Value} {xs:List Value} (h:Own w B e size v n xs) (hb:∀g,Bp v=some g→B' g):Own w B' e size v n xs:=by
 refine ⟨h.1,?_⟩;rcases h.2 with h1|⟨g,cap,cur,h1,h2,h3,h4⟩
 ·exact .inl h1
 ·exact .inr ⟨g,cap,cur,h1,h2,hb g (by rw [h1];simp only [Bp,if_neg (show¬cap=0 by omega)]),h4⟩
theorem fw {func:Func} {e:Nat} {r:Bool} {args:List PV} {w:World} {O:Nat→Option Nat} {cargs:Array Value} {v0:Value} {xs:List PV} {us:List Value} (hg:GivenM P e w O func.params.size args cargs v0 xs us) (hl:args.length=func.params.size+func.nfree) (ht:func.params.size+func.nfree≤func.ntmps):
  Q8 ⟨w,some v0⟩ O args (J9 P (some (e,r)) none func) (cargs++Array.replicate (func.ntmps - cargs.size) undef) w:=by
 have hsz:=hg.size;have hpos:=hg.pos;have hmem:∀s b,mget (J9 P (some (e,r)) none func).m s=some b→s=S0∧b= .arr e (Ah P e) (.v 0) .no:=by
  intro s b hs;simp only [J9,mget] at hs;split at hs
  ·rename_i h1;injection hs with hs;exact ⟨h1.symm,hs.symm⟩
  ·cases hs
 have harg:∀v,(cargs++Array.replicate (func.ntmps - cargs.size) undef)[0]? =some v→v=v0:=by intro v hv;rw [Cm (by omega),hg.arg] at hv;injection hv with hv;exact hv.symm
 refine ⟨fun _=>(Bp v0).getD 0,fun _=>v0,O,Bel.refl ⟨w,some v0⟩,fun _ _ _=>rfl,hg.out,?_,fun s b hs=> ?_,fun s s' b b' hs hs' hne=> ?_,fun v hv _=> ?_⟩
 ·refine A4.mk (by simp [J9];omega) fun j x v hx hv=> ?_;simp only [J9,Option.isSome_some,true_and] at hx;rw [Ap] at hx;by_cases h1:j<func.params.size
  ·rw [A5 (by simpa using h1)] at hx;simp only [Bb,Av] at hx;obtain ⟨k,hk,rfl⟩:=hx;rw [B4 h1] at hk;injection hk with hk;subst hk;by_cases hj:j=0
   ·subst hj;simp only [if_true,Am];exact harg v (by rw [←Af];exact hv)
   ·simp only [if_neg hj,Am,E.ev];have hp:args[j]? =some args[j]:=Az (by omega);refine ⟨args[j],hp,hg.val j _ v (by omega) h1 hp ?_⟩;rw [Af,Cm (by omega)] at hv;exact hv
  ·rw [A3 (by simpa using Nat.le_of_not_lt h1)] at hx;simp only [Hq,Wp] at hx;by_cases h2:j<func.params.size+func.nfree
   ·rw [A5 (by simp;omega)] at hx;simp only [Bb,Av] at hx;obtain ⟨k,hk,rfl⟩:=hx;rw [B4 (by omega)] at hk;injection hk with hk;subst hk;simp only [Am,E.ev,Fz];have hjj:func.params.size+(j - func.params.size)=j:=by omega
    rw [hjj];have hp:args[j]? =some args[j]:=Az (by omega);refine ⟨args[j],hp,hg.cap j _ v (by omega) hp ?_⟩;rw [Af,Cm (by omega)] at hv;exact hv
   ·rw [A3 (by simp;omega),G1] at hx;split at hx
    ·injection hx with hx;subst hx;simp only [Am]
    ·cases hx
 ·obtain ⟨rfl,rfl⟩:=hmem s b hs;refine ⟨hg.sz,xs,us,?_,hg.own.mono' fun g hgb=> .inr hgb,hg.el,fun g hgb=> ?_,trivial⟩
  ·show (E.v 0).ev args=_;simp only [E.ev];exact hg.fst
  ·have hgb':Bp v0=some g:=hgb;refine ⟨?_,0,hg.shut g hgb',Ch _,fun _=>rfl⟩;show g=(Bp v0).getD 0;rw [hgb'];rfl
 ·obtain ⟨rfl,_⟩:=hmem s b hs;obtain ⟨rfl,_⟩:=hmem s' b' hs';exact absurd rfl hne
 ·injection hv with hv;subst hv;rw [Cm (by omega)];exact hg.arg
theorem Xc {α:Type} {w:World} {g:α→Sem Value}:∀{l:List α} {us:List Value},us.length=l.length→(∀(j:Nat) (x:α) (u:Value),l[j]? =some x→us[j]? =some u→(g x).run P w= .ok u w)→(l.mapM g).run P w= .ok us w
 |[],us,hl,_=>by have:us=[]:=Bj (by simpa using hl);subst this;simp
 |x::l,[],hl,_=>by simp at hl
 |x::l,u::us,hl,h=>by have h1:=h 0 x u rfl rfl;have h2:=Xc (l:=l) (us:=us) (by simpa using hl) (fun j y v hy hv=>h (j+1) y v (by simpa using hy) (by simpa using hv));simp [Gg,h1,h2]
def gR (tm:Array Value):ResultVar→Sem Value
 | .tmp t=>pure (tm.getD t undef)
 | .cell a t=>do loadVar t (←asAddr (tm.getD a undef))
theorem M6 {func:Func} {σ:St} {η:List PV} {tm:Array Value} {w:World} {β:Nat→Nat} {hv:Nat→Value} {O:Nat→Option Nat} {svs:List SV} (h:Rel w0 Oe η σ tm w β hv O) (hs:H7 P σ func.results.toList=some svs):
  ∃us,A4 ⟨η,By w O,β,hv,σ.m⟩ svs us∧(Go.results func tm).run P w= .ok (if h:us.length=1 then us[0] else .tuple us.toArray) w:=by
 have go:∀{l:List ResultVar} {svs:List SV},H7 P σ l=some svs→∃us:List Value,A4 ⟨η,By w O,β,hv,σ.m⟩ svs us∧us.length=l.length∧∀(j:Nat) (x:ResultVar) (u:Value),l[j]? =some x→us[j]? =some u→
   (gR tm x).run P w= .ok u w:=by
  intro l
  induction l with
  |nil=>
   intro svs h;simp only [H7,Ak] at h;subst h;exact ⟨[],by simp only [A4],rfl,fun j x u hx=>by simp at hx⟩
  |cons r l ih=>
   intro svs hs;simp only [H7] at hs;split at hs
   ·rename_i x xs hx hxs;injection hs with hs;subst hs;obtain ⟨us,u1,u2,u3⟩:=ih hxs;have one:∃u,Am ⟨η,By w O,β,hv,σ.m⟩ x u∧(gR tm r).run P w= .ok u w:=by
     cases r with
     |tmp t=>
      simp only [Aw8] at hx;obtain ⟨u,h1,h2⟩:=h.tmps.get t x hx;refine ⟨u,h2,?_⟩;rw [Af] at h1;simp [gR,A6,h1]
     |cell p t=>
      simp only [Aw8] at hx;split at hx
      ·rename_i sv hsv;split at hx
       ·rename_i v hl;injection hx with hx;subst hx;obtain ⟨u0,h1,h2⟩:=h.tmps.get p sv hsv;rw [Af] at h1;obtain ⟨ad,u,g1,g2,g3⟩:=ng (G:=none) h (fun g hg=>by cases hg) h2 hl (fun x hx=>by simp at hx);subst g1;refine ⟨u,g3,?_⟩;simp [gR,A6,h1,asAddr,g2]
       ·cases hx
      ·cases hx
    obtain ⟨u,v1,v2⟩:=one;refine ⟨u::us,by simp only [A4];exact ⟨u,us,rfl,v1,u1⟩,by simp [u2],fun j y u' hy hu=> ?_⟩;cases j with
    |zero=>simp at hy hu;subst hy;subst hu;exact v2
    |succ j=>exact u3 j y u' (by simpa using hy) (by simpa using hu)
   ·cases hs
 obtain ⟨us,u1,u2,u3⟩:=go hs;refine ⟨us,u1,?_⟩;have hm:=Xc (P:=P) (w:=w) (g:=gR tm) u2 u3;have e:Go.results func tm=(do let vs←List.toArray<$>func.results.toList.mapM (gR tm);pure (if h:vs.size=1 then vs[0] else .tuple vs)):=by
  unfold Go.results;rw [Array.mapM_eq_mapM_toList];have he:∀x,(match x with|ResultVar.tmp t=>pure (tm.getD t undef)|ResultVar.cell a t=>do loadVar t (←asAddr (tm.getD a undef)):Sem Value)=gR tm x:=fun x=>by cases x<;>rfl
  congr
 rw [e];simp only [Sem.run_bind,Sem.run_map];rw [hm];simp only [Result.andThen,Sem.run_pure];by_cases h1:us.length=1
 ·rw [dif_pos h1];have:us.toArray.size=1:=by simpa using h1
  simp only [this,dif_pos];simp
 ·rw [dif_neg h1];have:¬us.toArray.size=1:=by simpa using h1
  rw [dif_neg this]
theorem U5 {func:Func} {σ:St} {η:List PV} {tm:Array Value} {w:World} {β:Nat→Nat} {hv:Nat→Value} {O:Nat→Option Nat} {cs:List SV} (h:Rel w0 Oe η σ tm w β hv O) {svs:List SV} (hsv:H7 P σ func.results.toList=some svs) (hs:Kv P σ func.results.toList=some cs):
  ∃vs:Array Value,(Go.results func tm).run P w= .ok (.agg vs) w∧A4 ⟨η,By w O,β,hv,σ.m⟩ cs vs.toList:=by
 have e:∀x:ResultVar,func.results.toList=[x]→∀v,(gR tm x).run P w= .ok v w→(Go.results func tm).run P w= .ok v w:=by
  intro x hx v hv1;have e:Go.results func tm=(do let vs←List.toArray<$>func.results.toList.mapM (gR tm);pure (if h:vs.size=1 then vs[0] else .tuple vs)):=by
   unfold Go.results;rw [Array.mapM_eq_mapM_toList];have he:∀x,(match x with|ResultVar.tmp t=>pure (tm.getD t undef)|ResultVar.cell a t=>do loadVar t (←asAddr (tm.getD a undef)):Sem Value)=gR tm x:=fun x=>by cases x<;>rfl
   congr
  rw [e,hx];simp [Gg,hv1,Result.andThen]
 unfold Kv at hs;split at hs
 ·rename_i p t hr;split at hs
  ·rename_i hag;split at hs
   ·rename_i s off hp;split at hs
    ·rename_i cs0 ro hb;injection hs with hs;subst hs;obtain ⟨_,_,vs,T,g3,g4,g5,_⟩:=h.mem s _ hb;obtain ⟨u0,h1,h2⟩:=h.tmps.get p _ hp;rw [Af] at h1;simp only [Am] at h2;subst h2;have hle:off+Ah P t≤cs0.length:=by
      rw [hr] at hsv;simp only [H7,Aw8,hp] at hsv;unfold Kb at hsv;by_cases hle:off+Ah P t≤cs0.length
      ·exact hle
      ·simp only [hb,hag,if_true,if_neg hle] at hsv;split at hsv
       ·rename_i hx _;split at hx
        ·rename_i hl;split at hl<;>cases hl
        ·cases hx
       ·cases hsv
     have hlen:=g5.length;refine ⟨((vs.toList.drop off).take (Ah P t)).toArray,e _ hr _ ?_,?_⟩
     ·have:=H2 (P:=P) w (a:=⟨β s,off,none⟩) (us:=(vs.toList.drop off).take (Ah P t)) hag (by simp at hlen ⊢;omega) fun j u hu=>by
       rw [A8] at hu;split at hu
       ·rw [A9,Af] at hu;rw [add_lit,cell_of_row w (β s) (off+j) vs T (0,0) g3];exact hu
       ·cases hu
      simp [gR,A6,h1,asAddr,this]
     ·refine A4.mk (by simp [hlen]) fun j y u hy hu=> ?_;rw [A8] at hy;split at hy
      ·rename_i hj;have hu':((vs.toList.drop off).take (Ah P t))[j]? =some u:=by simpa using hu
       rw [A8,if_pos hj] at hu';rw [A9] at hy hu';obtain ⟨u',hu2,hr'⟩:=g5.get _ y hy;rw [hu'] at hu2;injection hu2 with hu2;subst hu2;exact hr'
      ·cases hy
    ·cases hs
   ·cases hs
  ·cases hs
 ·rename_i t hr;split at hs
  ·rename_i cs0 hp;injection hs with hs;subst hs;obtain ⟨u0,h1,h2⟩:=h.tmps.get t _ hp;rw [Af] at h1;simp only [Am] at h2;obtain ⟨vs,rfl,_,h3⟩:=h2;exact ⟨vs,e _ hr _ (by simp [gR,A6,h1]),h3⟩
  ·cases hs
 ·cases hs
theorem Ub (hC:Contract P sig fn) {f:Nat} (hmu:O2 (sig f)=none) {func:Func} {H:Hints} {t:T} {args rs:List PV} (hf:P.funcs[f]? =some func) (hx:yv P sig f func H=some t) (hev:t.ev fn N args=some (.ret rs)) (hl:args.length=func.params.size+func.nfree) {w:World} {O:Nat→Option Nat} {cargs:Array Value} (hg:Given w O func.params.size args cargs) (hfa:∀e,Tg (sig f)=some e→∃xs b,args[0]? =some (.l (Ah P e) xs)∧cargs[0]? =some (.slice b xs.length xs.length)):
  Calls P f cargs w fun e w'=>∃v,e= .returned v∧An3 P (sig f) w O rs v w':=by
 unfold yv at hx;split at hx
 ·rename_i c hb;split at hx
  ·rename_i ht;rw [hmu] at hx;simp only [Pd,Ab,false_and,if_false] at hx;refine calls_of_wp hf hb ?_;refine K6 hC c 0 0 (J9 P none (Tg (sig f)) func) _ t args (.ret rs) _ w _ hx hev (by rw [hl];rfl) (Av6 hg hl ht hfa) ?_;intro x σ' T' η' ζ a' w' h1 h2 h3 h4 h5 h6;have main:∀svs,H7 P σ' func.results.toList=some svs→(match rkOf (sig f) with
     | .own e=>Mc P σ' e svs
     | .full nl m=>match Kv P σ' func.results.toList with
       |some cs=>if Xb nl m cs then (Ul σ'.m svs).map fun r=> .ret r.1 else none
       |none=>none
     | .plain=>(Ul σ'.m svs).map fun r=> .ret r.1)=some T'→∃v,(Go.results func a'.tmps).run P w'= .ok v w'∧An3 P (sig f) w O rs v w':=by
    intro svs hs hT;obtain ⟨β,hv,O',rel⟩:=h5;obtain ⟨us,u1,u2⟩:=M6 rel hs;refine ⟨_,u2,rel.bel.below rfl,?_⟩;have plainly:((Ul σ'.m svs).map fun r=>T.ret r.1)=some T'→∃O'',(∀c,c<w.heap.size→O'' c=O c)∧(∀c,w'.heap.size≤c→O'' c=none)∧I4 (By w' O'') rs (if h:us.length=1 then us[0] else .tuple us.toArray):=by
     intro hT;obtain ⟨⟨es,ss⟩,he,rfl⟩:=Av.1 hT;obtain ⟨O'',hrel,hM,hop,_⟩:=rel.frz ss (n:=0);obtain ⟨ps,q1,q2,q3⟩:=K5 rel hM he u1 (fun s hs=>hop s (by simpa using hs));simp only [T.ev,Av] at h2;obtain ⟨vs,hvs,hret⟩:=h2;injection hret with hret;subst hret;rw [q1] at hvs;injection hvs with hvs;subst hvs;refine ⟨O'',fun c hc=>hrel.ext c hc (by simp [Fr.x]),hrel.out,?_⟩;show I4 (By w' O'') ps _
     match ps,us,q2,q3 with
     |[p],[u],_,q3=>exact q3 0 p u rfl rfl
     |[],[],_,_=>exact ⟨#[],by simp,rfl,fun j p u hp=>by simp at hp⟩
     |p::p'::ps,u::u'::us,q2,q3=>
      have:¬(u::u'::us).length=1:=by simp
      rw [dif_neg this];exact ⟨_,rfl,by simpa using q2.symm,fun j p v hp hv=>q3 j p v hp (by simpa using hv)⟩
     |[],_::_,q2,_=>simp at q2
     |_::_,[],q2,_=>simp at q2
     |[_],_::_::_,q2,_=>simp at q2
     |_::_::_,[_],q2,_=>simp at q2
    cases hsig:rkOf (sig f) with
    |plain=>
     rw [hsig] at hT;exact plainly hT
    |full nl m=>
     rw [hsig] at hT;simp only at hT;split at hT
     ·rename_i cs hcs;split at hT
      ·rename_i hmask;obtain ⟨O'',g1,g2,g3⟩:=plainly hT;refine ⟨O'',g1,g2,g3,?_⟩;have hagg:∃vs:Array Value,(Go.results func a'.tmps).run P w'= .ok (.agg vs) w'∧A4 ⟨η',By w' O',β,hv,σ'.m⟩ cs vs.toList:=U5 rel hs hcs;obtain ⟨vs,hrun,hcells⟩:=hagg;rw [u2] at hrun;injection hrun with hrun _;rw [hrun];intro j hj;simp only [Xb,Ax,decide_eq_true_eq,Cy,Fy,An,B9] at hmask;have hjl:j<cs.length:=by
        rcases Nat.lt_or_ge j cs.length with h|h
        ·exact h
        ·have:=Nat.testBit_lt_two_pow (D7 hmask.1 (Nat.pow_le_pow_right (by omega) h));rw [this] at hj;cases hj
       have hcj:cs[j]? =some cs[j]:=Az hjl;obtain ⟨u,hu,hru⟩:=hcells.get j _ hcj;rw [Af] at hu;have hnr:=(hmask.2 j hjl).resolve_left (by rw [hj];simp);have hgd:cs.getD j .und=cs[j]:=by simp [Bz,hcj]
       rw [hgd] at hnr;generalize cs[j]=x at hru hnr;cases x with
       |nil sz=>
        simp only [Am] at hru;exact ⟨vs,none,0,rfl,by rw [hu,hru],fun _=>⟨rfl,rfl⟩⟩
       |lit sz y=>
        simp only [Am] at hru;obtain ⟨xs,b,_,h5,_⟩:=hru;refine ⟨vs,b,xs.length,rfl,by rw [hu,h5],fun hn=> ?_⟩;rw [hn] at hnr;simp [SV.noRoom] at hnr
       |_=>simp [SV.noRoom] at hnr
      ·cases hT
     ·cases hT
    |own e=>
     rw [hsig] at hT;simp only at hT;refine ⟨O',fun c hc=>rel.ext c hc (by simp [Fr.x]),rel.out,?_⟩;unfold Mc at hT;split at hT
     ·rename_i s;split at hT
      ·rename_i e' sz x lk hb';split at hT
       ·rename_i hcond;obtain ⟨rfl,rfl⟩:=hcond;injection hT with hT;subst hT;obtain ⟨q0,xs,cs,q1,q2,q3,q4,_⟩:=rel.mem s _ hb';have q1':x.ev η'=some (.l (Ah P e') xs):=q1;simp only [T.ev,E.evs,q1',Aw,As,Ak,Out.ret.injEq] at h2;simp only [A4,Am] at u1;obtain ⟨v,r,rfl,hv1,rfl⟩:=u1;refine ⟨q0,xs,cs,h2.symm,?_,q3,fun g hg'=> ?_⟩
        ·show Own w' (xn w.heap.size) e' (Ah P e') v xs.length cs;rw [hv1];refine q2.mono fun g hg=> ?_;rcases hg with hg|hg
         ·exact hg
         ·simp [Fr.x] at hg
        ·have hg2:Bp v=some g:=hg';rw [hv1] at hg2;obtain ⟨_,lim,h7,_,h8⟩:=q4 g hg2;rw [h7,h8 rfl]
       ·cases hT
      ·cases hT
     ·rename_i sz;split at hT
      ·rename_i hcond;obtain ⟨rfl,h0⟩:=hcond;injection hT with hT;subst hT;simp only [T.ev,E.evs,E.ev,Aw,As,Ak,Out.ret.injEq] at h2;simp only [A4,Am] at u1;obtain ⟨v,r,rfl,hv1,rfl⟩:=u1;refine ⟨h0,[],[],h2.symm,?_,fun i x hx=>by simp at hx,fun g hg'=> ?_⟩
       ·show Own w' (xn w.heap.size) e (Ah P e) v 0 [];rw [hv1];exact ⟨by simp, .inl ⟨none,rfl,rfl⟩⟩
       ·have hg2:Bp v=some g:=hg';rw [hv1] at hg2;simp [Bp] at hg2
      ·cases hT
     ·rename_i sz x;split at hT
      ·rename_i hcond;obtain ⟨rfl,h0⟩:=hcond;injection hT with hT;subst hT;simp only [A4,Am] at u1;obtain ⟨v,r,rfl,hv1,rfl⟩:=u1;obtain ⟨xs,b,hxe,hvb,_⟩:=hv1;have hxe':x.ev η'=some (.l (Ah P e) xs):=hxe;simp only [T.ev,W.ev,Cn5,E.ev,E.evs,hxe',Fq,X.bin,Ef,Aw,if_true] at h2;have hx0:xs=[]:=by
        by_cases hx0:xs=[]
        ·exact hx0
        ·have hl:((xs.length:Int)==0)=false:=by have:=Bf.2 hx0;simp;omega
         rw [hl] at h2;simp [PV.scal] at h2
       subst hx0;simp only [Bd] at h2;have hrs:[PV.l (Ah P e) []]=rs:=by simpa using h2
       refine ⟨h0,[],[],hrs.symm,?_,fun i x hx=>by simp at hx,fun g hg'=> ?_⟩
       ·show Own w' (xn w.heap.size) e (Ah P e) v 0 [];rw [hvb];exact ⟨by simp, .inl ⟨b,rfl,rfl⟩⟩
       ·have hg2:Bp v=some g:=hg';rw [hvb] at hg2;cases b<;>simp [Bp] at hg2
      ·cases hT
     ·cases hT
   unfold Cb1 at h1;simp only [hmu] at h1;have fin:∀svs,H7 P σ' func.results.toList=some svs→(match rkOf (sig f) with
     | .own e=>Mc P σ' e svs
     | .full nl m=>match Kv P σ' func.results.toList with
       |some cs=>if Xb nl m cs then (Ul σ'.m svs).map fun r=> .ret r.1 else none
       |none=>none
     | .plain=>(Ul σ'.m svs).map fun r=> .ret r.1)=some T'→a'.defers=[]∧∃v,(Go.results func a'.tmps).run P w'= .ok v w'∧∃v',Ending.returned v= .returned v'∧An3 P (sig f) w O rs v' w':=by
    intro svs hs hT;obtain ⟨v,k1,k2⟩:=main svs hs hT;exact ⟨h6,v,k1,v,rfl,k2⟩
   cases x with
   |exit b=>simp at h1
   |normal=>
    simp only at h1;split at h1
    ·rename_i svs hs;exact fin svs hs h1
    ·cases h1
   |ret=>
    simp only at h1;split at h1
    ·rename_i svs hs;exact fin svs hs h1
    ·cases h1
  ·cases hx
 ·cases hx
theorem yp (hC:Contract P sig fn) {f e:Nat} {r:Bool} (hmu:O2 (sig f)=some (e,r)) {func:Func} {H:Hints} {t:T} {args rs:List PV} (hf:P.funcs[f]? =some func) (hx:yv P sig f func H=some t) (hev:t.ev fn N args=some (.ret rs)) (hl:args.length=func.params.size+func.nfree) {w:World} {O:Nat→Option Nat} {cargs:Array Value} {v0:Value} {xs:List PV} {us:List Value} (hg:GivenM P e w O func.params.size args cargs v0 xs us):
  Calls P f cargs w fun en w'=>∃v,en= .returned v∧An2 P e r v0 w O rs v w':=by
 unfold yv at hx;split at hx
 ·rename_i c hb;split at hx
  ·rename_i ht;rw [hmu,o6 hmu] at hx;have hpos:=hg.pos;have hnp:¬((some (e,r):Option (Nat×Bool)).isSome=true∧func.params.size=0):=fun h=>by omega
   rw [if_neg hnp] at hx;refine calls_of_wp hf hb ?_;refine K6 hC c 0 0 (J9 P (some (e,r)) none func) _ t args (.ret rs) _ w _ hx hev (by rw [hl];rfl) (fw hg hl ht) ?_;intro x σ' T' η' ζ a' w' h1 h2 h3 h4 h5 h6;have main:∀svs,H7 P σ' func.results.toList=some svs→Xh P σ' e r svs=some T'→∃v,(Go.results func a'.tmps).run P w'= .ok v w'∧An2 P e r v0 w O rs v w':=by
    intro svs hs hT;obtain ⟨β,hv,O',rel⟩:=h5;obtain ⟨us1,u1,u2⟩:=M6 rel hs;refine ⟨_,u2,rel.bel,O',fun c hc hx=>rel.ext c hc hx,rel.out,?_⟩;unfold Xh at hT;split at hT
    ·rename_i s hsel;split at hT
     ·rename_i e' sz x lk hb';split at hT
      ·rename_i hcond;obtain ⟨rfl,rfl⟩:=hcond;injection hT with hT;subst hT;obtain ⟨q0,ys,cs,q1,q2,q3,q4,_⟩:=rel.mem s _ hb';have q1':x.ev η'=some (.l (Ah P e') ys):=q1;simp only [T.ev,E.evs,q1',Aw,As,Ak,Out.ret.injEq] at h2;refine ⟨ys,cs,h2.symm,q3,fun hr=> ?_,fun hr=> ?_⟩
       ·subst hr;simp only [if_true] at hsel;split at hsel
        ·rename_i s';injection hsel with hsel;subst hsel;simp only [A4,Am] at u1;obtain ⟨v,r1,rfl,hv1,rfl⟩:=u1;refine ⟨?_,fun g hg'=> ?_⟩
         ·show Own w' _ e' (Ah P e') v ys.length cs;rw [hv1];exact q2
         ·have hg2:Bp v=some g:=hg';rw [hv1] at hg2;obtain ⟨_,lim,h7,_,h8⟩:=q4 g hg2;rw [h7,h8 rfl]
        ·cases hsel
       ·subst hr;simp only [Ab,if_false] at hsel;split at hsel
        ·rename_i s' ht0;split at hsel
         ·rename_i hs0;injection hsel with hsel;subst hsel;subst hs0;have hvs:hv S0=v0:=by have g1:=rel.t0 v0 rfl ht0;obtain ⟨v,g2,g3⟩:=rel.tmps.get 0 _ ht0;rw [Af,g1] at g2;injection g2 with g2;simp only [Am] at g3;rw [←g3,g2]
          simp only [A4] at u1;subst u1;refine ⟨rfl,?_,fun g hg'=> ?_⟩
          ·have:=q2.mono (B':=fun _=>True) fun _ _=>trivial;show Own w' _ e' (Ah P e') v0 ys.length cs;rw [←hvs];exact this
          ·have hg2:Bp (hv S0)=some g:=by rw [hvs];exact hg'
           obtain ⟨_,lim,h7,_,h8⟩:=q4 g hg2;rw [h7,h8 rfl]
         ·cases hsel
        ·cases hsel
      ·cases hT
     ·cases hT
    ·cases hT
   unfold Cb1 at h1;simp only [hmu] at h1;have fin:∀svs,H7 P σ' func.results.toList=some svs→Xh P σ' e r svs=some T'→a'.defers=[]∧∃v,(Go.results func a'.tmps).run P w'= .ok v w'∧∃v',Ending.returned v= .returned v'∧An2 P e r v0 w O rs v' w':=by intro svs hs hT;obtain ⟨v,k1,k2⟩:=main svs hs hT;exact ⟨h6,v,k1,v,rfl,k2⟩
   cases x with
   |exit b=>simp at h1
   |normal=>
    simp only at h1;split at h1
    ·rename_i svs hs;exact fin svs hs h1
    ·cases h1
   |ret=>
    simp only at h1;split at h1
    ·rename_i svs hs;exact fin svs hs h1
    ·cases h1
  ·cases hx
 ·cases hx
def dk (sig:Nat→Option Nat) (f:Nat) (func:Func):Nat:=func.params.size+if (O2 (sig f)).isSome||(Tg (sig f)).isSome then TAG else 0
def Tab (P:Program) (sig:Nat→Option Nat) (tab:Nat→Option FT):Prop:=
 (∀ f ft, tab f = some ft → ∃ func H, P.funcs[f]? = some func ∧ (func.name == "runtime.NumGoroutine") = false ∧ dk sig f func = ft.np ∧ func.params.size < TAG ∧ func.nfree = ft.nf ∧ ∃ t, yv P sig f func H = some t ∧ t.slim = ft.t) ∧ Ew6 P sig
theorem Mf {f:Nat} {func:Func} {H:Hints} {t:T} (hx:yv P sig f func H=some t):func.body.isSome=true:=by
 unfold yv at hx;split at hx
 ·rename_i h;rw [h];rfl
 ·cases hx
theorem gj {tab:Nat→Option FT} {ext:Fns→Fns} (hT:Tab P sig tab) (hE:∀fn,Contract P sig fn→Contract P sig (ext fn)):∀k,Contract P sig (M2 tab ext k)
 |0=>⟨fun f n vs rs h=>by simp [M2] at h,hT.2⟩
 |k+1=>by
  refine ⟨fun f n vs rs h=> ?_,hT.2⟩
  ·
   have ih:=gj hT hE k;simp only [M2] at h;split at h
   ·rename_i ft hft;split at h
    ·rename_i hc;obtain ⟨o,ho,h⟩:=Aj.1 h;split at h
     ·rename_i vs';injection h with h;subst h;obtain ⟨func,H,hf,hn,hp,hlt,hnf,t0,hx,hs⟩:=hT.1 f ft hft;rw [←hs,Ft] at ho;obtain ⟨hc1,hc2⟩:=hc;unfold dk at hp;refine ⟨fun hn1 w O args hg=> ?_,fun hn1=> ?_⟩
      ·have hno:((O2 (sig f)).isSome||(Tg (sig f)).isSome)=false:=by
        cases hb:((O2 (sig f)).isSome||(Tg (sig f)).isSome) with
        |false=>rfl
        |true=>
         rw [hb] at hp;simp only [if_true] at hp;omega
       rw [hno] at hp;simp only [Ab,if_false,Dx] at hp;simp only [dr,Option.isSome_eq_false_iff,B0] at hno;obtain ⟨hmu,hfa⟩:=hno;refine Gx.of_calls hf hn (Mf hx) ?_;refine Ub ih hmu hf hx ho ?_ (by rw [hp,hc1];exact hg) (fun e he=>by rw [hfa] at he;cases he);rw [hc2,←hp,Dy hlt,hnf]
      ·have hyes:((O2 (sig f)).isSome||(Tg (sig f)).isSome)=true:=by
        cases hb:((O2 (sig f)).isSome||(Tg (sig f)).isSome) with
        |true=>rfl
        |false=>
         rw [hb] at hp;simp only [Ab,if_false] at hp;omega
       rw [hyes] at hp;simp only [if_true] at hp;have e1:n - TAG=func.params.size:=by omega
       have e2:(func.params.size+TAG) % TAG=func.params.size:=by rw [Nat.add_mod_right];exact Dy hlt
       cases hmu:O2 (sig f) with
       |some er=>
        obtain ⟨e,r⟩:=er;refine .inl ⟨e,r,rfl,fun w O args v0 xs us hg=> ?_⟩;refine Gx.of_calls hf hn (Mf hx) ?_;rw [e1] at hg;refine yp ih hmu hf hx ho ?_ hg;rw [hc2,←hp,e2,hnf]
       |none=>
        rw [hmu] at hyes;simp only [Pd,Bool.false_or] at hyes;obtain ⟨e,hfa⟩:=B6.1 hyes;refine .inr ⟨e,hfa,fun w O args b xs hg h0 h5=> ?_⟩;refine Gx.of_calls hf hn (Mf hx) ?_;rw [e1] at hg;refine Ub ih hmu hf hx ho ?_ hg (fun e' he=> ?_)
        ·rw [hc2,←hp,e2,hnf]
        ·rw [hfa] at he;injection he with he;subst he;exact ⟨xs,b,h0,h5⟩
     ·cases h
    ·cases h
   ·exact (hE _ ih).says f n vs rs h
end
end Go.X
/- The functions of a table without fuel. -/
namespace Go.X
open Go
def Fle (fn fn':Fns):Prop:=∀f n vs rs,fn f n vs=some rs→fn' f n vs=some rs
theorem Fle.refl (fn:Fns):Fle fn fn:=fun _ _ _ _ h=>h
theorem Fle.trans {a b c:Fns} (h:Fle a b) (h':Fle b c):Fle a c:=fun f n vs rs e=>h' f n vs rs (h f n vs rs e)
theorem Lk {flat:Bool} {m:Nat} {η η':List PV} {r r':Option (List PV)} (hr:∀rs,r=some rs→r'=some rs) (h:results flat m η r=some η'):results flat m η r'=some η':=by unfold results at h ⊢;obtain ⟨rs,h1,h2⟩:=Aj.1 h;rw [hr rs h1];exact h2
theorem O8 {η η':List PV} {m:Nat} {g:Option E} {r r':Option (List PV)} (hr:∀x,r=some x→r'=some x) (h:D3 η m g r=some η'):D3 η m g r'=some η':=by
 unfold D3 at h ⊢;split at h
 ·exact hr _ h
 ·obtain ⟨v,h1,h2⟩:=Aj.1 h;rw [h1];simp only [Aw];split at h2
  ·exact hr _ h2
  ·exact h2
  ·cases h2
theorem W.ev_le {fn fn':Fns} (hf:Fle fn fn') {η η':List PV}:∀{x:W},x.ev fn η=some η'→x.ev fn' η=some η'
 | .chk x,h=>h
 | .call g flat f ar m,h=>by simp only [W.ev] at h ⊢;refine O8 (fun x hx=> ?_) h;obtain ⟨vs,h1,h2⟩:=Aj.1 hx;rw [h1];exact Lk (fun rs hr=>hf _ _ _ _ hr) h2
 | .clo g flat c ar m,h=>by
   simp only [W.ev] at h ⊢;refine O8 (fun x hx=> ?_) h;obtain ⟨q,h0,hx⟩:=Aj.1 hx;obtain ⟨vs,h1,h2⟩:=Aj.1 hx;rw [h0];simp only [Aw];rw [h1];simp only [Aw];split at h2
   ·exact Lk (fun rs hr=>hf _ _ _ _ hr) h2
   ·cases h2
 | .mcall f ar,h=>by simp only [W.ev] at h ⊢;obtain ⟨vs,h1,h2⟩:=Aj.1 h;rw [h1];exact Lk (fun rs hr=>hf _ _ _ _ hr) h2
theorem M4 {s s':List PV→Option Out} (hs:∀vs o,s vs=some o→s' vs=some o) {id:Nat}:∀{n n':Nat} {st:List PV} {o:Out},n≤n'→E9 s id n st=some o→E9 s' id n' st=some o
 |0,_,_,_,_,h=>by simp [E9] at h
 |n+1,0,_,_,hn,_=>by omega
 |n+1,n'+1,st,o,hn,h=>by
  simp only [E9] at h ⊢;obtain ⟨o1,h1,h2⟩:=Aj.1 h;rw [hs _ _ h1];simp only [Aw];split at h2
  ·split at h2
   ·rename_i hj;rw [if_pos hj];exact M4 hs (by omega) h2
   ·rename_i hj;rw [if_neg hj];exact h2
  ·exact h2
theorem T.ev_le {fn fn':Fns} (hf:Fle fn fn') {N N':Nat} (hN:N≤N'):∀{t:T} {η:List PV} {o:Out},t.ev fn N η=some o→t.ev fn' N' η=some o
 | .w x k,η,o,h=>by simp only [T.ev] at h ⊢;obtain ⟨η',h1,h2⟩:=Aj.1 h;rw [W.ev_le hf h1];exact T.ev_le hf hN h2
 | .ite c t e,η,o,h=>by
   simp only [T.ev] at h ⊢;obtain ⟨r,h1,h2⟩:=Aj.1 h;rw [h1];simp only [Aw];split at h2
   ·exact T.ev_le hf hN h2
   ·exact T.ev_le hf hN h2
   ·cases h2
 | .ret es,η,o,h=>h
 | .yld id es,η,o,h=>h
 | .blk id body k,η,o,h=>by
   simp only [T.ev] at h ⊢;obtain ⟨o1,h1,h2⟩:=Aj.1 h;rw [T.ev_le hf hN h1];simp only [Aw];split at h2
   ·split at h2
    ·rename_i hj;rw [if_pos hj];exact T.ev_le hf hN h2
    ·rename_i hj;rw [if_neg hj];exact h2
   ·exact h2
 | .loop id init body,η,o,h=>by simp only [T.ev] at h ⊢;obtain ⟨st,h1,h2⟩:=Aj.1 h;rw [h1];exact M4 (fun vs o ho=>T.ev_le hf hN ho) hN h2
def Hb (ext:Fns→Fns):Prop:=∀fn fn',Fle fn fn'→Fle (ext fn) (ext fn')
section
variable {tab:Nat→Option FT} {ext:Fns→Fns}
theorem Sv (hE:Hb ext):∀k,Fle (M2 tab ext k) (M2 tab ext (k+1))
 |0=>fun f n vs rs h=>by simp [M2] at h
 |k+1=>fun f n vs rs h=>by
  have ih:=Sv hE k;rw [M2] at h ⊢;cases ht:tab f with
  |none=>simp only [ht] at h ⊢;exact hE _ _ ih _ _ _ _ h
  |some t=>
   simp only [ht] at h ⊢;split at h
   ·rename_i hc;rw [if_pos hc];obtain ⟨o,h1,h2⟩:=Aj.1 h;rw [T.ev_le ih (Nat.le_succ k) h1];exact h2
   ·cases h
theorem Hr (hE:Hb ext) {k k':Nat} (h:k≤k'):Fle (M2 tab ext k) (M2 tab ext k'):=by
 induction h with
 |refl=>exact Fle.refl _
 |step _ ih=>exact ih.trans (Sv hE _)
open Classical in
noncomputable def sem (tab:Nat→Option FT) (ext:Fns→Fns):Fns:=fun f n args=>
 if h:∃rs k,M2 tab ext k f n args=some rs then some h.choose else none
theorem M0 (hE:Hb ext) {f n:Nat} {args rs:List PV}:sem tab ext f n args=some rs↔∃k,M2 tab ext k f n args=some rs:=by
 unfold sem;constructor
 ·intro h;split at h
  ·rename_i hex;injection h with h;subst h;exact hex.choose_spec
  ·cases h
 ·rintro ⟨k,hk⟩;have hex:∃rs k,M2 tab ext k f n args=some rs:=⟨rs,k,hk⟩;rw [dif_pos hex];obtain ⟨k',hk'⟩:=hex.choose_spec;have h1:=Hr hE (Eq5 k k') _ _ _ _ hk;have h2:=Hr hE (yg k k') _ _ _ _ hk';rw [h1] at h2;exact h2.symm
theorem W.ev_cont (hE:Hb ext) {η η':List PV}:∀{x:W},x.ev (sem tab ext) η=some η'→∃k,x.ev (M2 tab ext k) η=some η':=by
 have res:∀{flat:Bool} {m f n:Nat} {vs:List PV},results flat m η (sem tab ext f n vs)=some η'→∃k,results flat m η (M2 tab ext k f n vs)=some η':=by intro flat m f n vs h;unfold results at h;obtain ⟨rs,h1,h2⟩:=Aj.1 h;obtain ⟨k,hk⟩:=(M0 hE).1 h1;exact ⟨k,by unfold results;rw [hk];exact h2⟩
 intro x h;cases x with
 |chk x=>exact ⟨0,h⟩
 |call g flat f ar m=>
  simp only [W.ev] at h ⊢;unfold D3 at h ⊢;split at h
  ·obtain ⟨vs,h1,h2⟩:=Aj.1 h;obtain ⟨k,hk⟩:=res h2;exact ⟨k,by rw [h1];exact hk⟩
  ·obtain ⟨v,h0,h⟩:=Aj.1 h;split at h
   ·obtain ⟨vs,h1,h2⟩:=Aj.1 h;obtain ⟨k,hk⟩:=res h2;exact ⟨k,by rw [h0];simp only [Aw];rw [h1];exact hk⟩
   ·exact ⟨0,by rw [h0];exact h⟩
   ·cases h
 |clo g flat c ar m=>
  have body:((c.ev η).bind fun q=>(E.evs η ar).bind fun vs=>match q with| .f f caps=>results flat m η (sem tab ext f vs.length (vs++caps))|_=>none)=some η'→∃k,((c.ev η).bind fun q=>(E.evs η ar).bind fun vs=>match q with| .f f caps=>results flat m η (M2 tab ext k f vs.length (vs++caps))|_=>none)=some η':=by
   intro hh;obtain ⟨q,h0,hh⟩:=Aj.1 hh;obtain ⟨vs,h1,hh⟩:=Aj.1 hh;cases q with
   |f f caps=>
    obtain ⟨k,hk⟩:=res hh;exact ⟨k,by rw [h0];simp only [Aw];rw [h1];exact hk⟩
   |_=>simp at hh
  simp only [W.ev] at h ⊢;unfold D3 at h ⊢;split at h
  ·exact body h
  ·obtain ⟨v,h0,h⟩:=Aj.1 h;split at h
   ·obtain ⟨k,hk⟩:=body h;exact ⟨k,by rw [h0];exact hk⟩
   ·exact ⟨0,by rw [h0];exact h⟩
   ·cases h
 |mcall f ar=>
  simp only [W.ev] at h ⊢;obtain ⟨vs,h1,h2⟩:=Aj.1 h;obtain ⟨k,hk⟩:=res h2;exact ⟨k,by rw [h1];exact hk⟩
theorem T.ev_cont (hE:Hb ext) {N:Nat}:∀{t:T} {η:List PV} {o:Out},t.ev (sem tab ext) N η=some o→∃k,t.ev (M2 tab ext k) N η=some o
 | .w x t,η,o,h=>by simp only [T.ev] at h ⊢;obtain ⟨η',h1,h2⟩:=Aj.1 h;obtain ⟨k1,g1⟩:=W.ev_cont hE h1;obtain ⟨k2,g2⟩:=T.ev_cont hE h2;refine ⟨max k1 k2,?_⟩;rw [W.ev_le (Hr hE (Eq5 k1 k2)) g1];exact T.ev_le (Hr hE (yg k1 k2)) (Ag _) g2
 | .ite c t e,η,o,h=>by
   simp only [T.ev] at h ⊢;obtain ⟨r,h1,h2⟩:=Aj.1 h;split at h2
   ·obtain ⟨k,g⟩:=T.ev_cont hE h2;exact ⟨k,by rw [h1];exact g⟩
   ·obtain ⟨k,g⟩:=T.ev_cont hE h2;exact ⟨k,by rw [h1];exact g⟩
   ·cases h2
 | .ret es,η,o,h=>⟨0,h⟩
 | .yld id es,η,o,h=>⟨0,h⟩
 | .blk id body t,η,o,h=>by
   simp only [T.ev] at h ⊢;obtain ⟨o1,h1,h2⟩:=Aj.1 h;obtain ⟨k1,g1⟩:=T.ev_cont hE h1;split at h2
   ·split at h2
    ·rename_i hj;obtain ⟨k2,g2⟩:=T.ev_cont hE h2;refine ⟨max k1 k2,?_⟩;rw [T.ev_le (Hr hE (Eq5 k1 k2)) (Ag _) g1];simp only [Aw];rw [if_pos hj];exact T.ev_le (Hr hE (yg k1 k2)) (Ag _) g2
    ·rename_i hj;exact ⟨k1,by rw [g1];simp only [Aw];rw [if_neg hj];exact h2⟩
   ·exact ⟨k1,by rw [g1];exact h2⟩
 | .loop id init body,η,o,h=>by
   simp only [T.ev] at h ⊢;obtain ⟨st,h1,h2⟩:=Aj.1 h;have key:∀(n:Nat) (st:List PV),E9 (fun vs=>body.ev (sem tab ext) N (η++vs)) id n st=some o→∃k,E9 (fun vs=>body.ev (M2 tab ext k) N (η++vs)) id n st=some o:=by
    intro n
    induction n with
    |zero=>intro st h;simp [E9] at h
    |succ n ih=>
     intro st h;simp only [E9] at h ⊢;obtain ⟨o1,h1,h2⟩:=Aj.1 h;obtain ⟨k1,g1⟩:=T.ev_cont hE h1;split at h2
     ·split at h2
      ·rename_i hj;obtain ⟨k2,g2⟩:=ih _ h2;refine ⟨max k1 k2,?_⟩;rw [T.ev_le (Hr hE (Eq5 k1 k2)) (Ag _) g1];simp only [Aw];rw [if_pos hj];exact M4 (fun vs o ho=>T.ev_le (Hr hE (yg k1 k2)) (Ag _) ho) (Ag _) g2
      ·rename_i hj;exact ⟨k1,by rw [g1];simp only [Aw];rw [if_neg hj];exact h2⟩
     ·exact ⟨k1,by rw [g1];exact h2⟩
   obtain ⟨k,g⟩:=key N st h2;exact ⟨k,by rw [h1];exact g⟩
theorem Cv1 (hE:Hb ext) {f n N:Nat} {ft:FT} {args rs:List PV} (ht:tab f=some ft) (hn:ft.np=n) (hl:args.length=ft.np % TAG+ft.nf) (h:ft.t.ev (sem tab ext) N args=some (.ret rs)):sem tab ext f n args=some rs:=by obtain ⟨k,hk⟩:=T.ev_cont hE h;refine (M0 hE).2 ⟨max k N+1,?_⟩;rw [M2];simp only [ht];rw [if_pos ⟨hn,hl⟩,T.ev_le (Hr hE (Eq5 k N)) (yg k N) hk];rfl
end
end Go.X
/- Functions without a body: what the model says of them. -/
namespace Go.X
open Go Go.RowKit
inductive XK where
 |countS|indexS|cmpS
 deriving DecidableEq
def XK.entry:XK→Array Value→Sem Value
 | .countS=>Extern.BytealgCount.count
 | .indexS=>Extern.BytealgIndexByte.indexByte
 | .cmpS=>Extern.BytealgCompare.compare
def Y8 (f:List UInt8→UInt8→Int):List PV→Option (List PV)
 |[.s x, .i .u8 c]=>some [.i .i64 (f x c.toNat.toUInt8)]
 |_=>none
def Aw7 (f:List UInt8→List UInt8→Int):List PV→Option (List PV)
 |[.s x, .s y]=>some [.i .i64 (f x y)]
 |_=>none
def XK.run:XK→List PV→Option (List PV)
 | .countS=>Y8 fun x c=>(Lib.countByte x c:Int)
 | .indexS=>Y8 Lib.indexByte
 | .cmpS=>Aw7 Lib.compareBytes
theorem I8 {f:List UInt8→UInt8→Int} {vs rs:List PV} (h:Y8 f vs=some rs):∃x c,vs=[.s x, .i .u8 c]∧rs=[.i .i64 (f x c.toNat.toUInt8)]:=by
 unfold Y8 at h;split at h
 ·rename_i x c;injection h with h;exact ⟨x,c,rfl,h.symm⟩
 ·cases h
theorem Oh {f:List UInt8→List UInt8→Int} {vs rs:List PV} (h:Aw7 f vs=some rs):∃x y,vs=[.s x, .s y]∧rs=[.i .i64 (f x y)]:=by
 unfold Aw7 at h;split at h
 ·rename_i x c;injection h with h;exact ⟨x,c,rfl,h.symm⟩
 ·cases h
def lkX:List (Nat×XK)→Nat→Option XK
 |[],_=>none
 |(k,t)::r,f=>if k=f then some t else lkX r f
def Tl (xs:List (Nat×XK)):Fns→Fns:=fun _ f n args=>match lkX xs f with
 |some k=>if n=args.length then k.run args else none
 |none=>none
theorem Pk (xs:List (Nat×XK)):Hb (Tl xs):=fun _ _ _ _ _ _ _ h=>h
def XOK (P : Program) (f : Nat) (k : XK) : Prop := ∃ func, P.funcs[f]? = some func ∧ (func.name == "runtime.NumGoroutine") = false ∧ func.body.isNone = true ∧ Extern.findNext func = none ∧ Extern.find func = some k.entry
def Ew4 (P:Program):List (Nat×XK)→Prop
 |[]=>True
 |p::r=>XOK P p.1 p.2∧Ew4 P r
theorem Ap6 {P:Program}:∀{xs:List (Nat×XK)} {f:Nat} {k:XK},Ew4 P xs→lkX xs f=some k→XOK P f k
 |[],_,_,_,h=>by simp [lkX] at h
 |(j,t)::r,f,k,hx,h=>by
  simp only [lkX] at h;split at h
  ·rename_i e;injection h with h;subst h;subst e;exact hx.1
  ·exact Ap6 hx.2 h
theorem Lq {w:World} {O:Nat→Option Nat} {n:Nat} {vs:List PV} {args:Array Value} (hg:Given w O n vs args) (hn:n=vs.length) {j:Nat} {p:PV} (hp:vs[j]? =some p):∃v,args[j]? =some v∧Rep (By w O) p v:=by have hj:=(Aq.1 hp).1;have hs:=hg.size;obtain ⟨v,hv⟩:∃v,args[j]? =some v:=⟨args[j]'(by omega),C9 (by omega)⟩;exact ⟨v,hv,hg.val j p v (by omega) hp hv⟩
theorem Pt {args:Array Value} {a b:Value} (hs:args.size=2) (ha:args[0]? =some a) (hb:args[1]? =some b):args= #[a,b]:=by
 obtain ⟨l⟩:=args
 match l,hs with
 |[x,y],_=>simp at ha hb;simp [ha,hb]
theorem X4 {sig:Nat→Option Nat}:∀{xs:List (Nat×XK)},(xs.all fun p=>(sig p.1).isNone)=true→∀f k,lkX xs f=some k→sig f=none
 |[],_,f,k,h=>by simp [lkX] at h
 |(j,t)::r,h,f,k,hk=>by
  simp only [List.all_cons,Ax,B0] at h;simp only [lkX] at hk;split at hk
  ·rename_i e;subst e;exact h.1
  ·exact X4 h.2 f k hk
theorem XK.run_len {k:XK} {vs rs:List PV} (h:k.run vs=some rs):vs.length=2:=by
 cases k with
 |countS=>obtain ⟨x,c,rfl,_⟩:=I8 (by simpa only [XK.run] using h);rfl
 |indexS=>obtain ⟨x,c,rfl,_⟩:=I8 (by simpa only [XK.run] using h);rfl
 |cmpS=>obtain ⟨x,c,rfl,_⟩:=Oh h;rfl
theorem Ah3 {P:Program} {sig:Nat→Option Nat} {xs:List (Nat×XK)} (hx:Ew4 P xs) (hsig:∀f k,lkX xs f=some k→sig f=none) (fn:Fns) (hC:Contract P sig fn):Contract P sig (Tl xs fn):=by
 refine ⟨fun f n vs rs h=> ?_,hC.bld⟩
 ·simp only [Tl] at h;split at h
  ·rename_i k hk;split at h
   ·rename_i hn;refine ⟨fun _ w O args hg=> ?_,fun hT=>by rw [hn,XK.run_len h] at hT;simp [TAG] at hT⟩;obtain ⟨func,h1,h2,h3,h4,h5⟩:=Ap6 hx hk;have hrun:=fun a=>run_callFunc_extern h1 h2 h3 h4 h5 a w;have fin:∀(z:Int) (a:Array Value),args=a→(k.entry a).run P w= .ok (.int .i64 z) w→Gx P f args w (An3 P (sig f) w O [.i .i64 z]):=by
     intro z a ha hr;subst ha;refine .inl ⟨.int .i64 z,w,?_,Blw.refl _ _,O,fun _ _=>rfl,hg.out,?_⟩
     ·rw [hrun,hr];rfl
     ·rw [hsig f k hk];exact Rep.i .i64 z
    cases k with
    |countS=>
     obtain ⟨x,c,rfl,rfl⟩:=I8 (by simpa only [XK.run] using h);obtain ⟨a,ha,ra⟩:=Lq hg hn (j:=0) rfl;obtain ⟨b,hb,rb⟩:=Lq hg hn (j:=1) rfl;have e:=Pt (by rw [hg.size];rfl) ha hb;obtain ⟨s,rfl,rfl⟩:=ra.str;have:=rb.int;subst this;exact fin _ _ e (Lib.run_countString s c w)
    |indexS=>
     obtain ⟨x,c,rfl,rfl⟩:=I8 (by simpa only [XK.run] using h);obtain ⟨a,ha,ra⟩:=Lq hg hn (j:=0) rfl;obtain ⟨b,hb,rb⟩:=Lq hg hn (j:=1) rfl;have e:=Pt (by rw [hg.size];rfl) ha hb;obtain ⟨s,rfl,rfl⟩:=ra.str;have:=rb.int;subst this;exact fin _ _ e (Lib.run_indexByteString s c w)
    |cmpS=>
     obtain ⟨x,y,rfl,rfl⟩:=Oh h;obtain ⟨a,ha,ra⟩:=Lq hg hn (j:=0) rfl;obtain ⟨b,hb,rb⟩:=Lq hg hn (j:=1) rfl;have e:=Pt (by rw [hg.size];rfl) ha hb;obtain ⟨s,rfl,rfl⟩:=ra.str;obtain ⟨t,rfl,rfl⟩:=rb.str;exact fin _ _ e (Lib.run_compareString s t w)
   ·cases h
  ·cases h
theorem U2 {tab:Nat→Option FT} {xs:List (Nat×XK)} {f:Nat} {k:XK} {args rs:List PV} (ht:tab f=none) (hk:lkX xs f=some k) (h:k.run args=some rs):sem tab (Tl xs) f args.length args=some rs:=by refine (M0 (Pk xs)).2 ⟨1,?_⟩;rw [M2];simp only [ht];simp only [Tl,hk,if_true];exact h
end Go.X
/- slices.SortFunc, by the library's contract: what is turned is the sorted list. -/
namespace Go.X
open Go Go.RowKit
def scl:PV→Bool
 | .b _| .i _ _| .s _=>true
 |_=>false
def Fb1 (agg:Bool) (sz:Nat):PV→Bool
 | .a cs=>agg && cs.length==sz && cs.all scl
 |p=> !agg && sz==1 && scl p
def Rx (fn:Fns) (g:Nat) (caps:List PV) (x y:PV):Int:=match fn g 2 (x::y::caps) with
 |some [.i .i64 n]=>n
 |_=>0
structure SortFit (fn:Fns) (g:Nat) (caps xs:List PV):Prop where
 ans:∀x∈xs,∀y∈xs,fn g 2 (x::y::caps)=some [.i .i64 (Rx fn g caps x y)]
 irr:∀x∈xs,¬Rx fn g caps x x<0
 tr:∀x∈xs,∀y∈xs,∀z∈xs,Rx fn g caps x y<0→Rx fn g caps y z<0→Rx fn g caps x z<0
 ntr:∀x∈xs,∀y∈xs,∀z∈xs,¬Rx fn g caps x y<0→¬Rx fn g caps y z<0→¬Rx fn g caps x z<0
 tot:∀x∈xs,∀y∈xs,¬Rx fn g caps x y<0→¬Rx fn g caps y x<0→x=y
def Fz3 (fn:Fns) (g:Nat) (caps:List PV) (x y:PV):Bool:= !decide (Rx fn g caps y x<0)
theorem Cg4 {fn fn':Fns} (hf:Fle fn fn') {g:Nat} {caps:List PV} {x y:PV} {n:Int} (h:fn g 2 (x::y::caps)=some [.i .i64 n]):Rx fn' g caps x y=n∧Rx fn g caps x y=n:=by unfold Rx;rw [h,hf _ _ _ _ h];exact ⟨rfl,rfl⟩
theorem SortFit.le {fn fn':Fns} (hf:Fle fn fn') {g:Nat} {caps xs:List PV} (h:SortFit fn g caps xs):SortFit fn' g caps xs∧∀x∈xs,∀y∈xs,Rx fn' g caps x y=Rx fn g caps x y:=by
 have e:∀x∈xs,∀y∈xs,Rx fn' g caps x y=Rx fn g caps x y:=fun x hx y hy=>(Cg4 hf (h.ans x hx y hy)).1;refine ⟨⟨fun x hx y hy=> ?_,fun x hx=> ?_,fun x hx y hy z hz=> ?_,fun x hx y hy z hz=> ?_,fun x hx y hy=> ?_⟩,e⟩
 ·rw [e x hx y hy];exact hf _ _ _ _ (h.ans x hx y hy)
 ·rw [e x hx x hx];exact h.irr x hx
 ·rw [e x hx y hy,e y hy z hz,e x hx z hz];exact h.tr x hx y hy z hz
 ·rw [e x hx y hy,e y hy z hz,e x hx z hz];exact h.ntr x hx y hy z hz
 ·rw [e x hx y hy,e y hy x hx];exact h.tot x hx y hy
structure SK where
 agg:Bool
 e:Nat
 sz:Nat
 gs:List Nat
open Classical in
noncomputable def SK.run (s:SK) (fn:Fns) (n:Nat):List PV→Option (List PV)
 |[.l sz xs, .f g caps]=>if n=TAG+2∧sz=s.sz∧g∈s.gs∧xs.length<4611686018427387904∧(∀x∈xs,Fb1 s.agg s.sz x=true)∧SortFit fn g caps xs then some [.l sz (xs.mergeSort (Fz3 fn g caps))] else none
 |_=>none
def Am8 (P:Program) (f sz:Nat) (agg:Bool):Prop:=
 (∀(p:Option Addr) (cap:Nat) (fv:Value) (w:World),Calls P f #[.slice p 0 cap,fv] w fun e w'=>e= .returned (.tuple #[])∧w'=w)∧
 match agg with
 |false=>sz=1∧∀{α:Type} [Inhabited α] (enc:α→Value) (_:Proofs.OneCell enc) (cf:α→α→Int) (_:Sort.SWO (Proofs.ltOf cf)) (g:Nat) (cb:Array Value) (blk off cap:Nat) (d:Array α) (w:World)
   (_:∀args w,(callFunc g args).run P w= .ok (.enter g args) w) (_:Proofs.CmpLays1 P g cb enc cf blk off d.size w) (_:Sort.Holds enc w blk off d) (_:blk<w.heap.size) (_:d.size<4611686018427387904) (_:∀x y,(Proofs.ltOf cf) x y=false→(Proofs.ltOf cf) y x=false→x=y),
   Calls P f #[.slice (some ⟨blk,off,none⟩) d.size cap, .func (.func g) #[] cb] w fun e w'=>
    e= .returned (.tuple #[])∧∃n os,w'=Proofs.sortWorld enc w blk off n (d.toList.mergeSort fun x y=> !(Proofs.ltOf cf) y x).toArray os
 |true=>∀{α:Type} [Inhabited α] (enc:α→List Value) (_:∀x,(enc x).length=sz) (_:∀x,∀v∈enc x,v.oneCell'=true) (cf:α→α→Int) (_:Sort.SWO (Proofs.ltOf cf)) (g:Nat) (cb:Array Value) (blk off cap:Nat) (d:Array α) (w:World)
   (_:∀args w,(callFunc g args).run P w= .ok (.enter g args) w) (_:Proofs.CmpLays P g cb enc sz cf blk off d.size w) (_:Sort.HoldsK enc sz w blk off d) (_:blk<w.heap.size) (_:d.size<4611686018427387904) (_:∀x y,(Proofs.ltOf cf) x y=false→(Proofs.ltOf cf) y x=false→x=y),
   Calls P f #[.slice (some ⟨blk,off,none⟩) d.size cap, .func (.func g) #[] cb] w fun e w'=>
    e= .returned (.tuple #[])∧∃n os,w'=Proofs.sortWorldK enc sz w blk off n (d.toList.mergeSort fun x y=> !(Proofs.ltOf cf) y x).toArray os
def xm (P : Program) (f : Nat) : Prop := ∃ fn, P.funcs[f]? = some fn ∧ (fn.name == "runtime.NumGoroutine") = false ∧ fn.body.isSome = true
structure SOK (P:Program) (sig:Nat→Option Nat) (f:Nat) (s:SK):Prop where
 sig:O2 (sig f)=some (s.e,false)
 size:Ah P s.e=s.sz
 says:Am8 P f s.sz s.agg
 body:xm P f
 gs:∀g∈s.gs,xm P g
end Go.X
/- slices.SortFunc: the library's contract keeps the executor's. -/
namespace Go.X
open Go Go.RowKit
section
variable {w:World} {O:Nat→Option Nat} {g m:Nat} {F:Array Value} {os:Array Obj}
end
theorem Blw.grow {w w':World} (h:Blw w.heap.size w w'):∃q os',w'=Sort.grow (w.drewN q) os':=by
 obtain ⟨h1,h2,h3,h4,h5,h6⟩:=h;refine ⟨w'.drawn - w.drawn,w'.heap.extract w.heap.size w'.heap.size,?_⟩;have hh:w'.heap=w.heap++w'.heap.extract w.heap.size w'.heap.size:=by
  apply Array.ext_getElem?;intro k;by_cases hk:k<w.heap.size
  ·rw [Cm hk,h6 k hk]
  ·rw [Array.getElem?_append_right (by omega),Array.getElem?_extract];by_cases hk2:k<w'.heap.size
   ·rw [if_pos (by omega)];congr 1;omega
   ·rw [if_neg (by omega),Array.getElem?_eq_none (by omega)]
 obtain ⟨a1,a2,a3,a4,a5⟩:=w';obtain ⟨b1,b2,b3,b4,b5⟩:=w;simp only at h1 h2 h3 h4 hh;subst h1;subst h2;subst h3;simp only [Sort.grow,World.drewN,World.mk.injEq];refine ⟨hh,trivial,by omega,trivial,trivial⟩
section
variable {P:Program} {sig:Nat→Option Nat} {fn:Fns}
end
end Go.X
/- slices.SortFunc, outside: what it says. -/
namespace Go.X
open Go Go.RowKit
section
variable {P:Program} {sig:Nat→Option Nat} {fn:Fns}
end
end Go.X
/- What comes in: the readings of a row's arguments as plain values. -/
namespace Go.X
open Go
inductive Sh where
 |b|i (k:IntKind)|s
 |l (e:Sh)
 |st (fs:List Sh)
 deriving Inhabited
mutual
def Sh.size:Sh→Nat
 | .st fs=>Sh.sizes fs
 |_=>1
def Sh.sizes:List Sh→Nat
 |[]=>0
 |f::fs=>f.size+Sh.sizes fs
end
def Sh.agg:Sh→Bool
 | .st _=>true
 |_=>false
mutual
def Sh.okC:Sh→List PV→Prop
 | .b,cs=>∃x,cs=[.b x]
 | .i k,cs=>∃n,cs=[.i k n]∧k.min≤n∧n≤k.max
 | .s,cs=>∃x,cs=[.s x]∧x.length≤maxLen
 | .l e,cs=>∃xs,cs=[.l e.size xs]∧xs.length≤maxLen∧∀x,x∈xs→if e.agg then∃ds,x= .a ds∧e.okC ds else x.scal=true∧e.okC [x]
 | .st fs,cs=>Sh.okCs fs cs
def Sh.okCs:List Sh→List PV→Prop
 |[],cs=>cs=[]
 |f::fs,cs=>∃a b,cs=a++b∧f.okC a∧Sh.okCs fs b
end
def Sh.ok (sh:Sh) (p:PV):Prop:=if sh.agg then∃ds,p= .a ds∧sh.okC ds else p.scal=true∧sh.okC [p]
mutual
theorem Sh.okC_len:∀(sh:Sh) (cs:List PV),sh.okC cs→cs.length=sh.size
 | .b,cs,h=>by simp only [Sh.okC] at h;obtain ⟨x,rfl⟩:=h;rfl
 | .i k,cs,h=>by simp only [Sh.okC] at h;obtain ⟨n,rfl,_⟩:=h;rfl
 | .s,cs,h=>by simp only [Sh.okC] at h;obtain ⟨x,rfl,_⟩:=h;rfl
 | .l e,cs,h=>by simp only [Sh.okC] at h;obtain ⟨x,rfl,_⟩:=h;rfl
 | .st fs,cs,h=>by simp only [Sh.okC] at h;simp only [Sh.size];exact Sh.okCs_len fs cs h
theorem Sh.okCs_len:∀(fs:List Sh) (cs:List PV),Sh.okCs fs cs→cs.length=Sh.sizes fs
 |[],cs,h=>by simp only [Sh.okCs] at h;subst h;rfl
 |f::fs,cs,h=>by simp only [Sh.okCs] at h;obtain ⟨a,b,rfl,h1,h2⟩:=h;rw [Ac,Sh.okC_len f a h1,Sh.okCs_len fs b h2];rfl
end
def Kj (P:Program) (f:TypeId→Option Sh):List Field→Nat→Option (List Sh)
 |[],_=>some []
 |x::fs,off=>if x.offset=off then match f x.type with
  |some sh=>if P.cellsOf x.type=sh.size then (Kj P f fs (off+sh.size)).map (sh::·) else none
  |none=>none
  else none
def fc (P:Program):Nat→TypeId→Option Sh
 |0,_=>none
 |d+1,t=>match P.underlying t with
  |some .bool=>some .b
  |some (.int k)=>some (.i k)
  |some .string=>some .s
  |some (.slice e)=>match fc P d e with
   |some sh=>if P.cellsOf e=sh.size then some (.l sh) else none
   |none=>none
  |some (.struct fs)=>match Kj P (fc P d) fs.toList 0 with
   |some shs=>if P.cellsOf t=Sh.sizes shs then some (.st shs) else none
   |none=>none
  |some (.array n e)=>match fc P d e with
   |some sh=>if P.cellsOf e=sh.size then (if P.cellsOf t=n*sh.size then some (.st (List.replicate n sh)) else none) else none
   |none=>none
  |_=>none
theorem Qf {α β:Type} {f:α→Option β}:∀{l:List α} {ys:List β},l.mapM f=some ys→ys.length=l.length∧∀(i:Nat) (x:α) (y:β),l[i]? =some x→ys[i]? =some y→f x=some y
 |[],ys,h=>by simp at h;subst h;exact ⟨rfl,fun i x y hx=>by simp at hx⟩
 |x::l,ys,h=>by
  simp only [Gg,Mx,Aj,Ry,Ak] at h;obtain ⟨y,hy,r,hr,rfl⟩:=h;obtain ⟨h1,h2⟩:=Qf hr;refine ⟨by simp [h1],fun i a b ha hb=> ?_⟩;cases i with
  |zero=>simp at ha hb;subst ha;subst hb;exact hy
  |succ i=>exact h2 i a b (by simpa using ha) (by simpa using hb)
def Lx (agg:Bool) (cs:List PV):PV:=if agg then .a cs else cs.headD .u
abbrev Nl:Nat→Option Nat:=fun _=>none
def T5 (M:Vw) (pcs:List PV) (cs:List Value):Prop:=pcs.length=cs.length∧∀(j:Nat) (p:PV) (v:Value),pcs[j]? =some p→cs[j]? =some v→One v∧Rep M p v
theorem T5.append {M:Vw} {p q:List PV} {c d:List Value} (h:T5 M p c) (h':T5 M q d):T5 M (p++q) (c++d):=by
 refine ⟨by simp [h.1,h'.1],fun j x v hx hv=> ?_⟩;rw [List.getElem?_append] at hx hv;rw [h.1] at hx;split at hx
 ·rename_i hj;rw [if_pos hj] at hv;exact h.2 j x v hx hv
 ·rename_i hj;rw [if_neg hj] at hv;exact h'.2 _ x v hx hv
theorem T5.one {M:Vw} {p:PV} {v:Value} (h1:One v) (h:Rep M p v):T5 M [p] [v]:=
 ⟨rfl,fun j q u hq hu=>by cases j with
  |zero=>simp at hq hu;subst hq;subst hu;exact ⟨h1,h⟩
  |succ j=>simp at hq⟩
theorem Qz {e:Sh} (he:e.agg=false) {cs:List PV} (h:e.okC cs):∃p,cs=[p]∧p.scal=true:=by
 cases e with
 |b=>simp only [Sh.okC] at h;obtain ⟨x,rfl⟩:=h;exact ⟨_,rfl,rfl⟩
 |i k=>simp only [Sh.okC] at h;obtain ⟨n,rfl,_⟩:=h;exact ⟨_,rfl,rfl⟩
 |s=>simp only [Sh.okC] at h;obtain ⟨n,rfl,_⟩:=h;exact ⟨_,rfl,rfl⟩
 |l e=>simp only [Sh.okC] at h;obtain ⟨n,rfl,_⟩:=h;exact ⟨_,rfl,rfl⟩
 |st fs=>simp [Sh.agg] at he
theorem Qb {e:Sh} {cs:List PV} (h:e.okC cs):(Lx e.agg cs).cells=cs:=by
 cases he:e.agg with
 |true=>rfl
 |false=>
  obtain ⟨p,rfl,hp⟩:=Qz he h;exact PV.scal_cells hp
theorem cells?_get {w:World} {base:Nat} {a:Addr} {n:Nat} {cs:List Value} (h:w.cells? base a n=some cs):cs.length=n∧∀j v,cs[j]? =some v→w.cell? (a.add j)=some v:=by
 unfold World.cells? at h;split at h
 ·obtain ⟨h1,h2⟩:=Qf h;simp only [Wp] at h1;refine ⟨h1,fun j v hv=> ?_⟩;have hj:j<n:=by rw [←h1];exact (Aq.1 hv).1
  exact h2 j j v (B4 hj) hv
 ·cases h
theorem P0 {H:Type} {enc:TypeId×Value→H} {P:Program} {w:World} {base:Nat} {spare:Nat→Bool} {held:Bool}:∀(fuel d:Nat) (t:TypeId) (sh:Sh) (cs:List Value) (x:DataW H×List MemPlace),fc P d t=some sh→DataW.trod enc P w base spare held fuel t cs=some x→
  ∃pcs,sh.okC pcs∧T5 (By w Nl) pcs cs
 |0,d,t,sh,cs,x,hs,h=>by simp [DataW.trod] at h
 |fuel+1,0,t,sh,cs,x,hs,h=>by simp [fc] at hs
 |fuel+1,d+1,t,sh,cs,x,hs,h=>by
  simp only [fc] at hs;split at hs
  ·rename_i hu;injection hs with hs;subst hs;simp only [DataW.trod,hu] at h;split at h<;>first|(rename_i heq;simp at heq;done)|(cases h;done)|skip
   exact ⟨_,⟨_,rfl⟩,T5.one rfl (.b _)⟩
  ·rename_i k hu;injection hs with hs;subst hs;simp only [DataW.trod,hu] at h;split at h<;>first|(rename_i heq;simp at heq;done)|(cases h;done)|skip
   rename_i k1 k2 n heq;injection heq with heq;injection heq with heq;subst heq;split at h
   ·rename_i hc;obtain ⟨rfl,hwf⟩:=hc;simp only [Lit.wf,Ax,decide_eq_true_eq] at hwf;exact ⟨_,⟨_,rfl,hwf⟩,T5.one rfl (.i _ _)⟩
   ·cases h
  ·rename_i hu;injection hs with hs;subst hs;simp only [DataW.trod,hu] at h;split at h<;>first|(rename_i heq;simp at heq;done)|(cases h;done)|skip
   rename_i s heq;split at h
   ·rename_i hc;refine ⟨_,⟨s.data.toList,rfl,?_⟩,T5.one rfl (.s _ _ rfl)⟩;rw [Bg];exact hc
   ·cases h
  ·-- a slice
   rename_i e hu;split at hs
   ·rename_i she hse;split at hs
    ·rename_i hsz;injection hs with hs;subst hs;simp only [DataW.trod,hu] at h;split at h<;>first|(rename_i heq;simp at heq;done)|(cases h;done)|skip
     ·exact ⟨_,⟨[],rfl,Ch _,fun x hx=>by simp at hx⟩,T5.one rfl (Rep.lnil _ _ _ _)⟩
     ·rename_i e' a len cap heq;injection heq with heq;injection heq with heq;subst heq;split at h
      ·rename_i hc;obtain ⟨elems,hel,_⟩:=Aj.1 h;obtain ⟨hl,hget⟩:=Qf hel;simp only [Wp] at hl;have each:∀i,i<len→∃ecs pcs,w.cells? base (a.add (i*P.cellsOf e)) (P.cellsOf e)=some ecs∧she.okC pcs∧T5 (By w Nl) pcs ecs:=by intro i hi;have hx:elems[i]? =some (elems[i]'(by omega)):=Az (by omega);have:=hget i i _ (B4 hi) hx;obtain ⟨ecs,h1,h2⟩:=Aj.1 this;obtain ⟨pcs,h3,h4⟩:=P0 fuel d e she ecs _ hse h2;exact ⟨ecs,pcs,h1,h3,h4⟩
       have pick:∃f:Nat→List PV×List Value,∀i,i<len→w.cells? base (a.add (i*P.cellsOf e)) (P.cellsOf e)=some (f i).2∧she.okC (f i).1∧T5 (By w Nl) (f i).1 (f i).2:=by
        have:∀i,∃y:List PV×List Value,i<len→w.cells? base (a.add (i*P.cellsOf e)) (P.cellsOf e)=some y.2∧she.okC y.1∧T5 (By w Nl) y.1 y.2:=by
         intro i;by_cases hi:i<len
         ·obtain ⟨ecs,pcs,h1,h2,h3⟩:=each i hi;exact ⟨(pcs,ecs),fun _=>⟨h1,h2,h3⟩⟩
         ·exact ⟨default,fun h=>absurd h hi⟩
        exact ⟨fun i=>(this i).choose,fun i hi=>(this i).choose_spec hi⟩
       obtain ⟨f,hf⟩:=pick;have hsz':P.cellsOf e=she.size:=hsz;have hxs:∀(i:Nat) (x:PV),((List.range len).map fun i=>Lx she.agg (f i).1)[i]? =some x→i<len∧x=Lx she.agg (f i).1∧x.cells=(f i).1:=by
        intro i x hx;simp only [Bb,Av] at hx;obtain ⟨k,hk,rfl⟩:=hx;have hi:i<len:=by have:=(Aq.1 hk).1;simpa using this
        rw [B4 hi] at hk;injection hk with hk;subst hk;exact ⟨hi,rfl,Qb (hf i hi).2.1⟩
       have hlen:((List.range len).map fun i=>Lx she.agg (f i).1).length=len:=by simp
       refine ⟨[.l she.size ((List.range len).map fun i=>Lx she.agg (f i).1)],⟨_,rfl,by rw [hlen];omega,fun x hx=> ?_⟩,T5.one rfl ?_⟩
       ·obtain ⟨i,hi⟩:=Dh hx;obtain ⟨h1,h2,h3⟩:=hxs i x hi;cases he:she.agg with
        |true=>
         simp only [if_true];exact ⟨(f i).1,by rw [h2,he];rfl,(hf i h1).2.1⟩
        |false=>
         simp only [Ab,if_false];obtain ⟨p,hp,hps⟩:=Qz he (hf i h1).2.1;have:x=p:=by rw [h2,he,hp];rfl
         subst this;exact ⟨hps,by rw [←hp];exact (hf i h1).2.1⟩
       ·have:=Rep.l (M:=By w Nl) she.size ((List.range len).map fun i=>Lx she.agg (f i).1) (some a) cap a (fun i j=>(f i).2.getD j undef) (by rw [hlen];exact hc.2.1) (fun _=>rfl)
         (fun i x hx=>by obtain ⟨h1,h2,h3⟩:=hxs i x hx;rw [h3];exact Sh.okC_len _ _ (hf i h1).2.1) ?_ ?_ ?_
        ·rw [hlen] at this;exact this
        all_goals
         intro i x j c hx hcj;obtain ⟨h1,h2,h3⟩:=hxs i x hx;obtain ⟨g1,g2,g3⟩:=hf i h1;rw [h3] at hcj;obtain ⟨c1,c2⟩:=cells?_get g1;have hj:j<(f i).2.length:=by rw [←g3.1];exact (Aq.1 hcj).1
         have hv:(f i).2[j]? =some ((f i).2[j]):=Az hj;have hd:(f i).2.getD j undef=(f i).2[j]:=by rw [Bz,hv];rfl
        ·rw [hd];refine Dm ?_ (fun lim hl=>by cases hl);rw [←hsz',←Addr.add_add];exact c2 j _ hv
        ·rw [hd];exact (g3.2 j c _ hcj hv).1
        ·rw [hd];exact (g3.2 j c _ hcj hv).2
      ·cases h
    ·cases hs
   ·cases hs
  ·-- a struct
   rename_i fs hu;split at hs
   ·rename_i shs hshs;split at hs
    ·rename_i hsz;injection hs with hs;subst hs;have h':∃ys,cs.length=P.cellsOf t∧(fs.toList.mapM fun f=>DataW.trod enc P w base spare held fuel f.type ((cs.drop f.offset).take (P.cellsOf f.type)))=some ys:=by
      simp only [DataW.trod,hu] at h;by_cases hl:cs.length=P.cellsOf t
      ·rw [if_pos hl] at h;obtain ⟨ys,hy,_⟩:=Av.1 h;exact ⟨ys,hl,hy⟩
      ·rw [if_neg hl] at h;cases h
     obtain ⟨ys,hlen,hys⟩:=h';have go:∀(l:List Field) (off:Nat) (shs:List Sh) (ys:List (DataW H×List MemPlace)),Kj P (fc P d) l off=some shs→(l.mapM fun f=>DataW.trod enc P w base spare held fuel f.type ((cs.drop f.offset).take (P.cellsOf f.type)))=some ys→cs.length=off+Sh.sizes shs→
       ∃pcs,Sh.okCs shs pcs∧T5 (By w Nl) pcs (cs.drop off):=by
      intro l
      induction l with
      |nil=>
       intro off shs ys h1 h2 h3;simp only [Kj,Ak] at h1;subst h1;refine ⟨[],rfl,?_⟩;have:cs.drop off=[]:=Ph (by simp only [Sh.sizes] at h3;omega);rw [this];exact ⟨rfl,fun j p v hp=>by simp at hp⟩
      |cons fl l ih=>
       intro off shs ys h1 h2 h3;simp only [Kj] at h1;split at h1
       ·rename_i hoff;subst hoff;split at h1
        ·rename_i sh hsh;split at h1
         ·rename_i hsize;obtain ⟨rest,hrest,rfl⟩:=Av.1 h1;simp only [Gg,Mx,Aj,Ry,Ak] at h2;obtain ⟨y,hy,r,hr,rfl⟩:=h2;obtain ⟨pcs,p1,p2⟩:=P0 fuel d fl.type sh _ _ hsh hy;simp only [Sh.sizes] at h3;obtain ⟨qcs,q1,q2⟩:=ih (fl.offset+sh.size) rest r hrest hr (by omega);refine ⟨pcs++qcs,⟨pcs,qcs,rfl,p1,q1⟩,?_⟩;have e:cs.drop fl.offset=(cs.drop fl.offset).take (P.cellsOf fl.type)++cs.drop (fl.offset+sh.size):=by rw [hsize,←Er,Br]
          rw [e];exact p2.append q2
         ·cases h1
        ·cases h1
       ·cases h1
     obtain ⟨pcs,p1,p2⟩:=go fs.toList 0 shs ys hshs hys (by omega);exact ⟨pcs,p1,by simpa using p2⟩
    ·cases hs
   ·cases hs
  ·-- an array
   rename_i n e hu;split at hs
   ·rename_i sh hse;split at hs
    ·rename_i hsz;split at hs
     ·rename_i hsz2;injection hs with hs;subst hs;have h':∃ys,cs.length=P.cellsOf t∧((List.range n).mapM fun i=>DataW.trod enc P w base spare held fuel e ((cs.drop (i*P.cellsOf e)).take (P.cellsOf e)))=some ys:=by
       simp only [DataW.trod,hu] at h;by_cases hl:cs.length=P.cellsOf t
       ·rw [if_pos hl] at h;obtain ⟨ys,hy,_⟩:=Av.1 h;exact ⟨ys,hl,hy⟩
       ·rw [if_neg hl] at h;cases h
      obtain ⟨ys,hlen,hys⟩:=h';have go:∀(m off:Nat) (ys:List (DataW H×List MemPlace)),((List.range' off m).mapM fun i=>DataW.trod enc P w base spare held fuel e ((cs.drop (i*P.cellsOf e)).take (P.cellsOf e)))=some ys→cs.length=off*sh.size+m*sh.size→
        ∃pcs,Sh.okCs (List.replicate m sh) pcs∧T5 (By w Nl) pcs (cs.drop (off*sh.size)):=by
       intro m
       induction m with
       |zero=>
        intro off ys h2 h3;refine ⟨[],rfl,?_⟩;have:cs.drop (off*sh.size)=[]:=Ph (by omega);rw [this];exact ⟨rfl,fun j p v hp=>by simp at hp⟩
       |succ m ih=>
        intro off ys h2 h3;simp only [List.range'_succ,Gg,Mx,Aj,Ry,Ak] at h2;obtain ⟨y,hy,r,hr,rfl⟩:=h2;obtain ⟨pcs,p1,p2⟩:=P0 fuel d e sh _ _ hse hy;have e1:(off+1)*sh.size=off*sh.size+sh.size:=by rw [Bn,Eh]
        have e2:(m+1)*sh.size=m*sh.size+sh.size:=by rw [Bn,Eh]
        obtain ⟨qcs,q1,q2⟩:=ih (off+1) r hr (by omega);refine ⟨pcs++qcs,⟨pcs,qcs,rfl,p1,q1⟩,?_⟩;rw [hsz] at p2;have e3:cs.drop (off*sh.size)=(cs.drop (off*sh.size)).take sh.size++cs.drop ((off+1)*sh.size):=by rw [e1,←Er,Br]
        rw [e3];exact p2.append q2
      rw [List.range_eq_range'] at hys;obtain ⟨pcs,p1,p2⟩:=go n 0 ys hys (by omega);refine ⟨pcs,?_,by simpa using p2⟩;simpa only [Sh.okC] using p1
     ·cases hs
    ·cases hs
   ·cases hs
  ·cases hs
end Go.X
/- A law's row: what its call comes to, said of readings. -/
namespace Go.X
open Go Go.RowKit Go.ChangeShapes Go.WideShapes
section
variable {H:Type} {enc:TypeId×Value→H} {P:Program} {sig:Nat→Option Nat} {tab:Nat→Option FT} {ext:Fns→Fns}
theorem fp (hM:Hb ext) (hT:Tab P sig tab) (hE:∀fn,Contract P sig fn→Contract P sig (ext fn)) {f n:Nat} {ft:FT} {vs rs:List PV} (hf:tab f=some ft) (hmu:O2 (sig f)=none) (hfa:Tg (sig f)=none) (h:sem tab ext f n vs=some rs) {w:World} {O:Nat→Option Nat} {args:Array Value} (hg:Given w O n vs args):
  Calls P f args w fun e w'=>∃v,e= .returned v∧An3 P (sig f) w O rs v w':=by
 obtain ⟨k,hk⟩:=(M0 hM).1 h;cases k with
 |zero=>simp [M2] at hk
 |succ k=>
  rw [M2] at hk;simp only [hf] at hk;split at hk
  ·rename_i hc;obtain ⟨o,ho,hk⟩:=Aj.1 hk;split at hk
   ·injection hk with hk;subst hk;obtain ⟨func,Hn,hfn,hn,hp,hlt,hnf,t0,hx,hs⟩:=hT.1 f ft hf;rw [←hs,Ft] at ho;unfold dk at hp;rw [hmu,hfa] at hp;simp only [Pd,Bool.or_self,Ab,if_false,Dx] at hp;exact Ub (gj hT hE k) hmu hfn hx ho (by rw [hc.2,←hp,Dy hlt,hnf]) (by rw [hp,hc.1];exact hg) (fun e he=>by rw [hfa] at he;cases he)
   ·cases hk
  ·cases hk
def Oks:List Sh→List PV→Prop
 |[],[]=>True
 |sh::ss,p::ps=>sh.ok p∧Oks ss ps
 |_,_=>False
theorem Oks.len:∀{ss:List Sh} {ps:List PV},Oks ss ps→ps.length=ss.length
 |[],[],_=>rfl
 |_::_,_::_,h=>by simp [Oks.len h.2]
 |[],_::_,h=>h.elim
 |_::_,[],h=>h.elim
def Sk (P:Program) (ts:List TypeId):Option (List Sh):=ts.mapM (fc P 30)
theorem Az4 {w:World} {base b0:Nat} {spare:Nat→Bool} {held:Bool} {t:TypeId} {v:Value} {d:DataW H} {ps:List MemPlace} {sh:Sh} {n:Nat} (hs:fc P n t=some sh) (hok:Value.okWide P w .any base t v) (h:DataW.Trod enc P w b0 spare held t v d ps):
  ∃p,sh.ok p∧Rep (By w Nl) p v:=by
 obtain ⟨fuel,hf⟩:=h;obtain ⟨pcs,h1,h2⟩:=P0 fuel n t sh _ _ hs hf;have single:sh.agg=false→v.cells= #[v]→∃p,sh.ok p∧Rep (By w Nl) p v:=by intro ha hv;obtain ⟨p,rfl,hp⟩:=Qz ha h1;rw [hv] at h2;refine ⟨p,?_,(h2.2 0 p v rfl rfl).2⟩;unfold Sh.ok;rw [ha];simp only [Ab,if_false];exact ⟨hp,h1⟩
 cases n with
 |zero=>simp [fc] at hs
 |succ n=>
  simp only [fc] at hs;split at hs
  ·rename_i hu;injection hs with hs;subst hs;obtain ⟨b,rfl⟩:=okWide_bool hu hok;exact single rfl rfl
  ·rename_i k hu;injection hs with hs;subst hs;obtain ⟨b,rfl⟩:=okWide_int hu hok;exact single rfl rfl
  ·rename_i hu;injection hs with hs;subst hs;obtain ⟨b,rfl⟩:=okWide_string hu hok;exact single rfl rfl
  ·rename_i e hu;split at hs
   ·split at hs
    ·injection hs with hs;subst hs;obtain ⟨a,l,c,rfl⟩:=okWide_slice hu hok;exact single rfl rfl
    ·cases hs
   ·cases hs
  ·rename_i fs hu;split at hs
   ·split at hs
    ·injection hs with hs;subst hs;simp only [Value.okWide,hu] at hok;obtain ⟨cs,rfl,_,_⟩:=hok;refine ⟨.a pcs,?_,?_⟩
     ·unfold Sh.ok;simp only [Sh.agg,if_true];exact ⟨pcs,rfl,h1⟩
     ·have hl:pcs.length=cs.toList.length:=h2.1;refine Rep.a pcs cs (by rw [hl,Bg]) (fun u hu=> ?_) (fun j c u hc hu=>(h2.2 j c u hc (by show cs.toList[j]? =some u;rw [Af];exact hu)).2);obtain ⟨j,hj⟩:=Dh hu;have hj1:=(Aq.1 hj).1;exact (h2.2 j _ u (Az (by omega)) hj).1
    ·cases hs
   ·cases hs
  ·rename_i n e hu;split at hs
   ·split at hs
    ·split at hs
     ·injection hs with hs;subst hs;simp only [Value.okWide,hu] at hok;obtain ⟨cs,rfl,_,_⟩:=hok;refine ⟨.a pcs,?_,?_⟩
      ·unfold Sh.ok;simp only [Sh.agg,if_true];exact ⟨pcs,rfl,h1⟩
      ·have hl:pcs.length=cs.toList.length:=h2.1;refine Rep.a pcs cs (by rw [hl,Bg]) (fun u hu=> ?_) (fun j c u hc hu=>(h2.2 j c u hc (by show cs.toList[j]? =some u;rw [Af];exact hu)).2);obtain ⟨j,hj⟩:=Dh hu;have hj1:=(Aq.1 hj).1;exact (h2.2 j _ u (Az (by omega)) hj).1
     ·cases hs
    ·cases hs
   ·cases hs
  ·cases hs
theorem Xx {w:World} {base b0:Nat} {spare:Nat→Bool} {held:Bool}:∀{ts:List TypeId} {shs:List Sh} {vs:List Value} {ds:List (DataW H)} {ps:List MemPlace},Sk P ts=some shs→(∀(j:Nat) t v,ts[j]? =some t→vs[j]? =some v→Value.okWide P w .any base t v)→
  DataW.TrodAll enc P w b0 spare held ts vs ds ps→∃qs,Oks shs qs∧qs.length=vs.length∧∀(j:Nat) (p:PV) (v:Value),qs[j]? =some p→vs[j]? =some v→Rep (By w Nl) p v
 |[],shs,vs,ds,ps,hs,hok,h=>by simp only [Sk,List.mapM_nil,Ry,Ak] at hs;subst hs;obtain ⟨rfl,rfl,rfl⟩:=trodAll_nil h;exact ⟨[],trivial,rfl,fun j p v hp=>by simp at hp⟩
 |t::ts,shs,vs,ds,ps,hs,hok,h=>by
  simp only [Sk,Gg,Mx,Aj,Ry,Ak] at hs;obtain ⟨sh,hsh,rest,hrest,rfl⟩:=hs;obtain ⟨v,vs',d,ds',p,q,rfl,rfl,rfl,h1,h2⟩:=trodAll_cons h;obtain ⟨x,x1,x2⟩:=Az4 hsh (hok 0 t v rfl rfl) h1;obtain ⟨qs,q1,q2,q3⟩:=Xx hrest (fun j t' v' ht hv=>hok (j+1) t' v' (by simpa using ht) (by simpa using hv)) h2;refine ⟨x::qs,⟨x1,q1⟩,by simp [q2],fun j p' v' hp hv=> ?_⟩;cases j with
  |zero=>simp at hp hv;subst hp;subst hv;exact x2
  |succ j=>exact q3 j p' v' (by simpa using hp) (by simpa using hv)
theorem Yd (hl:laidOutB P=true) {W W':World} (hb:Below W.heap.size W W'):∀{ts:List TypeId} {vs:List Value} {ds:List (DataW H)} {ps:List MemPlace},(ts.all fun t=>P.readableRec t && decide (t<P.types.size))=true→DataW.TrodAll enc P W 0 (fun _=>true) true ts vs ds ps→
  DataW.TrodAll enc P W' 0 (fun b=>decide (b<W.heap.size)) true ts vs ds ps
 |[],vs,ds,ps,_,h=>by obtain ⟨rfl,rfl,rfl⟩:=trodAll_nil h;exact trodAll_mk0
 |t::ts,vs,ds,ps,hr,h=>by simp only [List.all_cons,Ax,decide_eq_true_eq] at hr;obtain ⟨v,vs',d,ds',p,q,rfl,rfl,rfl,h1,h2⟩:=trodAll_cons h;refine trodAll_cons_mk (Below.trod hl hr.1.1 hr.1.2 h1 hb ?_) (Yd hl hb (by simpa using hr.2) h2);obtain ⟨m,hm⟩:=h1;exact DataW.trod_lt m _ _ _ hm
theorem law_calls (hM:Hb ext) (hT:Tab P sig tab) (hE:∀fn,Contract P sig fn→Contract P sig (ext fn)) {f:Nat} {ft:FT} (hf:tab f=some ft) (hsig:sig f=none) {ts:List TypeId} {shs:List Sh} (hs:Sk P ts=some shs)
  (law:∀qs,Oks shs qs→sem tab ext f shs.length qs=some [.b true]) {W:World} {base b0:Nat} {spare:Nat→Bool} {held:Bool} {args:Array Value} {ds:List (DataW H)} {ps:List MemPlace}
  (hok:∀(j:Nat) t v,ts[j]? =some t→args[j]? =some v→Value.okWide P W .any base t v) (h:DataW.TrodAll enc P W b0 spare held ts args.toList ds ps):
  Calls P f args W fun e W'=>e= .returned (.bool true)∧Below W.heap.size W W':=by
 obtain ⟨qs,q1,q2,q3⟩:=Xx hs (fun j t v ht hv=>hok j t v ht (by simpa using hv)) h;have hlen:=q1.len;refine (fp hM hT hE hf (by rw [hsig];rfl) (by rw [hsig];rfl) (law qs q1) (O:=Nl) ⟨fun _ _=>rfl,by rw [q2,Bg],fun j p v _ hp hv=>q3 j p v hp (by simpa using hv),fun j p v hj hp _=> ?_⟩).mono fun e w' ⟨v,he,hb⟩=> ?_
 ·have:=(Aq.1 hp).1;omega
 ·subst he;rw [hsig] at hb;obtain ⟨hbel,O',_,_,hres⟩:=hb;have hr:Rep (By w' O') (.b true) v:=hres;exact ⟨by rw [hr.bool],hbel.to⟩
end
end Go.X
/- Residual programs, evaluated by rewriting. -/
namespace Go.X
open Go
def Bc (j:Nat) (p:PV):Option PV:=p.cells[j]?
def Hp (off n:Nat) (p:PV):Option PV:=if off+n≤p.cells.length then some (.a ((p.cells.drop off).take n)) else none
def Mj (n:Nat):PV→Option PV
 | .a cs=>if cs.length=n then some (.a cs) else none
 |_=>none
def Gw (p:PV):Option PV:=if p.scal then some p else none
def brE (η:List PV) (x y:E):PV→Option PV
 | .b true=>x.ev η
 | .b false=>y.ev η
 |_=>none
def brT (fn:Fns) (N:Nat) (t e:T) (η:List PV):PV→Option Out
 | .b true=>t.ev fn N η
 | .b false=>e.ev fn N η
 |_=>none
def goT (fn:Fns) (N:Nat) (k:T) (η:List PV):Option Out:=k.ev fn N η
def aft (fn:Fns) (N:Nat) (id:Nat) (k:T) (η:List PV):Out→Option Out
 | .yld j vs=>if j=id then k.ev fn N (η++vs) else some (.yld j vs)
 | .ret vs=>some (.ret vs)
def Al5 (fn:Fns) (η:List PV) (fl:Bool) (f:Nat) (ar:List E) (m:Nat):PV→Option (List PV)
 | .b true=>(E.evs η ar).bind fun vs=>results fl m η (fn f vs.length vs)
 | .b false=>some (η++List.replicate m .u)
 |_=>none
section
variable {η:List PV}
theorem Fz8 (n:Nat):(E.v n).ev η=η[n]? :=by simp only [E.ev]
theorem Fz9 (x:PV):(E.c x).ev η=some x:=by simp only [E.ev]
theorem Dc4 (op:BinOp) (x y:E):(E.bin op x y).ev η=(x.ev η).bind fun p=>(y.ev η).bind fun q=>X.bin op p q:=by simp only [E.ev]
theorem Fv4 (op:UnOp) (x:E):(E.un op x).ev η=(x.ev η).bind (X.un op):=by simp only [E.ev]
theorem Db9 (g x y:E):(E.ite g x y).ev η=(g.ev η).bind (brE η x y):=by simp only [E.ev];rfl
theorem Cc9 (j:Nat) (x:E):(E.proj j x).ev η=(x.ev η).bind (Bc j):=by simp only [E.ev];rfl
theorem Db2 (o n:Nat) (x:E):(E.sub o n x).ev η=(x.ev η).bind (Hp o n):=by simp only [E.ev];rfl
theorem Dc7 (xs:List E):(E.agg xs).ev η=(E.evs η xs).map .a:=by simp only [E.ev]
theorem Dc1 (n:Nat) (x:E):(E.fit n x).ev η=(x.ev η).bind (Mj n):=by simp only [E.ev];congr 1;funext p;cases p<;>rfl
theorem Cc8 (x:E):(E.scal x).ev η=(x.ev η).bind Gw:=by simp only [E.ev];rfl
theorem Dc0 (sz:Nat) (x i:E):(E.idx sz x i).ev η=(x.ev η).bind fun p=>(i.ev η).bind fun q=>Hd sz p q:=by simp only [E.ev]
theorem ev_len (x:E):(E.len x).ev η=(x.ev η).bind Fq:=by simp only [E.ev]
theorem Cc6 (x:E):(E.slen x).ev η=(x.ev η).bind Lh:=by simp only [E.ev]
theorem Cc7 (x i:E):(E.sidx x i).ev η=(x.ev η).bind fun p=>(i.ev η).bind fun q=>Mt p q:=by simp only [E.ev]
theorem Db3 (x lo hi:E):(E.ssl x lo hi).ev η=(x.ev η).bind fun p=>(lo.ev η).bind fun q=>(hi.ev η).bind fun r=>R9 p q r:=by simp only [E.ev]
theorem Db7 (sz:Nat) (x lo hi:E):(E.lsl sz x lo hi).ev η=(x.ev η).bind fun p=>(lo.ev η).bind fun q=>(hi.ev η).bind fun r=>H1 sz p q r:=by simp only [E.ev]
theorem Dc6 (sz:Nat) (x y:E):(E.app sz x y).ev η=(x.ev η).bind fun p=>(y.ev η).bind fun q=>Gs sz p q:=by simp only [E.ev]
theorem Db8 (sz:Nat) (xs:List E):(E.lit sz xs).ev η=(E.evs η xs).bind (Jc sz):=by simp only [E.ev]
theorem Db6 (sz:Nat) (n z:E):(E.rep sz n z).ev η=(n.ev η).bind fun p=>(z.ev η).bind fun q=>Kw sz p q:=by simp only [E.ev]
theorem Db4 (sz:Nat) (x i:E) (o:Nat) (vs:List E):(E.set sz x i o vs).ev η=(x.ev η).bind fun p=>(i.ev η).bind fun q=>(E.evs η vs).bind fun r=>K9 sz o r p q:=by simp only [E.ev]
theorem Cd2 (k:IntKind) (x:E):(E.conv k x).ev η=(x.ev η).bind (Yj k):=by simp only [E.ev]
theorem Dc5 (x:E):(E.b2s x).ev η=(x.ev η).bind Wx:=by simp only [E.ev]
theorem Db5 (x:E):(E.s2b x).ev η=(x.ev η).bind Y7:=by simp only [E.ev]
theorem Dc2 (n g:Bool) (ts:List Sc) (x y:E):(E.eqs n g ts x y).ev η=(x.ev η).bind fun p=>(y.ev η).bind fun q=>Is n g ts p q:=by simp only [E.ev]
theorem Dc3 (g:Nat) (xs:List E):(E.clo g xs).ev η=(E.evs η xs).map (.f g):=by simp only [E.ev]
theorem Fv6 (x y:E):(E.mn x y).ev η=(x.ev η).bind fun p=>(y.ev η).bind fun q=>nb p q:=by simp only [E.ev]
theorem Fv5 (x y:E):(E.mx x y).ev η=(x.ev η).bind fun p=>(y.ev η).bind fun q=>Cy7 p q:=by simp only [E.ev]
theorem Cd1 (x k z:E):(E.mget x k z).ev η=(x.ev η).bind fun p=>(k.ev η).bind fun q=>(z.ev η).bind fun r=>S7 p q r:=by simp only [E.ev]
theorem Cd0 (x k v:E):(E.mset x k v).ev η=(x.ev η).bind fun p=>(k.ev η).bind fun q=>(v.ev η).bind fun r=>S6 p q r:=by simp only [E.ev]
theorem F9 (x:E):(E.der x).ev η=(x.ev η).bind cp:=by simp only [E.ev]
theorem F8 (o:Nat) (x:E):(E.mkp o x).ev η=(x.ev η).bind (br o):=by simp only [E.ev]
theorem Cc5:E.evs η []=some []:=by simp only [E.evs]
theorem Ah4 (x:E) (xs:List E):E.evs η (x::xs)=(x.ev η).bind fun p=>(E.evs η xs).map fun ps=>p::ps:=by simp only [E.evs]
theorem Al7 (x y:E):brE η x y (.b true)=x.ev η:=rfl
theorem wk (x y:E):brE η x y (.b false)=y.ev η:=rfl
theorem Fx5 (x y:E) (v:Bool):brE η x y (.b v)=if v=true then x.ev η else y.ev η:=by cases v<;>rfl
end
section
variable {fn:Fns} {N:Nat} {η:List PV}
theorem Cz {t t':T} (h:t=t'):∀(fn:Fns) (N:Nat) (η:List PV),T.ev fn N t η=T.ev fn N t' η:=by subst h;intro fn N η;exact Eq.refl _
theorem xc {t t':T} {q:Prop} (h:t=t') (r:q):(∀(fn:Fns) (N:Nat) (η:List PV),T.ev fn N t η=T.ev fn N t' η)∧q:=⟨Cz h,r⟩
theorem xd {a b:E} {q:Prop} (h:a=b) (r:q):(a=b)∧q:=⟨by subst h;exact Eq.refl _,r⟩
theorem xd0:(TAG=TAG)=True:=eq_self _
theorem Ck2 (x:E) (k:T):(T.w (.chk x) k).ev fn N η=(x.ev η).bind fun _=>k.ev fn N η:=by simp only [T.ev,W.ev];cases x.ev η<;>rfl
theorem y8 (fl:Bool) (f:Nat) (ar:List E) (m:Nat) (k:T):(T.w (.call none fl f ar m) k).ev fn N η=(((E.evs η ar).bind fun vs=>results fl m η (fn f vs.length vs))).bind (goT fn N k):=by simp only [T.ev,W.ev,D3];rfl
theorem ed (g:E) (fl:Bool) (f:Nat) (ar:List E) (m:Nat) (k:T):(T.w (.call (some g) fl f ar m) k).ev fn N η=(W.ev fn η (.call (some g) fl f ar m)).bind (goT fn N k):=by simp only [T.ev];rfl
theorem Ck1 (g:Option E) (fl:Bool) (c:E) (ar:List E) (m:Nat) (k:T):(T.w (.clo g fl c ar m) k).ev fn N η=(W.ev fn η (.clo g fl c ar m)).bind (goT fn N k):=by simp only [T.ev];rfl
theorem Ec (f:Nat) (ar:List E) (k:T):(T.w (.mcall f ar) k).ev fn N η=((E.evs η ar).bind fun vs=>results false 1 η (fn f (vs.length+TAG) vs)).bind (goT fn N k):=by simp only [T.ev,W.ev];rfl
theorem L6:TAG=1048576:=rfl
theorem Dz1 (k:T):goT fn N k η=k.ev fn N η:=rfl
theorem Ck0 (c:E) (t e:T):(T.ite c t e).ev fn N η=(c.ev η).bind (brT fn N t e η):=by simp only [T.ev];rfl
theorem Al6 (t e:T):brT fn N t e η (.b true)=t.ev fn N η:=rfl
theorem wj (t e:T):brT fn N t e η (.b false)=e.ev fn N η:=rfl
theorem Fx4 (t e:T) (v:Bool):brT fn N t e η (.b v)=if v=true then t.ev fn N η else e.ev fn N η:=by cases v<;>rfl
theorem Cj9 (es:List E):(T.ret es).ev fn N η=(E.evs η es).map .ret:=by simp only [T.ev]
theorem Cj8 (id:Nat) (es:List E):(T.yld id es).ev fn N η=(E.evs η es).map (.yld id):=by simp only [T.ev]
theorem Ck3 (id:Nat) (b k:T):(T.blk id b k).ev fn N η=(b.ev fn N η).bind (aft fn N id k η):=by simp only [T.ev];rfl
theorem Cm3 (id:Nat) (k:T) (vs:List PV):aft fn N id k η (.ret vs)=some (.ret vs):=rfl
theorem Cm2 (id j:Nat) (k:T) (vs:List PV):aft fn N id k η (.yld j vs)=if j=id then k.ev fn N (η++vs) else some (.yld j vs):=rfl
theorem Cm4 (id:Nat) (k:T) (p:Prop) [Decidable p] (x y:Out):aft fn N id k η (if p then x else y)=if p then aft fn N id k η x else aft fn N id k η y:=by split<;>rfl
theorem d9 (g:E) (fl:Bool) (f:Nat) (ar:List E) (m:Nat):W.ev fn η (.call (some g) fl f ar m)=(g.ev η).bind (Al5 fn η fl f ar m):=by simp only [W.ev,D3];rfl
theorem c6 (fl:Bool) (f:Nat) (ar:List E) (m:Nat):Al5 fn η fl f ar m (.b true)=(E.evs η ar).bind fun vs=>results fl m η (fn f vs.length vs):=rfl
theorem Wk (fl:Bool) (f:Nat) (ar:List E) (m:Nat):Al5 fn η fl f ar m (.b false)=some (η++List.replicate m .u):=rfl
theorem Cg7 (fl:Bool) (f:Nat) (ar:List E) (m:Nat) (v:Bool):Al5 fn η fl f ar m (.b v)=if v=true then ((E.evs η ar).bind fun vs=>results fl m η (fn f vs.length vs)) else some (η++List.replicate m .u):=by cases v<;>rfl
theorem Cj5 (fl:Bool) (c:E) (ar:List E) (m:Nat):W.ev fn η (.clo none fl c ar m)=(c.ev η).bind fun q=>(E.evs η ar).bind fun vs=>match q with| .f f caps=>results fl m η (fn f vs.length (vs++caps))|_=>none:=by simp only [W.ev,D3];rfl
theorem Af2 {α β:Type} (p:Prop) [Decidable p] (x y:Option α) (f:α→Option β):(if p then x else y).bind f=if p then x.bind f else y.bind f:=by split<;>rfl
theorem Af1 (p:Prop) [Decidable p] (x y:PV):(if p then some x else some y)=some (if p then x else y):=by split<;>rfl
theorem oz (p:Prop) [Decidable p] (x y:Out):(if p then some x else some y)=some (if p then x else y):=by split<;>rfl
theorem Dz0 (p:Prop) [Decidable p] (x y:Bool):(if p then PV.b x else PV.b y)=PV.b (if p then x else y):=by split<;>rfl
theorem Dy9 (p:Prop) [Decidable p] (k:IntKind) (x y:Int):(if p then PV.i k x else PV.i k y)=PV.i k (if p then x else y):=by split<;>rfl
theorem Dy8 (p:Prop) [Decidable p] (x y:List UInt8):(if p then PV.s x else PV.s y)=PV.s (if p then x else y):=by split<;>rfl
def Out.goes (id:Nat):Out→Bool
 | .yld j _=>j==id
 |_=>false
theorem M3 {step:List PV→Option Out} {id:Nat} {α:Type} (st:α→List PV) (res:α→Out) (I:α→Prop) (μ:α→Nat)
  (h:∀a,I a→(∃b,step (st a)=some (.yld id (st b))∧I b∧μ b<μ a∧res b=res a)∨(step (st a)=some (res a)∧(res a).goes id=false)):
  ∀(n:Nat) (a:α),I a→μ a<n→E9 step id n (st a)=some (res a)
 |0,a,_,hn=>by omega
 |n+1,a,ha,hn=>by
  simp only [E9];rcases h a ha with ⟨b,h1,h2,h3,h4⟩|⟨h1,h2⟩
  ·rw [h1];simp only [Aw,if_true];rw [M3 st res I μ h n b h2 (by omega),h4]
  ·rw [h1];simp only [Aw];cases hr:res a with
   |ret vs=>rfl
   |yld j vs=>
    rw [hr] at h2;simp only [Out.goes,beq_eq_false_iff_ne,ne_eq] at h2;simp only [];rw [if_neg h2]
theorem Kz {id:Nat} {init:List E} {body:T} {α:Type} (st:α→List PV) (res:α→Out) (I:α→Prop) (μ:α→Nat) (a0:α)
  (h0:E.evs η init=some (st a0)) (hI:I a0) (hN:μ a0<N)
  (h:∀a,I a→(∃b,body.ev fn N (η++st a)=some (.yld id (st b))∧I b∧μ b<μ a∧res b=res a)∨(body.ev fn N (η++st a)=some (res a)∧(res a).goes id=false)):
  (T.loop id init body).ev fn N η=some (res a0):=by
 simp only [T.ev,h0,Aw];exact M3 st res I μ h N a0 hI hN
theorem G7 {id:Nat} {init:List E} {body:T} (n:Nat) (st:Nat→List PV) (res:Nat→Out)
  (h0:E.evs η init=some (st 0)) (hN:n<N)
  (h:∀i,i<n→(body.ev fn N (η++st i)=some (.yld id (st (i+1)))∧res (i+1)=res i)∨(body.ev fn N (η++st i)=some (res i)∧(res i).goes id=false))
  (hn:body.ev fn N (η++st n)=some (res n)∧(res n).goes id=false):
  (T.loop id init body).ev fn N η=some (res 0):=by
 refine Kz st res (fun i=>i≤n) (fun i=>n - i) 0 h0 (Ch _) (by omega) fun i hi=> ?_;by_cases hlt:i<n
 ·rcases h i hlt with ⟨h1,h2⟩|h1
  ·exact .inl ⟨i+1,h1,by omega,by omega,h2⟩
  ·exact .inr h1
 ·have:i=n:=by omega
  subst this;exact .inr hn
end
theorem Jw {fn:Fns} {N:Nat} {η:List PV} {id:Nat} {init:List E} {body:T} {β γ:Type} (l:List β) (st:Nat→γ→List PV) (f:Nat→γ→List β→Out) (I:Nat→γ→Prop) (g0:γ)
  (h0:E.evs η init=some (st 0 g0)) (hI:I 0 g0) (hN:l.length<N)
  (step:∀i g c r,l.drop i=c::r→i<l.length→l[i]? =some c→I i g→
   (∃g',body.ev fn N (η++st i g)=some (.yld id (st (i+1) g'))∧I (i+1) g'∧f (i+1) g' r=f i g (c::r))∨(body.ev fn N (η++st i g)=some (f i g (c::r))∧(f i g (c::r)).goes id=false))
  (stop:∀g,I l.length g→body.ev fn N (η++st l.length g)=some (f l.length g [])∧(f l.length g []).goes id=false):
  (T.loop id init body).ev fn N η=some (f 0 g0 l):=by
 have:=Kz (fn:=fn) (N:=N) (η:=η) (id:=id) (init:=init) (body:=body) (α:=Nat×γ) (fun a=>st a.1 a.2) (fun a=>f a.1 a.2 (l.drop a.1)) (fun a=>a.1≤l.length∧I a.1 a.2) (fun a=>l.length - a.1) (0,g0) h0 ⟨Ch _,hI⟩ (by simpa using hN) ?_
 ·simpa using this
 ·rintro ⟨i,g⟩ ⟨hi,hg⟩;simp only at hi hg ⊢;by_cases hlt:i<l.length
  ·have hd:l.drop i=l[i]::l.drop (i+1):=Eb hlt;rcases step i g l[i] (l.drop (i+1)) hd hlt (Az hlt) hg with ⟨g',h1,h2,h3⟩|h1
   ·exact .inl ⟨(i+1,g'),h1,⟨hlt,h2⟩,by simp only;omega,by simp only;rw [h3,hd]⟩
   ·exact .inr (by rw [hd];exact h1)
  ·have hi':i=l.length:=by omega
   subst hi';have hd:l.drop l.length=[]:=List.drop_length;exact .inr (by rw [hd];exact stop g hg)
theorem F5 {fn:Fns} {N:Nat} {η:List PV} {id:Nat} {init:List E} {body:T} {β:Type} (l:List β) (st:Nat→List PV) (f:Nat→List β→Out)
  (h0:E.evs η init=some (st 0)) (hN:l.length<N)
  (step:∀i c r,l.drop i=c::r→i<l.length→l[i]? =some c→
   (body.ev fn N (η++st i)=some (.yld id (st (i+1)))∧f (i+1) r=f i (c::r))∨(body.ev fn N (η++st i)=some (f i (c::r))∧(f i (c::r)).goes id=false))
  (stop:body.ev fn N (η++st l.length)=some (f l.length [])∧(f l.length []).goes id=false):
  (T.loop id init body).ev fn N η=some (f 0 l):=
 Jw (γ:=Unit) l (fun i _=>st i) (fun i _ r=>f i r) (fun _ _=>True) () h0 trivial hN (fun i _ c r h1 h2 h3 _=>by
  rcases step i c r h1 h2 h3 with ⟨a,b⟩|h
  ·exact .inl ⟨(),a,trivial,b⟩
  ·exact .inr h) (fun _ _=>stop)
theorem w64 {x:Int} (h1: -9223372036854775808≤x) (h2:x≤9223372036854775807):IntKind.i64.wrap x=x:=IntWalk.i64_in x ⟨h1,h2⟩
theorem w8 {x:Int} (h1:0≤x) (h2:x≤255):IntKind.u8.wrap x=x:=IntWalk.u8_in x ⟨h1,h2⟩
theorem Ey6 {x:Int} (h1:0≤x) (h2:x≤18446744073709551615):IntKind.u64.wrap x=x:=by simp [IntKind.wrap,IntKind.bits,IntKind.signed];omega
theorem Fx0 {p:Prop} [Decidable p] (h:p):decide p=true:=decide_eq_true h
theorem Fx1 {p:Prop} [Decidable p] (h:¬p):decide p=false:=decide_eq_false h
theorem Cl8 (k:IntKind) (x y:Int):X.bin .add (.i k x) (.i k y)=some (.i k (k.wrap (x+y))):=by simp [X.bin,Ef]
theorem Ch7 (k:IntKind) (x y:Int):X.bin .sub (.i k x) (.i k y)=some (.i k (k.wrap (x - y))):=by simp [X.bin,Ef]
theorem Cl2 (k:IntKind) (x y:Int):X.bin .mul (.i k x) (.i k y)=some (.i k (k.wrap (x*y))):=by simp [X.bin,Ef]
theorem Cl0 (k:IntKind) (x y:Int):X.bin .quo (.i k x) (.i k y)=if y=0 then none else some (.i k (k.wrap (x.tdiv y))):=by simp [X.bin,Ef]
theorem Ch9 (k:IntKind) (x y:Int):X.bin .rem (.i k x) (.i k y)=if y=0 then none else some (.i k (x.tmod y)):=by simp [X.bin,Ef]
theorem Dq7 (k:IntKind) (x y:Int) (h:0≤x) (h':0<y):X.bin .quo (.i k x) (.i k y)=some (.i k (k.wrap (x / y))):=by rw [Cl0,if_neg (by omega),Int.tdiv_eq_ediv_of_nonneg h]
theorem Dq6 (k:IntKind) (x y:Int) (h:0≤x) (h':0<y):X.bin .rem (.i k x) (.i k y)=some (.i k (x % y)):=by rw [Ch9,if_neg (by omega),Int.tmod_eq_emod_of_nonneg h]
theorem wb (k:IntKind) (x y:Int):X.bin .and (.i k x) (.i k y)=some (.i k (k.wrap (BitVec.ofInt k.bits x &&& BitVec.ofInt k.bits y).toNat)):=by simp [X.bin,Ef]
theorem B8 (k:IntKind) (x y:Int):X.bin .andNot (.i k x) (.i k y)=some (.i k (k.wrap (BitVec.ofInt k.bits x &&& ~~~ BitVec.ofInt k.bits y).toNat)):=by simp [X.bin,Ef]
theorem Cl7 (k:IntKind) (x y:Int):X.bin .eql (.i k x) (.i k y)=some (.b (decide (x=y))):=by simp [X.bin,Ef];rfl
theorem Cl1 (k:IntKind) (x y:Int):X.bin .neq (.i k x) (.i k y)=some (.b (decide (x≠y))):=by simp [X.bin,Ef];by_cases h:x=y<;>simp [h]
theorem Cl3 (k:IntKind) (x y:Int):X.bin .lss (.i k x) (.i k y)=some (.b (decide (x<y))):=by simp [X.bin,Ef]
theorem Cl4 (k:IntKind) (x y:Int):X.bin .leq (.i k x) (.i k y)=some (.b (decide (x≤y))):=by simp [X.bin,Ef]
theorem Cl5 (k:IntKind) (x y:Int):X.bin .gtr (.i k x) (.i k y)=some (.b (decide (y<x))):=by simp [X.bin,Ef]
theorem Cl6 (k:IntKind) (x y:Int):X.bin .geq (.i k x) (.i k y)=some (.b (decide (y≤x))):=by simp [X.bin,Ef]
theorem Ch8 (k k':IntKind) (x y:Int):X.bin .shr (.i k x) (.i k' y)=if y<0 then none else some (.i k (x.fdiv (2 ^ (min y.toNat k.bits)))):=by simp [X.bin,Kt]
theorem Aw1 (k k':IntKind) (x:Int) (t:Nat) (h:t<k.bits):X.bin .shr (.i k x) (.i k' (t:Int))=some (.i k (x / 2 ^ t)):=by
 rw [Ch8,if_neg (by omega)];congr 2;have:min ((t:Int)).toNat k.bits=t:=by simp;omega
 rw [this,Int.fdiv_eq_ediv_of_nonneg];exact Int.le_of_lt (Int.pow_pos (by decide))
theorem Am3 (x y:List UInt8) (h:x.length+y.length≤9223372036854775807):X.bin .add (.s x) (.s y)=some (.s (x++y)):=by simp only [X.bin,Py];rw [if_neg];simp [IntKind.max,IntKind.bits,IntKind.signed];omega
theorem Am2 (x y:List UInt8):X.bin .eql (.s x) (.s y)=some (.b (decide (x=y))):=by simp only [X.bin,Py];by_cases h:x=y<;>simp [h]
theorem Al9 (x y:List UInt8):X.bin .neq (.s x) (.s y)=some (.b (decide (x≠y))):=by simp only [X.bin,Py];by_cases h:x=y<;>simp [h]
theorem Am0 (x y:List UInt8):X.bin .lss (.s x) (.s y)=some (.b (Op.bytesLess x y)):=rfl
theorem Am1 (x y:List UInt8):X.bin .gtr (.s x) (.s y)=some (.b (!(Op.bytesLess x y||x==y))):=rfl
theorem Cs3 (x:Bool):X.un .not (.b x)=some (.b (!x)):=rfl
theorem Cw9 (p:Prop) [Decidable p]:(!decide p)=decide (¬p):=by by_cases h:p<;>simp [h]
theorem Vp (sz:Nat) (xs:List PV) (k:IntKind) (z:Int) (h:0≤z):Hd sz (.l sz xs) (.i k z)=xs[z.toNat]? :=by simp [Hd,h]
theorem En6 (sz:Nat) (xs:List PV):Fq (.l sz xs)=some (.i .i64 (xs.length:Int)):=rfl
theorem Dk0 (x:List UInt8):Lh (.s x)=some (.i .i64 (x.length:Int)):=rfl
theorem Dk1 (x:List UInt8) (k:IntKind) (n:Int) (h:0≤n):Mt (.s x) (.i k n)=(x[n.toNat]?).map fun c=> .i .u8 (c.toNat:Int):=by simp [Mt,h]
theorem Eb7 (x:List UInt8) (k k':IntKind) (a b:Int) (h1:0≤a) (h2:a≤b) (h3:b≤(x.length:Int)):R9 (.s x) (.i k a) (.i k' b)=some (.s ((x.take b.toNat).drop a.toNat)):=by simp [R9,h1,h2,h3]
theorem nd (sz:Nat) (x:List PV) (k k':IntKind) (a b:Int) (h1:0≤a) (h2:a≤b) (h3:b≤(x.length:Int)):H1 sz (.l sz x) (.i k a) (.i k' b)=some (.l sz ((x.take b.toNat).drop a.toNat)):=by simp [H1,h1,h2,h3]
theorem Ox (sz:Nat) (xs ys:List PV) (h:xs.length+ys.length≤1073741824):Gs sz (.l sz xs) (.l sz ys)=some (.l sz (xs++ys)):=by simp [Gs,LIM,h]
theorem Ek7 (sz:Nat) (xs:List PV) (y:PV) (h:xs.length+1≤1073741824):Gs sz (.l sz xs) (.l sz [y])=some (.l sz (xs++[y])):=Ox sz xs [y] h
theorem Cz8 (sz:Nat):Jc sz []=some (.l sz []):=rfl
theorem Dk4 (x:List UInt8):Gw (.s x)=some (.s x):=rfl
theorem Dk6 (k:IntKind) (x:Int):Gw (.i k x)=some (.i k x):=rfl
theorem Dk8 (x:Bool):Gw (.b x)=some (.b x):=rfl
theorem Dk5 (sz:Nat) (x:List PV):Gw (.l sz x)=some (.l sz x):=rfl
theorem En4 (x:List UInt8):Jc 1 [.s x]=some (.l 1 [.s x]):=rfl
theorem Dq9 (x:List UInt8):Bc 0 (.s x)=some (.s x):=rfl
theorem Dv0 (k:IntKind) (x:Int):Bc 0 (.i k x)=some (.i k x):=rfl
theorem Dv2 (j:Nat) (cs:List PV):Bc j (.a cs)=cs[j]? :=rfl
theorem En1 (k:IntKind) (x y:Int) (h:x≤y):nb (.i k x) (.i k y)=some (.i k x):=by simp only [nb,if_true];rw [if_neg (by omega)]
theorem En2 (k:IntKind) (x y:Int) (h:y<x):nb (.i k x) (.i k y)=some (.i k y):=by simp only [nb,if_true];rw [if_pos h]
theorem En0 (k:IntKind) (x y:Int) (h:y≤x):Cy7 (.i k x) (.i k y)=some (.i k x):=by simp only [Cy7,if_true];rw [if_neg (by omega)]
theorem Em9 (k:IntKind) (x y:Int) (h:x<y):Cy7 (.i k x) (.i k y)=some (.i k y):=by simp only [Cy7,if_true];rw [if_pos (by omega)]
theorem Df4 (k k':IntKind) (x:Int):Yj k (.i k' x)=some (.i k (k.wrap x)):=rfl
theorem Cs5 (n:Nat):((n:Int)).toNat=n:=G3 n
theorem I3 (x:List UInt8):Wx (.l 1 (B5 x))=some (.s x):=by
 have:∀x:List UInt8,(x.map fun c=>PV.i .u8 (c.toNat:Int)).mapM byteOf? =some x:=by
  intro x
  induction x with
  |nil=>rfl
  |cons c r ih=>
   have hc:=c.toNat_lt;have h1:byteOf? (PV.i .u8 (c.toNat:Int))=some c:=by simp only [byteOf?];rw [if_pos (by omega)];simp
   simp [Gg,h1,ih]
 simp [Wx,B5,this]
theorem Em0 (x:List UInt8) (h:x.length≤1073741824):Y7 (.s x)=some (.l 1 (B5 x)):=by simp [Y7,LIM,h]
theorem v9 (x:List UInt8):(B5 x).length=x.length:=by simp [B5]
theorem En5 (k:IntKind) (x:Int):Jc 1 [.i k x]=some (.l 1 [.i k x]):=rfl
theorem Fv8 (x y:Bool):Is false false [.b] (.b x) (.b y)=some (.b (x==y)):=by simp [Is,PV.scal,E6,yy]
theorem Dw9 (x y:Bool):Is true false [.b] (.b x) (.b y)=some (.b (!(x==y))):=by simp [Is,PV.scal,E6,yy]
theorem der_pt (cs:List PV):cp (.pt cs)=some (.a cs):=by simp only [cp]
theorem scal_pt (cs:List PV):Gw (.pt cs)=some (.pt cs):=by simp [Gw,PV.scal]
theorem Cb6 (x y:PV):Mj 2 (.a [x,y])=some (.a [x,y]):=rfl
theorem Dz6 (x:Bool):PV.flat (.b x)=true:=rfl
theorem Dz5 (k:IntKind) (x:Int):PV.flat (.i k x)=true:=rfl
theorem Dz3 (x:List UInt8):PV.flat (.s x)=true:=rfl
theorem Dq5 (η:List PV) (x:PV):results false 1 η (some [x])=some (η++[x]):=rfl
theorem Dq4 (η:List PV) (x y:PV):results false 2 η (some [x,y])=some (η++[x,y]):=rfl
theorem Dq3 (η:List PV) (x y z:PV):results false 3 η (some [x,y,z])=some (η++[x,y,z]):=rfl
theorem Dq2 (η:List PV):results true 0 η (some [])=some (η++[]):=rfl
theorem Dq1 (η:List PV) (x:PV):results true 1 η (some [x])=if x.flat=true then some (η++[x]) else none:=by simp [results,PV.flat.flats]
theorem Dq0 (η:List PV) (x y:PV):results true 2 η (some [x,y])=if x.flat=true then (if y.flat=true then some (η++[x,y]) else none) else none:=by simp only [results,Aw,PV.flat.flats];by_cases h:x.flat=true<;>by_cases h':y.flat=true<;>simp [h,h']
end Go.X
namespace Go.X
open Go
theorem Cq8 {o:Option T} {t:T} (h:o.map T.slim=some t):∃t0,o=some t0∧t0.slim=t:=Av.1 h
def FOK (P:Program) (sig:Nat→Option Nat) (f:Nat) (ft:FT):Prop:=
 ∃ func H, P.funcs[f]? = some func ∧ (func.name == "runtime.NumGoroutine") = false ∧ dk sig f func = ft.np ∧ func.params.size < TAG ∧ func.nfree = ft.nf ∧ ∃ t, yv P sig f func H = some t ∧ t.slim = ft.t
def Fy3 (P:Program) (sig:Nat→Option Nat) (f a b:Nat) (H:Hints):Option T:=
 match P.funcs[f]? with
 |none=>none
 | some fu => if (fu.name == "runtime.NumGoroutine") = false ∧ dk sig f fu = a ∧ fu.params.size < TAG ∧ fu.nfree = b then (yv P sig f fu H).map T.slim else none
theorem fok {P:Program} {sig:Nat→Option Nat} {f a b:Nat} {t:T} (H:Hints) (h:Fy3 P sig f a b H=some t):FOK P sig f ⟨a,b,t⟩:=by
 unfold Fy3 at h;split at h
 ·exact nomatch h
 ·next fu hf=>
  split at h
  ·next hc=>
   obtain ⟨t0,h1,h2⟩:=Cq8 h;exact ⟨fu,H,hf,hc.1,hc.2.1,hc.2.2.1,hc.2.2.2,t0,h1,h2⟩
  ·exact nomatch h
def lkF:List (Nat×FT)→Nat→Option FT
 |[],_=>none
 |(k,t)::r,f=>if k=f then some t else lkF r f
def Fx6 (P:Program) (sig:Nat→Option Nat):List (Nat×FT)→Prop
 |[]=>True
 |p::r=>FOK P sig p.1 p.2∧Fx6 P sig r
def Eq4 (P:Program):List (Nat×Nat)→Prop
 |[]=>True
 |p::r=>(match c7 (some p.2) with|some (T,k)=>yq P p.1 T k|none=>True)∧Eq4 P r
theorem wx {P:Program}:∀{l:List (Nat×Nat)},Eq4 P l→Ew6 P (nn l)
 |[],_=>fun f T k h=>by simp [nn,c7] at h
 |p::r,hl=>fun f T k h=>by
  simp only [nn] at h;split at h
  ·rename_i e;subst e;have:=hl.1;rw [h] at this;exact this
  ·exact wx hl.2 f T k h
theorem Al8 {P:Program}:Eq4 P []:=trivial
theorem H4 {P:Program} {p:Nat×Nat} {r:List (Nat×Nat)} (h:c7 (some p.2)=none) (hr:Eq4 P r):Eq4 P (p::r):=⟨by rw [h];trivial,hr⟩
theorem eg {P : Program} {sig : Nat → Option Nat} : ∀ (l : List (Nat × FT)), Fx6 P sig l → ∀ f ft, lkF l f = some ft → ∃ func H, P.funcs[f]? = some func ∧ (func.name == "runtime.NumGoroutine") = false ∧ dk sig f func = ft.np ∧ func.params.size < TAG ∧ func.nfree = ft.nf ∧ ∃ t, yv P sig f func H = some t ∧ t.slim = ft.t
 |[],_=>fun f ft h=>by simp [lkF] at h
 |(k,t)::r,hl=>fun f ft h=>by
  simp only [lkF] at h;split at h
  ·rename_i e;injection h with h;subst h;subst e;exact hl.1
  ·exact eg r hl.2 f ft h
theorem Cs7 {P:Program} {sig:Nat→Option Nat} (l:List (Nat×FT)) (h:Fx6 P sig l) (hB:Ew6 P sig):Tab P sig (lkF l):=⟨eg l h,hB⟩
end Go.X
namespace Go.X
theorem U6 {α β:Type} (a:α) (f:α→Option β):(some a).bind f=f a:=by rw [Aw]
theorem U7 {α β:Type} (f:α→Option β):(none:Option α).bind f=none:=by rw [Option.bind_none]
theorem Zf {α β:Type} (a:α) (f:α→β):(some a).map f=some (f a):=by rw [As]
theorem Zg {α β:Type} (f:α→β):(none:Option α).map f=none:=by rw [Option.map_none]
theorem P5 {α:Type} (a:α) (l m:List α):(a::l)++m=a::(l++m):=by rw [Bt]
theorem Sb {α:Type} (m:List α):[]++m=m:=by rw [C1]
theorem Zm {α:Type} (a:α) (l:List α) (i:Nat):(a::l)[i+1]? =l[i]? :=by rw [Dz]
theorem Zl {α:Type} (a:α) (l:List α):(a::l)[0]? =some a:=by rw [Cr]
theorem Zh {α:Type} (a:α) (l:List α):(a::l).length=l.length+1:=by rw [Bq]
theorem gm {α:Type}:([]:List α).length=0:=by rw [Bd]
theorem Zd {α:Type} (a:α) (n:Nat):List.replicate (n+1) a=a::List.replicate n a:=by rw [List.replicate_succ]
theorem Zc {α:Type} (a:α):List.replicate 0 a=[]:=by rw [List.replicate_zero]
theorem gp {α β:Type} (f:α→β) (l:List α) (i:Nat):(l.map f)[i]? =l[i]?.map f:=by rw [Bb]
theorem gn {α β:Type} (f:α→β) (l:List α):(l.map f).length=l.length:=by rw [Hq]
set_option linter.defProp false
def EV:=(And.intro @U6 (And.intro @Zf (And.intro @U7 (And.intro @Zg (And.intro @P5 (And.intro @Sb (And.intro @Zm (And.intro @Zl (And.intro @Uk (And.intro @Bool.not_false (And.intro @Zh (And.intro @gm (And.intro @Zd (And.intro @Zc (And.intro @gp (And.intro @gn (And.intro @Bool.if_true_left (And.intro @Bool.if_false_right (And.intro @Bool.decide_eq_true (And.intro @Int.natCast_add (And.intro @Int.cast_ofNat_Int (And.intro @D1 (And.intro @decide_eq_true_eq (And.intro @Ab (And.intro @decide_true (And.intro @decide_false (And.intro @Fz8 (And.intro @Fz9 (And.intro @Dc4 (And.intro @Fv4 (And.intro @Db9 (And.intro @Cc9 (And.intro @Db2 (And.intro @Dc7 (And.intro @Dc1 (And.intro @Cc8 (And.intro @Dc0 (And.intro @ev_len (And.intro @Cc6 (And.intro @Cc7 (And.intro @Db3 (And.intro @Db7 (And.intro @Dc6 (And.intro @Db8 (And.intro @Db6 (And.intro @Db4 (And.intro @Cd2 (And.intro @Dc5 (And.intro @Db5 (And.intro @Dc2 (And.intro @Dc3 (And.intro @Fv6 (And.intro @Fv5 (And.intro @Cd1 (And.intro @Cd0 (And.intro @Cc5 (And.intro @Ah4 (And.intro @Al7 (And.intro @wk (And.intro @Fx5 (And.intro @Ck2 (And.intro @y8 (And.intro @ed (And.intro @d9 (And.intro @c6 (And.intro @Wk (And.intro @Cg7 (And.intro @Ck1 (And.intro @Dz1 (And.intro @Ck0 (And.intro @Al6 (And.intro @wj (And.intro @Fx4 (And.intro @Cj9 (And.intro @Cj8 (And.intro @Ck3 (And.intro @Cm3 (And.intro @Cm4 (And.intro @Cm2 (And.intro @w64 (And.intro @w8 (And.intro @Ey6 (And.intro @Dq7 (And.intro @Dq6 (And.intro @Fx0 (And.intro @Fx1 (And.intro @Cl8 (And.intro @Ch7 (And.intro @Cl2 (And.intro @Cl7 (And.intro @Cl1 (And.intro @Cl3 (And.intro @Cl4 (And.intro @Cl5 (And.intro @Cl6 (And.intro @Am3 (And.intro @Am2 (And.intro @Al9 (And.intro @Am0 (And.intro @Am1 (And.intro @Cs3 (And.intro @Cw9 (And.intro @Vp (And.intro @En6 (And.intro @Dk0 (And.intro @Dk1 (And.intro @Eb7 (And.intro @nd (And.intro @Ek7 (And.intro @Ox (And.intro @Cz8 (And.intro @En4 (And.intro @En5 (And.intro @I3 (And.intro @Em0 (And.intro @Dk4 (And.intro @Dk6 (And.intro @Dk8 (And.intro @Dk5 (And.intro @Dq9 (And.intro @Dv0 (And.intro @Dv2 (And.intro @En1 (And.intro @En2 (And.intro @En0 (And.intro @Em9 (And.intro @Fv8 (And.intro @Dw9 (And.intro @Cb6 (And.intro @Df4 (And.intro @Cs5 (And.intro @Dz6 (And.intro @Dz5 (And.intro @Dz3 (And.intro @Dq5 (And.intro @Dq4 (And.intro @Dq3 (And.intro @Dq2 (And.intro @Dq1 (And.intro @Dq0 (And.intro @Af2 (And.intro @Af1 (And.intro @oz (And.intro @Dz0 (And.intro @Dy9 (And.intro @Dy8 (And.intro @if_true.{1} (And.intro @if_false.{1} (And.intro @ne_eq.{1} (And.intro @not_true (And.intro @not_false_eq_true @Bool.true_eq_false)))))))))))))))))))))))))))))))))))))))))))))))))))))))))))))))))))))))))))))))))))))))))))))))))))))))))))))))))))))))))))))))))))))))))))))))))))))))
end Go.X
namespace Go.X
theorem ch2 (a0 a1:Bool):(a0=false)∨(a0=true∧a1=false)∨(a0=true∧a1=true):=by cases a0<;>cases a1<;>simp
theorem ch3 (a0 a1 a2:Bool):(a0=false)∨(a0=true∧a1=false)∨(a0=true∧a1=true∧a2=false)∨(a0=true∧a1=true∧a2=true):=by cases a0<;>cases a1<;>cases a2<;>simp
theorem ch4 (a0 a1 a2 a3:Bool):(a0=false)∨(a0=true∧a1=false)∨(a0=true∧a1=true∧a2=false)∨(a0=true∧a1=true∧a2=true∧a3=false)∨(a0=true∧a1=true∧a2=true∧a3=true):=by cases a0<;>cases a1<;>cases a2<;>cases a3<;>simp
theorem ch5 (a0 a1 a2 a3 a4:Bool):(a0=false)∨(a0=true∧a1=false)∨(a0=true∧a1=true∧a2=false)∨(a0=true∧a1=true∧a2=true∧a3=false)∨(a0=true∧a1=true∧a2=true∧a3=true∧a4=false)∨(a0=true∧a1=true∧a2=true∧a3=true∧a4=true):=by cases a0<;>cases a1<;>cases a2<;>cases a3<;>cases a4<;>simp
theorem ch6 (a0 a1 a2 a3 a4 a5:Bool):(a0=false)∨(a0=true∧a1=false)∨(a0=true∧a1=true∧a2=false)∨(a0=true∧a1=true∧a2=true∧a3=false)∨(a0=true∧a1=true∧a2=true∧a3=true∧a4=false)∨(a0=true∧a1=true∧a2=true∧a3=true∧a4=true∧a5=false)∨(a0=true∧a1=true∧a2=true∧a3=true∧a4=true∧a5=true):=by
 cases a0
 ·exact .inl rfl
 ·rcases ch5 a1 a2 a3 a4 a5 with h|h|h|h|h|h
  ·exact .inr (.inl ⟨rfl,h⟩)
  ·exact .inr (.inr (.inl ⟨rfl,h⟩))
  ·exact .inr (.inr (.inr (.inl ⟨rfl,h⟩)))
  ·exact .inr (.inr (.inr (.inr (.inl ⟨rfl,h⟩))))
  ·exact .inr (.inr (.inr (.inr (.inr (.inl ⟨rfl,h⟩)))))
  ·exact .inr (.inr (.inr (.inr (.inr (.inr (⟨rfl,h⟩))))))
theorem ch7 (a0 a1 a2 a3 a4 a5 a6:Bool):(a0=false)∨(a0=true∧a1=false)∨(a0=true∧a1=true∧a2=false)∨(a0=true∧a1=true∧a2=true∧a3=false)∨(a0=true∧a1=true∧a2=true∧a3=true∧a4=false)∨(a0=true∧a1=true∧a2=true∧a3=true∧a4=true∧a5=false)∨(a0=true∧a1=true∧a2=true∧a3=true∧a4=true∧a5=true∧a6=false)∨(a0=true∧a1=true∧a2=true∧a3=true∧a4=true∧a5=true∧a6=true):=by
 cases a0
 ·exact .inl rfl
 ·rcases ch6 a1 a2 a3 a4 a5 a6 with h|h|h|h|h|h|h
  ·exact .inr (.inl ⟨rfl,h⟩)
  ·exact .inr (.inr (.inl ⟨rfl,h⟩))
  ·exact .inr (.inr (.inr (.inl ⟨rfl,h⟩)))
  ·exact .inr (.inr (.inr (.inr (.inl ⟨rfl,h⟩))))
  ·exact .inr (.inr (.inr (.inr (.inr (.inl ⟨rfl,h⟩)))))
  ·exact .inr (.inr (.inr (.inr (.inr (.inr (.inl ⟨rfl,h⟩))))))
  ·exact .inr (.inr (.inr (.inr (.inr (.inr (.inr (⟨rfl,h⟩)))))))
theorem ch8 (a0 a1 a2 a3 a4 a5 a6 a7:Bool):(a0=false)∨(a0=true∧a1=false)∨(a0=true∧a1=true∧a2=false)∨(a0=true∧a1=true∧a2=true∧a3=false)∨(a0=true∧a1=true∧a2=true∧a3=true∧a4=false)∨(a0=true∧a1=true∧a2=true∧a3=true∧a4=true∧a5=false)∨(a0=true∧a1=true∧a2=true∧a3=true∧a4=true∧a5=true∧a6=false)∨(a0=true∧a1=true∧a2=true∧a3=true∧a4=true∧a5=true∧a6=true∧a7=false)∨(a0=true∧a1=true∧a2=true∧a3=true∧a4=true∧a5=true∧a6=true∧a7=true):=by
 cases a0
 ·exact .inl rfl
 ·rcases ch7 a1 a2 a3 a4 a5 a6 a7 with h|h|h|h|h|h|h|h
  ·exact .inr (.inl ⟨rfl,h⟩)
  ·exact .inr (.inr (.inl ⟨rfl,h⟩))
  ·exact .inr (.inr (.inr (.inl ⟨rfl,h⟩)))
  ·exact .inr (.inr (.inr (.inr (.inl ⟨rfl,h⟩))))
  ·exact .inr (.inr (.inr (.inr (.inr (.inl ⟨rfl,h⟩)))))
  ·exact .inr (.inr (.inr (.inr (.inr (.inr (.inl ⟨rfl,h⟩))))))
  ·exact .inr (.inr (.inr (.inr (.inr (.inr (.inr (.inl ⟨rfl,h⟩)))))))
  ·exact .inr (.inr (.inr (.inr (.inr (.inr (.inr (.inr (⟨rfl,h⟩))))))))
theorem ch9 (a0 a1 a2 a3 a4 a5 a6 a7 a8:Bool):(a0=false)∨(a0=true∧a1=false)∨(a0=true∧a1=true∧a2=false)∨(a0=true∧a1=true∧a2=true∧a3=false)∨(a0=true∧a1=true∧a2=true∧a3=true∧a4=false)∨(a0=true∧a1=true∧a2=true∧a3=true∧a4=true∧a5=false)∨(a0=true∧a1=true∧a2=true∧a3=true∧a4=true∧a5=true∧a6=false)∨(a0=true∧a1=true∧a2=true∧a3=true∧a4=true∧a5=true∧a6=true∧a7=false)∨(a0=true∧a1=true∧a2=true∧a3=true∧a4=true∧a5=true∧a6=true∧a7=true∧a8=false)∨(a0=true∧a1=true∧a2=true∧a3=true∧a4=true∧a5=true∧a6=true∧a7=true∧a8=true):=by
 cases a0
 ·exact .inl rfl
 ·rcases ch8 a1 a2 a3 a4 a5 a6 a7 a8 with h|h|h|h|h|h|h|h|h
  ·exact .inr (.inl ⟨rfl,h⟩)
  ·exact .inr (.inr (.inl ⟨rfl,h⟩))
  ·exact .inr (.inr (.inr (.inl ⟨rfl,h⟩)))
  ·exact .inr (.inr (.inr (.inr (.inl ⟨rfl,h⟩))))
  ·exact .inr (.inr (.inr (.inr (.inr (.inl ⟨rfl,h⟩)))))
  ·exact .inr (.inr (.inr (.inr (.inr (.inr (.inl ⟨rfl,h⟩))))))
  ·exact .inr (.inr (.inr (.inr (.inr (.inr (.inr (.inl ⟨rfl,h⟩)))))))
  ·exact .inr (.inr (.inr (.inr (.inr (.inr (.inr (.inr (.inl ⟨rfl,h⟩))))))))
  ·exact .inr (.inr (.inr (.inr (.inr (.inr (.inr (.inr (.inr (⟨rfl,h⟩)))))))))
end Go.X
