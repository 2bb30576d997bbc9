/- Residual programs without the checks that what follows makes by itself. -/
import Derived.Test.YtdljoocpdjbhfaaDoorTrustInsidesG0
import Derived.Test.YtdljoocpdjbhfaaDoorTrustInsidesG3
import Derived.Lib.Bytealg
import Derived.Shelf.SlSortCmp.NoneTotal
import GoSem.ClaimChange
import Derived.WideShapes
import Derived.ChangeShapes
import Derived.OpenShut
import Derived.Carry
import Derived.SizedLaws
import Derived.IntWalk
open Array renaming getElem?_toList→Ab,getD_eq_getD_getElem?→An,length_toList→A7,getElem?_append_left→Bt,getElem?_eq_getElem→B8
open Bool renaming and_eq_true→Ax,false_eq_true→Ay,or_eq_true→Ah,not_eq_true'→Bp,or_eq_false_iff→Tt,not_true→sn
open Int renaming toNat_natCast→Qb
open List renaming getElem?_eq_some_iff→Az,getElem?_eq_getElem→Ac,getElem?_take→Ap,getElem?_append_right→Ar,getElem?_append_left→As,append_assoc→A2,length_append→A3,getD_eq_getElem?_getD→A4,eq_nil_of_length_eq_zero→A6,getElem?_drop→A9,getElem?_map→Bj,getElem?_range→Bb,all_eq_true→Bs,getElem?_cons_zero→B1,length_pos_iff→B5,getElem?_cons_succ→Cm,length_cons→Dj,mem_range→Db,mapM_cons→Ew,getElem?_replicate→Ed,cons_append→Fy,drop_eq_getElem_cons→Gm,getElem?_of_mem→G3,drop_eq_nil_of_le→Lw,length_nil→Mm,length_range→Qz,drop_zero→Ts
open Nat renaming le_refl→Af,add_mul→By,zero_le→B4,add_zero→Cz,zero_add→Ch,lt_of_lt_of_le→Cn,mod_eq_of_lt→C0,one_mul→C2,le_max_right→Yd,le_max_left→zz
open Option renaming bind_eq_some_iff→Aj,map_eq_some_iff→Aq,bind_some→Av,map_some→Am,isNone_iff_eq_none→Bz,isSome_iff_exists→Bc,bind_eq_bind→Ip,pure_def→Mg,isSome_none→z7
open Option.some renaming injEq→Ak
set_option maxHeartbeats 1000000
set_option linter.unusedVariables false
set_option linter.unusedSimpArgs false
namespace Go.X
open Go
def E.triv:E→Bool
 | .c _=>true
 |_=>false
mutual
def cov (a:E):E→Bool
 | .v n=>E.same a (.v n)||a.triv
 | .c x=>E.same a (.c x)||a.triv
 | .bin op x y=>E.same a (.bin op x y)||a.triv||cov a x||cov a y
 | .un op x=>E.same a (.un op x)||a.triv||cov a x
 | .ite g x y=>a.triv||cov a g||(cov a x && cov a y)||E.same a (.ite g x y)||
    (match a with
     | .ite (.un .not h) p q=>(h.same g && cov p y && cov q x)||((E.un .not h).same g && cov p x && cov q y)
     | .ite h p q=>h.same g && cov p x && cov q y
     |_=>false)
 | .proj j x=>E.same a (.proj j x)||a.triv||cov a x
 | .sub o n x=>E.same a (.sub o n x)||a.triv||cov a x
 | .agg xs=>E.same a (.agg xs)||a.triv||Rq a xs
 | .fit n x=>E.same a (.fit n x)||a.triv||cov a x
 | .scal x=>E.same a (.scal x)||a.triv||cov a x
 | .idx sz x i=>E.same a (.idx sz x i)||a.triv||cov a x||cov a i
 | .len x=>E.same a (.len x)||a.triv||cov a x
 | .slen x=>E.same a (.slen x)||a.triv||cov a x
 | .sidx x i=>E.same a (.sidx x i)||a.triv||cov a x||cov a i
 | .ssl x lo hi=>E.same a (.ssl x lo hi)||a.triv||cov a x||cov a lo||cov a hi
 | .lsl sz x lo hi=>E.same a (.lsl sz x lo hi)||a.triv||cov a x||cov a lo||cov a hi
 | .app sz x y=>E.same a (.app sz x y)||a.triv||cov a x||cov a y
 | .lit sz xs=>E.same a (.lit sz xs)||a.triv||Rq a xs
 | .rep sz n z=>E.same a (.rep sz n z)||a.triv||cov a n||cov a z
 | .set sz x i off vs=>E.same a (.set sz x i off vs)||a.triv||cov a x||cov a i||Rq a vs
 | .conv k x=>E.same a (.conv k x)||a.triv||cov a x
 | .b2s x=>E.same a (.b2s x)||a.triv||cov a x
 | .s2b x=>E.same a (.s2b x)||a.triv||cov a x
 | .eqs n g ts x y=>E.same a (.eqs n g ts x y)||a.triv||cov a x||cov a y
 | .clo g caps=>E.same a (.clo g caps)||a.triv||Rq a caps
 | .mn x y=>E.same a (.mn x y)||a.triv||cov a x||cov a y
 | .mx x y=>E.same a (.mx x y)||a.triv||cov a x||cov a y
 | .mget x k z=>E.same a (.mget x k z)||a.triv||cov a x||cov a k||cov a z
 | .mset x k v=>E.same a (.mset x k v)||a.triv||cov a x||cov a k||cov a v
 | .der x=>E.same a (.der x)||a.triv||cov a x
 | .mkp o x=>E.same a (.mkp o x)||a.triv||cov a x
def Rq (a:E):List E→Bool
 |[]=>false
 |x::xs=>cov a x||Rq a xs
end
theorem B9 {a:E} {η:List PV} (h:a.triv=true):(a.ev η).isSome=true:=by cases a<;>simp [E.triv] at h;simp [E.ev]
theorem Bl {a b:E} {η:List PV} {p:PV} (h:E.same a b=true) (e:b.ev η=some p):(a.ev η).isSome=true:=by rw [E.same_eq _ _ h,e];rfl
mutual
theorem Br {η:List PV} (a:E):∀(b:E) (p:PV),cov a b=true→b.ev η=some p→(a.ev η).isSome=true
 | .v n,p,h,e=>by
   simp only [cov,Ah] at h;rcases h with h|h
   ·exact Bl h e
   ·exact B9 h
 | .c x,p,h,e=>by
   simp only [cov,Ah] at h;rcases h with h|h
   ·exact Bl h e
   ·exact B9 h
 | .bin op x y,p,h,e=>by
   simp only [cov,Ah] at h;rcases h with ((h|h)|h)|h
   ·exact Bl h e
   ·exact B9 h
   ·simp only [E.ev] at e;obtain ⟨q0,hq0,e0⟩:=Aj.1 e;exact Br a x _ h hq0
   ·simp only [E.ev] at e;obtain ⟨q0,hq0,e0⟩:=Aj.1 e;obtain ⟨q1,hq1,e1⟩:=Aj.1 e0;exact Br a y _ h hq1
 | .un op x,p,h,e=>by
   simp only [cov,Ah] at h;rcases h with (h|h)|h
   ·exact Bl h e
   ·exact B9 h
   ·simp only [E.ev] at e;obtain ⟨q0,hq0,e0⟩:=Aj.1 e;exact Br a x _ h hq0
 | .ite g x y,p,h,e=>by
   have e0:=e;simp only [E.ev] at e;obtain ⟨r,hg,e1⟩:=Aj.1 e;have key:∀(h' p' q':E),(∀b,g.ev η=some (.b b)→h'.ev η=some (.b b))→cov p' x=true→cov q' y=true→((E.ite h' p' q').ev η).isSome=true:=by
    intro h' p' q' hh hp hq;simp only [E.ev];split at e1
    ·rw [hh true hg];simp only [Av];exact Br p' x _ hp e1
    ·rw [hh false hg];simp only [Av];exact Br q' y _ hq e1
    ·cases e1
   have keyN:∀(h' p' q':E),(∀b,g.ev η=some (.b b)→h'.ev η=some (.b b))→cov p' y=true→cov q' x=true→((E.ite (.un .not h') p' q').ev η).isSome=true:=by
    intro h' p' q' hh hp hq;simp only [E.ev];split at e1
    ·rw [hh true hg];simp only [Av,X.un,sn];exact Br q' x _ hq e1
    ·rw [hh false hg];simp only [Av,X.un,Bool.not_false];exact Br p' y _ hp e1
    ·cases e1
   simp only [cov,Ah] at h;rcases h with (((h|h)|h)|h)|h
   ·exact B9 h
   ·exact Br a g _ h hg
   ·simp only [Ax] at h;split at e1
    ·exact Br a x _ h.1 e1
    ·exact Br a y _ h.2 e1
    ·cases e1
   ·exact Bl h e0
   ·split at h
    ·simp only [Ah,Ax] at h;rcases h with h|h
     ·exact keyN _ _ _ (fun b hb=>by rw [E.same_eq _ _ h.1.1];exact hb) h.1.2 h.2
     ·exact key _ _ _ (fun b hb=>by rw [E.same_eq _ _ h.1.1];exact hb) h.1.2 h.2
    ·simp only [Ax] at h;exact key _ _ _ (fun b hb=>by rw [E.same_eq _ _ h.1.1];exact hb) h.1.2 h.2
    ·cases h
 | .proj j x,p,h,e=>by
   simp only [cov,Ah] at h;rcases h with (h|h)|h
   ·exact Bl h e
   ·exact B9 h
   ·simp only [E.ev] at e;obtain ⟨q0,hq0,e0⟩:=Aj.1 e;exact Br a x _ h hq0
 | .sub o n x,p,h,e=>by
   simp only [cov,Ah] at h;rcases h with (h|h)|h
   ·exact Bl h e
   ·exact B9 h
   ·simp only [E.ev] at e;obtain ⟨q0,hq0,e0⟩:=Aj.1 e;exact Br a x _ h hq0
 | .agg xs,p,h,e=>by
   simp only [cov,Ah] at h;rcases h with (h|h)|h
   ·exact Bl h e
   ·exact B9 h
   ·simp only [E.ev] at e;obtain ⟨q0,hq0,e0⟩:=Aq.1 e;exact Ez a xs _ h hq0
 | .fit n x,p,h,e=>by
   simp only [cov,Ah] at h;rcases h with (h|h)|h
   ·exact Bl h e
   ·exact B9 h
   ·simp only [E.ev] at e;obtain ⟨q0,hq0,e0⟩:=Aj.1 e;exact Br a x _ h hq0
 | .scal x,p,h,e=>by
   simp only [cov,Ah] at h;rcases h with (h|h)|h
   ·exact Bl h e
   ·exact B9 h
   ·simp only [E.ev] at e;obtain ⟨q0,hq0,e0⟩:=Aj.1 e;exact Br a x _ h hq0
 | .idx sz x i,p,h,e=>by
   simp only [cov,Ah] at h;rcases h with ((h|h)|h)|h
   ·exact Bl h e
   ·exact B9 h
   ·simp only [E.ev] at e;obtain ⟨q0,hq0,e0⟩:=Aj.1 e;exact Br a x _ h hq0
   ·simp only [E.ev] at e;obtain ⟨q0,hq0,e0⟩:=Aj.1 e;obtain ⟨q1,hq1,e1⟩:=Aj.1 e0;exact Br a i _ h hq1
 | .len x,p,h,e=>by
   simp only [cov,Ah] at h;rcases h with (h|h)|h
   ·exact Bl h e
   ·exact B9 h
   ·simp only [E.ev] at e;obtain ⟨q0,hq0,e0⟩:=Aj.1 e;exact Br a x _ h hq0
 | .slen x,p,h,e=>by
   simp only [cov,Ah] at h;rcases h with (h|h)|h
   ·exact Bl h e
   ·exact B9 h
   ·simp only [E.ev] at e;obtain ⟨q0,hq0,e0⟩:=Aj.1 e;exact Br a x _ h hq0
 | .sidx x i,p,h,e=>by
   simp only [cov,Ah] at h;rcases h with ((h|h)|h)|h
   ·exact Bl h e
   ·exact B9 h
   ·simp only [E.ev] at e;obtain ⟨q0,hq0,e0⟩:=Aj.1 e;exact Br a x _ h hq0
   ·simp only [E.ev] at e;obtain ⟨q0,hq0,e0⟩:=Aj.1 e;obtain ⟨q1,hq1,e1⟩:=Aj.1 e0;exact Br a i _ h hq1
 | .ssl x lo hi,p,h,e=>by
   simp only [cov,Ah] at h;rcases h with (((h|h)|h)|h)|h
   ·exact Bl h e
   ·exact B9 h
   ·simp only [E.ev] at e;obtain ⟨q0,hq0,e0⟩:=Aj.1 e;exact Br a x _ h hq0
   ·simp only [E.ev] at e;obtain ⟨q0,hq0,e0⟩:=Aj.1 e;obtain ⟨q1,hq1,e1⟩:=Aj.1 e0;exact Br a lo _ h hq1
   ·simp only [E.ev] at e;obtain ⟨q0,hq0,e0⟩:=Aj.1 e;obtain ⟨q1,hq1,e1⟩:=Aj.1 e0;obtain ⟨q2,hq2,e2⟩:=Aj.1 e1;exact Br a hi _ h hq2
 | .lsl sz x lo hi,p,h,e=>by
   simp only [cov,Ah] at h;rcases h with (((h|h)|h)|h)|h
   ·exact Bl h e
   ·exact B9 h
   ·simp only [E.ev] at e;obtain ⟨q0,hq0,e0⟩:=Aj.1 e;exact Br a x _ h hq0
   ·simp only [E.ev] at e;obtain ⟨q0,hq0,e0⟩:=Aj.1 e;obtain ⟨q1,hq1,e1⟩:=Aj.1 e0;exact Br a lo _ h hq1
   ·simp only [E.ev] at e;obtain ⟨q0,hq0,e0⟩:=Aj.1 e;obtain ⟨q1,hq1,e1⟩:=Aj.1 e0;obtain ⟨q2,hq2,e2⟩:=Aj.1 e1;exact Br a hi _ h hq2
 | .app sz x y,p,h,e=>by
   simp only [cov,Ah] at h;rcases h with ((h|h)|h)|h
   ·exact Bl h e
   ·exact B9 h
   ·simp only [E.ev] at e;obtain ⟨q0,hq0,e0⟩:=Aj.1 e;exact Br a x _ h hq0
   ·simp only [E.ev] at e;obtain ⟨q0,hq0,e0⟩:=Aj.1 e;obtain ⟨q1,hq1,e1⟩:=Aj.1 e0;exact Br a y _ h hq1
 | .lit sz xs,p,h,e=>by
   simp only [cov,Ah] at h;rcases h with (h|h)|h
   ·exact Bl h e
   ·exact B9 h
   ·simp only [E.ev] at e;obtain ⟨q0,hq0,e0⟩:=Aj.1 e;exact Ez a xs _ h hq0
 | .rep sz n z,p,h,e=>by
   simp only [cov,Ah] at h;rcases h with ((h|h)|h)|h
   ·exact Bl h e
   ·exact B9 h
   ·simp only [E.ev] at e;obtain ⟨q0,hq0,e0⟩:=Aj.1 e;exact Br a n _ h hq0
   ·simp only [E.ev] at e;obtain ⟨q0,hq0,e0⟩:=Aj.1 e;obtain ⟨q1,hq1,e1⟩:=Aj.1 e0;exact Br a z _ h hq1
 | .set sz x i off vs,p,h,e=>by
   simp only [cov,Ah] at h;rcases h with (((h|h)|h)|h)|h
   ·exact Bl h e
   ·exact B9 h
   ·simp only [E.ev] at e;obtain ⟨q0,hq0,e0⟩:=Aj.1 e;exact Br a x _ h hq0
   ·simp only [E.ev] at e;obtain ⟨q0,hq0,e0⟩:=Aj.1 e;obtain ⟨q1,hq1,e1⟩:=Aj.1 e0;exact Br a i _ h hq1
   ·simp only [E.ev] at e;obtain ⟨q0,hq0,e0⟩:=Aj.1 e;obtain ⟨q1,hq1,e1⟩:=Aj.1 e0;obtain ⟨q2,hq2,e2⟩:=Aj.1 e1;exact Ez a vs _ h hq2
 | .conv k x,p,h,e=>by
   simp only [cov,Ah] at h;rcases h with (h|h)|h
   ·exact Bl h e
   ·exact B9 h
   ·simp only [E.ev] at e;obtain ⟨q0,hq0,e0⟩:=Aj.1 e;exact Br a x _ h hq0
 | .b2s x,p,h,e=>by
   simp only [cov,Ah] at h;rcases h with (h|h)|h
   ·exact Bl h e
   ·exact B9 h
   ·simp only [E.ev] at e;obtain ⟨q0,hq0,e0⟩:=Aj.1 e;exact Br a x _ h hq0
 | .s2b x,p,h,e=>by
   simp only [cov,Ah] at h;rcases h with (h|h)|h
   ·exact Bl h e
   ·exact B9 h
   ·simp only [E.ev] at e;obtain ⟨q0,hq0,e0⟩:=Aj.1 e;exact Br a x _ h hq0
 | .eqs n g ts x y,p,h,e=>by
   simp only [cov,Ah] at h;rcases h with ((h|h)|h)|h
   ·exact Bl h e
   ·exact B9 h
   ·simp only [E.ev] at e;obtain ⟨q0,hq0,e0⟩:=Aj.1 e;exact Br a x _ h hq0
   ·simp only [E.ev] at e;obtain ⟨q0,hq0,e0⟩:=Aj.1 e;obtain ⟨q1,hq1,e1⟩:=Aj.1 e0;exact Br a y _ h hq1
 | .clo g caps,p,h,e=>by
   simp only [cov,Ah] at h;rcases h with (h|h)|h
   ·exact Bl h e
   ·exact B9 h
   ·simp only [E.ev] at e;obtain ⟨q0,hq0,e0⟩:=Aq.1 e;exact Ez a caps _ h hq0
 | .mn x y,p,h,e=>by
   simp only [cov,Ah] at h;rcases h with ((h|h)|h)|h
   ·exact Bl h e
   ·exact B9 h
   ·simp only [E.ev] at e;obtain ⟨q0,hq0,e0⟩:=Aj.1 e;exact Br a x _ h hq0
   ·simp only [E.ev] at e;obtain ⟨q0,hq0,e0⟩:=Aj.1 e;obtain ⟨q1,hq1,e1⟩:=Aj.1 e0;exact Br a y _ h hq1
 | .mx x y,p,h,e=>by
   simp only [cov,Ah] at h;rcases h with ((h|h)|h)|h
   ·exact Bl h e
   ·exact B9 h
   ·simp only [E.ev] at e;obtain ⟨q0,hq0,e0⟩:=Aj.1 e;exact Br a x _ h hq0
   ·simp only [E.ev] at e;obtain ⟨q0,hq0,e0⟩:=Aj.1 e;obtain ⟨q1,hq1,e1⟩:=Aj.1 e0;exact Br a y _ h hq1
 | .mget x k z,p,h,e=>by
   simp only [cov,Ah] at h;rcases h with (((h|h)|h)|h)|h
   ·exact Bl h e
   ·exact B9 h
   ·simp only [E.ev] at e;obtain ⟨q0,hq0,e0⟩:=Aj.1 e;exact Br a x _ h hq0
   ·simp only [E.ev] at e;obtain ⟨q0,hq0,e0⟩:=Aj.1 e;obtain ⟨q1,hq1,e1⟩:=Aj.1 e0;exact Br a k _ h hq1
   ·simp only [E.ev] at e;obtain ⟨q0,hq0,e0⟩:=Aj.1 e;obtain ⟨q1,hq1,e1⟩:=Aj.1 e0;obtain ⟨q2,hq2,e2⟩:=Aj.1 e1;exact Br a z _ h hq2
 | .mset x k v,p,h,e=>by
   simp only [cov,Ah] at h;rcases h with (((h|h)|h)|h)|h
   ·exact Bl h e
   ·exact B9 h
   ·simp only [E.ev] at e;obtain ⟨q0,hq0,e0⟩:=Aj.1 e;exact Br a x _ h hq0
   ·simp only [E.ev] at e;obtain ⟨q0,hq0,e0⟩:=Aj.1 e;obtain ⟨q1,hq1,e1⟩:=Aj.1 e0;exact Br a k _ h hq1
   ·simp only [E.ev] at e;obtain ⟨q0,hq0,e0⟩:=Aj.1 e;obtain ⟨q1,hq1,e1⟩:=Aj.1 e0;obtain ⟨q2,hq2,e2⟩:=Aj.1 e1;exact Br a v _ h hq2
 | .der x,p,h,e| .mkp _ x,p,h,e=>by
   simp only [cov,Ah] at h;rcases h with (h|h)|h
   ·exact Bl h e
   ·exact B9 h
   ·simp only [E.ev] at e;obtain ⟨q0,hq0,e0⟩:=Aj.1 e;exact Br a x _ h hq0
theorem Ez {η:List PV} (a:E):∀(bs:List E) (ps:List PV),Rq a bs=true→E.evs η bs=some ps→(a.ev η).isSome=true
 |[],ps,h,e=>by simp [Rq] at h
 |b::bs,ps,h,e=>by
  simp only [Rq,Ah] at h;simp only [E.evs] at e;obtain ⟨q,hq,e1⟩:=Aj.1 e;obtain ⟨qs,hqs,e2⟩:=Aq.1 e1;rcases h with h|h
  ·exact Br a b _ h hq
  ·exact Ez a bs _ h hqs
end
def D4 (a:E):T→Bool
 | .w (.chk x) k=>cov a x||D4 a k
 | .w (.call none _ _ ar _) _=>Rq a ar
 | .w (.call (some g) _ _ _ _) _=>cov a g
 | .w (.clo none _ c ar _) _=>cov a c||Rq a ar
 | .w (.clo (some g) _ _ _ _) _=>cov a g
 | .w (.mcall _ ar) _=>Rq a ar
 | .ite c t e=>cov a c||(D4 a t && D4 a e)
 | .ret es=>Rq a es
 | .yld _ es=>Rq a es
 | .blk _ body _=>D4 a body
 | .loop _ init _=>Rq a init
theorem F3 {fn:Fns} {N:Nat} {η:List PV} (a:E):∀(t:T) (o:Out),D4 a t=true→t.ev fn N η=some o→(a.ev η).isSome=true
 | .w (.chk x) k,o,h,e=>by
   simp only [D4,Ah] at h;simp only [T.ev,W.ev] at e;obtain ⟨η',h1,h2⟩:=Aj.1 e;obtain ⟨p,hp,rfl⟩:=Aq.1 h1;rcases h with h|h
   ·exact Br a x _ h hp
   ·exact F3 a k _ h h2
 | .w (.call none fl f ar m) k,o,h,e=>by simp only [D4] at h;simp only [T.ev,W.ev,Cr] at e;obtain ⟨η',h1,h2⟩:=Aj.1 e;obtain ⟨p,hp,_⟩:=Aj.1 h1;exact Ez a ar _ h hp
 | .w (.call (some g) fl f ar m) k,o,h,e=>by simp only [D4] at h;simp only [T.ev,W.ev,Cr] at e;obtain ⟨η',h1,h2⟩:=Aj.1 e;obtain ⟨p,hp,_⟩:=Aj.1 h1;exact Br a g _ h hp
 | .w (.clo none fl c ar m) k,o,h,e=>by
   simp only [D4,Ah] at h;simp only [T.ev,W.ev,Cr] at e;obtain ⟨η',h1,h2⟩:=Aj.1 e;obtain ⟨p,hp,h3⟩:=Aj.1 h1;obtain ⟨q,hq,_⟩:=Aj.1 h3;rcases h with h|h
   ·exact Br a c _ h hp
   ·exact Ez a ar _ h hq
 | .w (.clo (some g) fl c ar m) k,o,h,e=>by simp only [D4] at h;simp only [T.ev,W.ev,Cr] at e;obtain ⟨η',h1,h2⟩:=Aj.1 e;obtain ⟨p,hp,_⟩:=Aj.1 h1;exact Br a g _ h hp
 | .w (.mcall f ar) k,o,h,e=>by simp only [D4] at h;simp only [T.ev,W.ev] at e;obtain ⟨η',h1,h2⟩:=Aj.1 e;obtain ⟨p,hp,_⟩:=Aj.1 h1;exact Ez a ar _ h hp
 | .ite c t f,o,h,e=>by
   simp only [D4,Ah,Ax] at h;simp only [T.ev] at e;obtain ⟨r,h1,h2⟩:=Aj.1 e;rcases h with h|h
   ·exact Br a c _ h h1
   ·split at h2
    ·exact F3 a t _ h.1 h2
    ·exact F3 a f _ h.2 h2
    ·cases h2
 | .ret es,o,h,e=>by simp only [D4] at h;simp only [T.ev] at e;obtain ⟨ps,hp,_⟩:=Aq.1 e;exact Ez a es _ h hp
 | .yld id es,o,h,e=>by simp only [D4] at h;simp only [T.ev] at e;obtain ⟨ps,hp,_⟩:=Aq.1 e;exact Ez a es _ h hp
 | .blk id body k,o,h,e=>by simp only [D4] at h;simp only [T.ev] at e;obtain ⟨o1,h1,_⟩:=Aj.1 e;exact F3 a body _ h h1
 | .loop id init body,o,h,e=>by simp only [D4] at h;simp only [T.ev] at e;obtain ⟨ps,hp,_⟩:=Aj.1 e;exact Ez a init _ h hp
def T.slim:T→T
 | .w (.chk x) k=>if D4 x k.slim then k.slim else .w (.chk x) k.slim
 | .w x k=> .w x k.slim
 | .ite c t e=> .ite c t.slim e.slim
 | .ret es=> .ret es
 | .yld id es=> .yld id es
 | .blk id body k=> .blk id body.slim k.slim
 | .loop id init body=> .loop id init body.slim
theorem Dp {fn:Fns} {N:Nat}:∀(t:T) (η:List PV),t.slim.ev fn N η=t.ev fn N η
 | .w (.chk x) k,η=>by
   simp only [T.slim];split
   ·rename_i h;rw [Dp k η];simp only [T.ev,W.ev];cases hx:x.ev η with
    |some p=>rfl
    |none=>
     cases hk:k.ev fn N η with
     |none=>rfl
     |some o=>
      rw [←Dp k η] at hk;have:=F3 x k.slim o h hk;rw [hx] at this;cases this
   ·simp only [T.ev,W.ev];cases hx:x.ev η with
    |some p=>exact Dp k η
    |none=>rfl
 | .w (.call g fl f ar m) k,η=>by simp only [T.slim,T.ev];congr 1;funext η';exact Dp k η'
 | .w (.clo g fl c ar m) k,η=>by simp only [T.slim,T.ev];congr 1;funext η';exact Dp k η'
 | .w (.mcall f ar) k,η=>by simp only [T.slim,T.ev];congr 1;funext η';exact Dp k η'
 | .ite c t e,η=>by simp only [T.slim,T.ev,Dp t η,Dp e η]
 | .ret es,η=>rfl
 | .yld id es,η=>rfl
 | .blk id body k,η=>by
   simp only [T.slim,T.ev,Dp body η];congr 1;funext o;cases o with
   |ret vs=>rfl
   |yld j vs=>simp only [Dp k (η++vs)]
 | .loop id init body,η=>by
   simp only [T.slim,T.ev];congr 1;funext st;have:(fun vs=>body.slim.ev fn N (η++vs))=fun vs=>body.ev fn N (η++vs):=by funext vs;exact Dp body (η++vs)
   rw [this]
end Go.X
/- Functions. -/
namespace Go.X
open Go Go.RowKit
section
variable {P:Program} {sig:Nat→Option Nat} {fn:Fns} {w0:Fr} {Oe:Nat→Option Nat} {N:Nat}
theorem Z6 {func:Func} {args:List PV} {w:World} {O:Nat→Option Nat} {cargs:Array Value} (hg:Given w O func.params.size args cargs) (hl:args.length=func.params.size+func.nfree) (ht:func.params.size+func.nfree≤func.ntmps) {fa:Option Nat} (hfa:∀e,fa=some e→∃xs b,args[0]? =some (.l (Ad P e) xs)∧cargs[0]? =some (.slice b xs.length xs.length)):
  Mb ⟨w,none⟩ O args (G8 P none fa func) (cargs++Array.replicate (func.ntmps - cargs.size) undef) w:=by
 refine ⟨fun _=>0,fun _=>undef,O,Bel.refl ⟨w,none⟩,fun _ _ _=>rfl,hg.out,?_,fun s b hs=>by simp [G8,mget] at hs,fun s s' b b' hs=>by simp [G8,mget] at hs,fun v hv=>by cases hv⟩;have hsz:=hg.size;refine Al.mk (by simp [G8];omega) fun j x v hx hv=> ?_;simp only [G8,z7,Ay,false_and,if_false] at hx;rw [A2] at hx;by_cases h1:j<func.params.size
 ·rw [As (by simpa using h1)] at hx;simp only [Bj,Aq] at hx;obtain ⟨k,hk,rfl⟩:=hx;rw [Bb h1] at hk;injection hk with hk;subst hk;have hp:args[j]? =some args[j]:=Ac (by omega);rw [Ab,Bt (by omega)] at hv;have hval:=hg.val j _ v h1 hp hv;have plain:Ag ⟨args,A1 w O,fun _=>0,fun _=>undef,(G8 P none fa func).m⟩ (.e (.v j)) v:=by simp only [Ag,E.ev];exact ⟨args[j],hp,hval⟩
  by_cases hj0:j=0
  ·rw [if_pos hj0];cases fa with
   |none=>exact plain
   |some e=>
    obtain ⟨xs,b,h5,h6⟩:=hfa e rfl;subst hj0;rw [hp] at h5;injection h5 with h5;rw [hv] at h6;injection h6 with h6;simp only [Ag,E.ev];exact ⟨xs,b,by rw [hp,h5],h6,by rw [←h5];exact hval⟩
  ·rw [if_neg hj0];exact plain
 ·rw [Ar (by simpa using Nat.le_of_not_lt h1)] at hx;simp only [List.length_map,Qz] at hx;by_cases h2:j<func.params.size+func.nfree
  ·rw [As (by simp;omega)] at hx;simp only [Bj,Aq] at hx;obtain ⟨k,hk,rfl⟩:=hx;rw [Bb (by omega)] at hk;injection hk with hk;subst hk;simp only [Ag,E.ev,Ts];have hjj:func.params.size+(j - func.params.size)=j:=by omega
   rw [hjj];have hp:args[j]? =some args[j]:=Ac (by omega);refine ⟨args[j],hp,hg.cap j _ v (by omega) hp ?_⟩;rw [Ab,Bt (by omega)] at hv;exact hv
  ·rw [Ar (by simp;omega),Ed] at hx;split at hx
   ·injection hx with hx;subst hx;simp only [Ag]
   ·cases hx
theorem Own.mono' {B B':Nat→Prop} {w:World} {e size n:Nat} {v:Value} {xs:List Value} (h:Own w B e size v n xs) (hb:∀g,Bv v=some g→B' g):Own w B' e size v n xs:=by
 refine ⟨h.1,?_⟩;rcases h.2 with h1|⟨g,cap,cur,h1,h2,h3,h4⟩
 ·exact .inl h1
 ·exact .inr ⟨g,cap,cur,h1,h2,hb g (by rw [h1];simp only [Bv,if_neg (show¬cap=0 by omega)]),h4⟩
theorem Uv {func:Func} {e:Nat} {r:Bool} {args:List PV} {w:World} {O:Nat→Option Nat} {cargs:Array Value} {v0:Value} {xs:List PV} {us:List Value} (hg:GivenM P e w O func.params.size args cargs v0 xs us) (hl:args.length=func.params.size+func.nfree) (ht:func.params.size+func.nfree≤func.ntmps):
  Mb ⟨w,some v0⟩ O args (G8 P (some (e,r)) none func) (cargs++Array.replicate (func.ntmps - cargs.size) undef) w:=by
 have hsz:=hg.size;have hpos:=hg.pos;have hmem:∀s b,mget (G8 P (some (e,r)) none func).m s=some b→s=S0∧b= .arr e (Ad P e) (.v 0) .no:=by
  intro s b hs;simp only [G8,mget] at hs;split at hs
  ·rename_i h1;injection hs with hs;exact ⟨h1.symm,hs.symm⟩
  ·cases hs
 have harg:∀v,(cargs++Array.replicate (func.ntmps - cargs.size) undef)[0]? =some v→v=v0:=by intro v hv;rw [Bt (by omega),hg.arg] at hv;injection hv with hv;exact hv.symm
 refine ⟨fun _=>(Bv v0).getD 0,fun _=>v0,O,Bel.refl ⟨w,some v0⟩,fun _ _ _=>rfl,hg.out,?_,fun s b hs=> ?_,fun s s' b b' hs hs' hne=> ?_,fun v hv _=> ?_⟩
 ·refine Al.mk (by simp [G8];omega) fun j x v hx hv=> ?_;simp only [G8,Option.isSome_some,true_and] at hx;rw [A2] at hx;by_cases h1:j<func.params.size
  ·rw [As (by simpa using h1)] at hx;simp only [Bj,Aq] at hx;obtain ⟨k,hk,rfl⟩:=hx;rw [Bb h1] at hk;injection hk with hk;subst hk;by_cases hj:j=0
   ·subst hj;simp only [if_true,Ag];exact harg v (by rw [←Ab];exact hv)
   ·simp only [if_neg hj,Ag,E.ev];have hp:args[j]? =some args[j]:=Ac (by omega);refine ⟨args[j],hp,hg.val j _ v (by omega) h1 hp ?_⟩;rw [Ab,Bt (by omega)] at hv;exact hv
  ·rw [Ar (by simpa using Nat.le_of_not_lt h1)] at hx;simp only [List.length_map,Qz] at hx;by_cases h2:j<func.params.size+func.nfree
   ·rw [As (by simp;omega)] at hx;simp only [Bj,Aq] at hx;obtain ⟨k,hk,rfl⟩:=hx;rw [Bb (by omega)] at hk;injection hk with hk;subst hk;simp only [Ag,E.ev,Ts];have hjj:func.params.size+(j - func.params.size)=j:=by omega
    rw [hjj];have hp:args[j]? =some args[j]:=Ac (by omega);refine ⟨args[j],hp,hg.cap j _ v (by omega) hp ?_⟩;rw [Ab,Bt (by omega)] at hv;exact hv
   ·rw [Ar (by simp;omega),Ed] at hx;split at hx
    ·injection hx with hx;subst hx;simp only [Ag]
    ·cases hx
 ·obtain ⟨rfl,rfl⟩:=hmem s b hs;refine ⟨hg.sz,xs,us,?_,hg.own.mono' fun g hgb=> .inr hgb,hg.el,fun g hgb=> ?_,trivial⟩
  ·show (E.v 0).ev args=_;simp only [E.ev];exact hg.fst
  ·have hgb':Bv v0=some g:=hgb;refine ⟨?_,0,hg.shut g hgb',B4 _,fun _=>rfl⟩;show g=(Bv v0).getD 0;rw [hgb'];rfl
 ·obtain ⟨rfl,_⟩:=hmem s b hs;obtain ⟨rfl,_⟩:=hmem s' b' hs';exact absurd rfl hne
 ·injection hv with hv;subst hv;rw [Bt (by omega)];exact hg.arg
theorem Q3 {α:Type} {w:World} {g:α→Sem Value}:∀{l:List α} {us:List Value},us.length=l.length→(∀(j:Nat) (x:α) (u:Value),l[j]? =some x→us[j]? =some u→(g x).run P w= .ok u w)→(l.mapM g).run P w= .ok us w
 |[],us,hl,_=>by have:us=[]:=A6 (by simpa using hl);subst this;simp
 |x::l,[],hl,_=>by simp at hl
 |x::l,u::us,hl,h=>by have h1:=h 0 x u rfl rfl;have h2:=Q3 (l:=l) (us:=us) (by simpa using hl) (fun j y v hy hv=>h (j+1) y v (by simpa using hy) (by simpa using hv));simp [Ew,h1,h2]
def gR (tm:Array Value):ResultVar→Sem Value
 | .tmp t=>pure (tm.getD t undef)
 | .cell a t=>do loadVar t (←asAddr (tm.getD a undef))
theorem Jb {func:Func} {σ:St} {η:List PV} {tm:Array Value} {w:World} {β:Nat→Nat} {hv:Nat→Value} {O:Nat→Option Nat} {svs:List SV} (h:Rel w0 Oe η σ tm w β hv O) (hs:Fq P σ func.results.toList=some svs):
  ∃us,Al ⟨η,A1 w O,β,hv,σ.m⟩ svs us∧(Go.results func tm).run P w= .ok (if h:us.length=1 then us[0] else .tuple us.toArray) w:=by
 have go:∀{l:List ResultVar} {svs:List SV},Fq P σ l=some svs→∃us:List Value,Al ⟨η,A1 w O,β,hv,σ.m⟩ svs us∧us.length=l.length∧∀(j:Nat) (x:ResultVar) (u:Value),l[j]? =some x→us[j]? =some u→
   (gR tm x).run P w= .ok u w:=by
  intro l
  induction l with
  |nil=>
   intro svs h;simp only [Fq,Ak] at h;subst h;exact ⟨[],by simp only [Al],rfl,fun j x u hx=>by simp at hx⟩
  |cons r l ih=>
   intro svs hs;simp only [Fq] at hs;split at hs
   ·rename_i x xs hx hxs;injection hs with hs;subst hs;obtain ⟨us,u1,u2,u3⟩:=ih hxs;have one:∃u,Ag ⟨η,A1 w O,β,hv,σ.m⟩ x u∧(gR tm r).run P w= .ok u w:=by
     cases r with
     |tmp t=>
      simp only [ax] at hx;obtain ⟨u,h1,h2⟩:=h.tmps.get t x hx;refine ⟨u,h2,?_⟩;rw [Ab] at h1;simp [gR,An,h1]
     |cell p t=>
      simp only [ax] at hx;split at hx
      ·rename_i sv hsv;split at hx
       ·rename_i v hl;injection hx with hx;subst hx;obtain ⟨u0,h1,h2⟩:=h.tmps.get p sv hsv;rw [Ab] at h1;obtain ⟨ad,u,g1,g2,g3⟩:=Wl (G:=none) h (fun g hg=>by cases hg) h2 hl (fun x hx=>by simp at hx);subst g1;refine ⟨u,g3,?_⟩;simp [gR,An,h1,asAddr,g2]
       ·cases hx
      ·cases hx
    obtain ⟨u,v1,v2⟩:=one;refine ⟨u::us,by simp only [Al];exact ⟨u,us,rfl,v1,u1⟩,by simp [u2],fun j y u' hy hu=> ?_⟩;cases j with
    |zero=>simp at hy hu;subst hy;subst hu;exact v2
    |succ j=>exact u3 j y u' (by simpa using hy) (by simpa using hu)
   ·cases hs
 obtain ⟨us,u1,u2,u3⟩:=go hs;refine ⟨us,u1,?_⟩;have hm:=Q3 (P:=P) (w:=w) (g:=gR tm) u2 u3;have e:Go.results func tm=(do let vs←List.toArray<$>func.results.toList.mapM (gR tm);pure (if h:vs.size=1 then vs[0] else .tuple vs)):=by
  unfold Go.results;rw [Array.mapM_eq_mapM_toList];have he:∀x,(match x with|ResultVar.tmp t=>pure (tm.getD t undef)|ResultVar.cell a t=>do loadVar t (←asAddr (tm.getD a undef)):Sem Value)=gR tm x:=fun x=>by cases x<;>rfl
  congr
 rw [e];simp only [Sem.run_bind,Sem.run_map];rw [hm];simp only [Result.andThen,Sem.run_pure];by_cases h1:us.length=1
 ·rw [dif_pos h1];have:us.toArray.size=1:=by simpa using h1
  simp only [this,dif_pos];simp
 ·rw [dif_neg h1];have:¬us.toArray.size=1:=by simpa using h1
  rw [dif_neg this]
theorem Pq {func:Func} {σ:St} {η:List PV} {tm:Array Value} {w:World} {β:Nat→Nat} {hv:Nat→Value} {O:Nat→Option Nat} {cs:List SV} (h:Rel w0 Oe η σ tm w β hv O) {svs:List SV} (hsv:Fq P σ func.results.toList=some svs) (hs:Hv P σ func.results.toList=some cs):
  ∃vs:Array Value,(Go.results func tm).run P w= .ok (.agg vs) w∧Al ⟨η,A1 w O,β,hv,σ.m⟩ cs vs.toList:=by
 have e:∀x:ResultVar,func.results.toList=[x]→∀v,(gR tm x).run P w= .ok v w→(Go.results func tm).run P w= .ok v w:=by
  intro x hx v hv1;have e:Go.results func tm=(do let vs←List.toArray<$>func.results.toList.mapM (gR tm);pure (if h:vs.size=1 then vs[0] else .tuple vs)):=by
   unfold Go.results;rw [Array.mapM_eq_mapM_toList];have he:∀x,(match x with|ResultVar.tmp t=>pure (tm.getD t undef)|ResultVar.cell a t=>do loadVar t (←asAddr (tm.getD a undef)):Sem Value)=gR tm x:=fun x=>by cases x<;>rfl
   congr
  rw [e,hx];simp [Ew,hv1,Result.andThen]
 unfold Hv at hs;split at hs
 ·rename_i p t hr;split at hs
  ·rename_i hag;split at hs
   ·rename_i s off hp;split at hs
    ·rename_i cs0 ro hb;injection hs with hs;subst hs;obtain ⟨_,_,vs,T,g3,g4,g5,_⟩:=h.mem s _ hb;obtain ⟨u0,h1,h2⟩:=h.tmps.get p _ hp;rw [Ab] at h1;simp only [Ag] at h2;subst h2;have hle:off+Ad P t≤cs0.length:=by
      rw [hr] at hsv;simp only [Fq,ax,hp] at hsv;unfold Hc at hsv;by_cases hle:off+Ad P t≤cs0.length
      ·exact hle
      ·simp only [hb,hag,if_true,if_neg hle] at hsv;split at hsv
       ·rename_i hx _;split at hx
        ·rename_i hl;split at hl<;>cases hl
        ·cases hx
       ·cases hsv
     have hlen:=g5.length;refine ⟨((vs.toList.drop off).take (Ad P t)).toArray,e _ hr _ ?_,?_⟩
     ·have:=Fj (P:=P) w (a:=⟨β s,off,none⟩) (us:=(vs.toList.drop off).take (Ad P t)) hag (by simp at hlen ⊢;omega) fun j u hu=>by
       rw [Ap] at hu;split at hu
       ·rw [A9,Ab] at hu;rw [add_lit,cell_of_row w (β s) (off+j) vs T (0,0) g3];exact hu
       ·cases hu
      simp [gR,An,h1,asAddr,this]
     ·refine Al.mk (by simp [hlen]) fun j y u hy hu=> ?_;rw [Ap] at hy;split at hy
      ·rename_i hj;have hu':((vs.toList.drop off).take (Ad P t))[j]? =some u:=by simpa using hu
       rw [Ap,if_pos hj] at hu';rw [A9] at hy hu';obtain ⟨u',hu2,hr'⟩:=g5.get _ y hy;rw [hu'] at hu2;injection hu2 with hu2;subst hu2;exact hr'
      ·cases hy
    ·cases hs
   ·cases hs
  ·cases hs
 ·rename_i t hr;split at hs
  ·rename_i cs0 hp;injection hs with hs;subst hs;obtain ⟨u0,h1,h2⟩:=h.tmps.get t _ hp;rw [Ab] at h1;simp only [Ag] at h2;obtain ⟨vs,rfl,_,h3⟩:=h2;exact ⟨vs,e _ hr _ (by simp [gR,An,h1]),h3⟩
  ·cases hs
 ·cases hs
theorem Or (hC:Contract P sig fn) {f:Nat} (hmu:Kt (sig f)=none) {func:Func} {H:Hints} {t:T} {args rs:List PV} (hf:P.funcs[f]? =some func) (hx:Yb P sig f func H=some t) (hev:t.ev fn N args=some (.ret rs)) (hl:args.length=func.params.size+func.nfree) {w:World} {O:Nat→Option Nat} {cargs:Array Value} (hg:Given w O func.params.size args cargs) (hfa:∀e,Oq (sig f)=some e→∃xs b,args[0]? =some (.l (Ad P e) xs)∧cargs[0]? =some (.slice b xs.length xs.length)):
  Calls P f cargs w fun e w'=>∃v,e= .returned v∧ez P (sig f) w O rs v w':=by
 unfold Yb at hx;split at hx
 ·rename_i c hb;split at hx
  ·rename_i ht;rw [hmu] at hx;simp only [z7,Ay,false_and,if_false] at hx;refine calls_of_wp hf hb ?_;refine Ht hC c 0 0 (G8 P none (Oq (sig f)) func) _ t args (.ret rs) _ w _ hx hev (by rw [hl];rfl) (Z6 hg hl ht hfa) ?_;intro x σ' T' η' ζ a' w' h1 h2 h3 h4 h5 h6;have main:∀svs,Fq P σ' func.results.toList=some svs→(match rkOf (sig f) with
     | .own e=>I0 P σ' e svs
     | .full nl m=>match Hv P σ' func.results.toList with
       |some cs=>if Q2 nl m cs then (O0 σ'.m svs).map fun r=> .ret r.1 else none
       |none=>none
     | .plain=>(O0 σ'.m svs).map fun r=> .ret r.1)=some T'→∃v,(Go.results func a'.tmps).run P w'= .ok v w'∧ez P (sig f) w O rs v w':=by
    intro svs hs hT;obtain ⟨β,hv,O',rel⟩:=h5;obtain ⟨us,u1,u2⟩:=Jb rel hs;refine ⟨_,u2,rel.bel.below rfl,?_⟩;have plainly:((O0 σ'.m svs).map fun r=>T.ret r.1)=some T'→∃O'',(∀c,c<w.heap.size→O'' c=O c)∧(∀c,w'.heap.size≤c→O'' c=none)∧F7 (A1 w' O'') rs (if h:us.length=1 then us[0] else .tuple us.toArray):=by
     intro hT;obtain ⟨⟨es,ss⟩,he,rfl⟩:=Aq.1 hT;obtain ⟨O'',hrel,hM,hop,_⟩:=rel.frz ss (n:=0);obtain ⟨ps,q1,q2,q3⟩:=Hs rel hM he u1 (fun s hs=>hop s (by simpa using hs));simp only [T.ev,Aq] at h2;obtain ⟨vs,hvs,hret⟩:=h2;injection hret with hret;subst hret;rw [q1] at hvs;injection hvs with hvs;subst hvs;refine ⟨O'',fun c hc=>hrel.ext c hc (by simp [Fr.x]),hrel.out,?_⟩;show F7 (A1 w' O'') ps _
     match ps,us,q2,q3 with
     |[p],[u],_,q3=>exact q3 0 p u rfl rfl
     |[],[],_,_=>exact ⟨#[],by simp,rfl,fun j p u hp=>by simp at hp⟩
     |p::p'::ps,u::u'::us,q2,q3=>
      have:¬(u::u'::us).length=1:=by simp
      rw [dif_neg this];exact ⟨_,rfl,by simpa using q2.symm,fun j p v hp hv=>q3 j p v hp (by simpa using hv)⟩
     |[],_::_,q2,_=>simp at q2
     |_::_,[],q2,_=>simp at q2
     |[_],_::_::_,q2,_=>simp at q2
     |_::_::_,[_],q2,_=>simp at q2
    cases hsig:rkOf (sig f) with
    |plain=>
     rw [hsig] at hT;exact plainly hT
    |full nl m=>
     rw [hsig] at hT;simp only at hT;split at hT
     ·rename_i cs hcs;split at hT
      ·rename_i hmask;obtain ⟨O'',g1,g2,g3⟩:=plainly hT;refine ⟨O'',g1,g2,g3,?_⟩;have hagg:∃vs:Array Value,(Go.results func a'.tmps).run P w'= .ok (.agg vs) w'∧Al ⟨η',A1 w' O',β,hv,σ'.m⟩ cs vs.toList:=Pq rel hs hcs;obtain ⟨vs,hrun,hcells⟩:=hagg;rw [u2] at hrun;injection hrun with hrun _;rw [hrun];intro j hj;simp only [Q2,Ax,decide_eq_true_eq,Bs,Db,Ah,Bp] at hmask;have hjl:j<cs.length:=by
        rcases Nat.lt_or_ge j cs.length with h|h
        ·exact h
        ·have:=Nat.testBit_lt_two_pow (Cn hmask.1 (Nat.pow_le_pow_right (by omega) h));rw [this] at hj;cases hj
       have hcj:cs[j]? =some cs[j]:=Ac hjl;obtain ⟨u,hu,hru⟩:=hcells.get j _ hcj;rw [Ab] at hu;have hnr:=(hmask.2 j hjl).resolve_left (by rw [hj];simp);have hgd:cs.getD j .und=cs[j]:=by simp [A4,hcj]
       rw [hgd] at hnr;generalize cs[j]=x at hru hnr;cases x with
       |nil sz=>
        simp only [Ag] at hru;exact ⟨vs,none,0,rfl,by rw [hu,hru],fun _=>⟨rfl,rfl⟩⟩
       |lit sz y=>
        simp only [Ag] at hru;obtain ⟨xs,b,_,h5,_⟩:=hru;refine ⟨vs,b,xs.length,rfl,by rw [hu,h5],fun hn=> ?_⟩;rw [hn] at hnr;simp [SV.noRoom] at hnr
       |_=>simp [SV.noRoom] at hnr
      ·cases hT
     ·cases hT
    |own e=>
     rw [hsig] at hT;simp only at hT;refine ⟨O',fun c hc=>rel.ext c hc (by simp [Fr.x]),rel.out,?_⟩;unfold I0 at hT;split at hT
     ·rename_i s;split at hT
      ·rename_i e' sz x lk hb';split at hT
       ·rename_i hcond;obtain ⟨rfl,rfl⟩:=hcond;injection hT with hT;subst hT;obtain ⟨q0,xs,cs,q1,q2,q3,q4,_⟩:=rel.mem s _ hb';have q1':x.ev η'=some (.l (Ad P e') xs):=q1;simp only [T.ev,E.evs,q1',Av,Am,Ak,Out.ret.injEq] at h2;simp only [Al,Ag] at u1;obtain ⟨v,r,rfl,hv1,rfl⟩:=u1;refine ⟨q0,xs,cs,h2.symm,?_,q3,fun g hg'=> ?_⟩
        ·show Own w' (Yx w.heap.size) e' (Ad P e') v xs.length cs;rw [hv1];refine q2.mono fun g hg=> ?_;rcases hg with hg|hg
         ·exact hg
         ·simp [Fr.x] at hg
        ·have hg2:Bv v=some g:=hg';rw [hv1] at hg2;obtain ⟨_,lim,h7,_,h8⟩:=q4 g hg2;rw [h7,h8 rfl]
       ·cases hT
      ·cases hT
     ·rename_i sz;split at hT
      ·rename_i hcond;obtain ⟨rfl,h0⟩:=hcond;injection hT with hT;subst hT;simp only [T.ev,E.evs,E.ev,Av,Am,Ak,Out.ret.injEq] at h2;simp only [Al,Ag] at u1;obtain ⟨v,r,rfl,hv1,rfl⟩:=u1;refine ⟨h0,[],[],h2.symm,?_,fun i x hx=>by simp at hx,fun g hg'=> ?_⟩
       ·show Own w' (Yx w.heap.size) e (Ad P e) v 0 [];rw [hv1];exact ⟨by simp, .inl ⟨none,rfl,rfl⟩⟩
       ·have hg2:Bv v=some g:=hg';rw [hv1] at hg2;simp [Bv] at hg2
      ·cases hT
     ·rename_i sz x;split at hT
      ·rename_i hcond;obtain ⟨rfl,h0⟩:=hcond;injection hT with hT;subst hT;simp only [Al,Ag] at u1;obtain ⟨v,r,rfl,hv1,rfl⟩:=u1;obtain ⟨xs,b,hxe,hvb,_⟩:=hv1;have hxe':x.ev η'=some (.l (Ad P e) xs):=hxe;simp only [T.ev,W.ev,sb,E.ev,E.evs,hxe',Ey,X.bin,C5,Av,if_true] at h2;have hx0:xs=[]:=by
        by_cases hx0:xs=[]
        ·exact hx0
        ·have hl:((xs.length:Int)==0)=false:=by have:=B5.2 hx0;simp;omega
         rw [hl] at h2;simp [PV.scal] at h2
       subst hx0;simp only [Mm] at h2;have hrs:[PV.l (Ad P e) []]=rs:=by simpa using h2
       refine ⟨h0,[],[],hrs.symm,?_,fun i x hx=>by simp at hx,fun g hg'=> ?_⟩
       ·show Own w' (Yx w.heap.size) e (Ad P e) v 0 [];rw [hvb];exact ⟨by simp, .inl ⟨b,rfl,rfl⟩⟩
       ·have hg2:Bv v=some g:=hg';rw [hvb] at hg2;cases b<;>simp [Bv] at hg2
      ·cases hT
     ·cases hT
   unfold pj at h1;simp only [hmu] at h1;have fin:∀svs,Fq P σ' func.results.toList=some svs→(match rkOf (sig f) with
     | .own e=>I0 P σ' e svs
     | .full nl m=>match Hv P σ' func.results.toList with
       |some cs=>if Q2 nl m cs then (O0 σ'.m svs).map fun r=> .ret r.1 else none
       |none=>none
     | .plain=>(O0 σ'.m svs).map fun r=> .ret r.1)=some T'→a'.defers=[]∧∃v,(Go.results func a'.tmps).run P w'= .ok v w'∧∃v',Ending.returned v= .returned v'∧ez P (sig f) w O rs v' w':=by
    intro svs hs hT;obtain ⟨v,k1,k2⟩:=main svs hs hT;exact ⟨h6,v,k1,v,rfl,k2⟩
   cases x with
   |exit b=>simp at h1
   |normal=>
    simp only at h1;split at h1
    ·rename_i svs hs;exact fin svs hs h1
    ·cases h1
   |ret=>
    simp only at h1;split at h1
    ·rename_i svs hs;exact fin svs hs h1
    ·cases h1
  ·cases hx
 ·cases hx
theorem Yn (hC:Contract P sig fn) {f e:Nat} {r:Bool} (hmu:Kt (sig f)=some (e,r)) {func:Func} {H:Hints} {t:T} {args rs:List PV} (hf:P.funcs[f]? =some func) (hx:Yb P sig f func H=some t) (hev:t.ev fn N args=some (.ret rs)) (hl:args.length=func.params.size+func.nfree) {w:World} {O:Nat→Option Nat} {cargs:Array Value} {v0:Value} {xs:List PV} {us:List Value} (hg:GivenM P e w O func.params.size args cargs v0 xs us):
  Calls P f cargs w fun en w'=>∃v,en= .returned v∧ew P e r v0 w O rs v w':=by
 unfold Yb at hx;split at hx
 ·rename_i c hb;split at hx
  ·rename_i ht;rw [hmu,Xk hmu] at hx;have hpos:=hg.pos;have hnp:¬((some (e,r):Option (Nat×Bool)).isSome=true∧func.params.size=0):=fun h=>by omega
   rw [if_neg hnp] at hx;refine calls_of_wp hf hb ?_;refine Ht hC c 0 0 (G8 P (some (e,r)) none func) _ t args (.ret rs) _ w _ hx hev (by rw [hl];rfl) (Uv hg hl ht) ?_;intro x σ' T' η' ζ a' w' h1 h2 h3 h4 h5 h6;have main:∀svs,Fq P σ' func.results.toList=some svs→Q6 P σ' e r svs=some T'→∃v,(Go.results func a'.tmps).run P w'= .ok v w'∧ew P e r v0 w O rs v w':=by
    intro svs hs hT;obtain ⟨β,hv,O',rel⟩:=h5;obtain ⟨us1,u1,u2⟩:=Jb rel hs;refine ⟨_,u2,rel.bel,O',fun c hc hx=>rel.ext c hc hx,rel.out,?_⟩;unfold Q6 at hT;split at hT
    ·rename_i s hsel;split at hT
     ·rename_i e' sz x lk hb';split at hT
      ·rename_i hcond;obtain ⟨rfl,rfl⟩:=hcond;injection hT with hT;subst hT;obtain ⟨q0,ys,cs,q1,q2,q3,q4,_⟩:=rel.mem s _ hb';have q1':x.ev η'=some (.l (Ad P e') ys):=q1;simp only [T.ev,E.evs,q1',Av,Am,Ak,Out.ret.injEq] at h2;refine ⟨ys,cs,h2.symm,q3,fun hr=> ?_,fun hr=> ?_⟩
       ·subst hr;simp only [if_true] at hsel;split at hsel
        ·rename_i s';injection hsel with hsel;subst hsel;simp only [Al,Ag] at u1;obtain ⟨v,r1,rfl,hv1,rfl⟩:=u1;refine ⟨?_,fun g hg'=> ?_⟩
         ·show Own w' _ e' (Ad P e') v ys.length cs;rw [hv1];exact q2
         ·have hg2:Bv v=some g:=hg';rw [hv1] at hg2;obtain ⟨_,lim,h7,_,h8⟩:=q4 g hg2;rw [h7,h8 rfl]
        ·cases hsel
       ·subst hr;simp only [Ay,if_false] at hsel;split at hsel
        ·rename_i s' ht0;split at hsel
         ·rename_i hs0;injection hsel with hsel;subst hsel;subst hs0;have hvs:hv S0=v0:=by have g1:=rel.t0 v0 rfl ht0;obtain ⟨v,g2,g3⟩:=rel.tmps.get 0 _ ht0;rw [Ab,g1] at g2;injection g2 with g2;simp only [Ag] at g3;rw [←g3,g2]
          simp only [Al] at u1;subst u1;refine ⟨rfl,?_,fun g hg'=> ?_⟩
          ·have:=q2.mono (B':=fun _=>True) fun _ _=>trivial;show Own w' _ e' (Ad P e') v0 ys.length cs;rw [←hvs];exact this
          ·have hg2:Bv (hv S0)=some g:=by rw [hvs];exact hg'
           obtain ⟨_,lim,h7,_,h8⟩:=q4 g hg2;rw [h7,h8 rfl]
         ·cases hsel
        ·cases hsel
      ·cases hT
     ·cases hT
    ·cases hT
   unfold pj at h1;simp only [hmu] at h1;have fin:∀svs,Fq P σ' func.results.toList=some svs→Q6 P σ' e r svs=some T'→a'.defers=[]∧∃v,(Go.results func a'.tmps).run P w'= .ok v w'∧∃v',Ending.returned v= .returned v'∧ew P e r v0 w O rs v' w':=by intro svs hs hT;obtain ⟨v,k1,k2⟩:=main svs hs hT;exact ⟨h6,v,k1,v,rfl,k2⟩
   cases x with
   |exit b=>simp at h1
   |normal=>
    simp only at h1;split at h1
    ·rename_i svs hs;exact fin svs hs h1
    ·cases h1
   |ret=>
    simp only at h1;split at h1
    ·rename_i svs hs;exact fin svs hs h1
    ·cases h1
  ·cases hx
 ·cases hx
def Td (sig:Nat→Option Nat) (f:Nat) (func:Func):Nat:=func.params.size+if (Kt (sig f)).isSome||(Oq (sig f)).isSome then TAG else 0
def Tab (P:Program) (sig:Nat→Option Nat) (tab:Nat→Option FT):Prop:=
 (∀ f ft, tab f = some ft → ∃ func H, P.funcs[f]? = some func ∧ (func.name == "runtime.NumGoroutine") = false ∧ Td sig f func = ft.np ∧ func.params.size < TAG ∧ func.nfree = ft.nf ∧ ∃ t, Yb P sig f func H = some t ∧ t.slim = ft.t) ∧ z6 P sig
theorem I3 {f:Nat} {func:Func} {H:Hints} {t:T} (hx:Yb P sig f func H=some t):func.body.isSome=true:=by
 unfold Yb at hx;split at hx
 ·rename_i h;rw [h];rfl
 ·cases hx
theorem Ul {tab:Nat→Option FT} {ext:Fns→Fns} (hT:Tab P sig tab) (hE:∀fn,Contract P sig fn→Contract P sig (ext fn)):∀k,Contract P sig (Jw tab ext k)
 |0=>⟨fun f n vs rs h=>by simp [Jw] at h,hT.2⟩
 |k+1=>by
  refine ⟨fun f n vs rs h=> ?_,hT.2⟩
  ·
   have ih:=Ul hT hE k;simp only [Jw] at h;split at h
   ·rename_i ft hft;split at h
    ·rename_i hc;obtain ⟨o,ho,h⟩:=Aj.1 h;split at h
     ·rename_i vs';injection h with h;subst h;obtain ⟨func,H,hf,hn,hp,hlt,hnf,t0,hx,hs⟩:=hT.1 f ft hft;rw [←hs,Dp] at ho;obtain ⟨hc1,hc2⟩:=hc;unfold Td at hp;refine ⟨fun hn1 w O args hg=> ?_,fun hn1=> ?_⟩
      ·have hno:((Kt (sig f)).isSome||(Oq (sig f)).isSome)=false:=by
        cases hb:((Kt (sig f)).isSome||(Oq (sig f)).isSome) with
        |false=>rfl
        |true=>
         rw [hb] at hp;simp only [if_true] at hp;omega
       rw [hno] at hp;simp only [Ay,if_false,Cz] at hp;simp only [Tt,Option.isSome_eq_false_iff,Bz] at hno;obtain ⟨hmu,hfa⟩:=hno;refine D6.of_calls hf hn (I3 hx) ?_;refine Or ih hmu hf hx ho ?_ (by rw [hp,hc1];exact hg) (fun e he=>by rw [hfa] at he;cases he);rw [hc2,←hp,C0 hlt,hnf]
      ·have hyes:((Kt (sig f)).isSome||(Oq (sig f)).isSome)=true:=by
        cases hb:((Kt (sig f)).isSome||(Oq (sig f)).isSome) with
        |true=>rfl
        |false=>
         rw [hb] at hp;simp only [Ay,if_false] at hp;omega
       rw [hyes] at hp;simp only [if_true] at hp;have e1:n - TAG=func.params.size:=by omega
       have e2:(func.params.size+TAG) % TAG=func.params.size:=by rw [Nat.add_mod_right];exact C0 hlt
       cases hmu:Kt (sig f) with
       |some er=>
        obtain ⟨e,r⟩:=er;refine .inl ⟨e,r,rfl,fun w O args v0 xs us hg=> ?_⟩;refine D6.of_calls hf hn (I3 hx) ?_;rw [e1] at hg;refine Yn ih hmu hf hx ho ?_ hg;rw [hc2,←hp,e2,hnf]
       |none=>
        rw [hmu] at hyes;simp only [z7,Bool.false_or] at hyes;obtain ⟨e,hfa⟩:=Bc.1 hyes;refine .inr ⟨e,hfa,fun w O args b xs hg h0 h5=> ?_⟩;refine D6.of_calls hf hn (I3 hx) ?_;rw [e1] at hg;refine Or ih hmu hf hx ho ?_ hg (fun e' he=> ?_)
        ·rw [hc2,←hp,e2,hnf]
        ·rw [hfa] at he;injection he with he;subst he;exact ⟨xs,b,h0,h5⟩
     ·cases h
    ·cases h
   ·exact (hE _ ih).says f n vs rs h
end
end Go.X
/- The functions of a table without fuel. -/
namespace Go.X
open Go
def Fle (fn fn':Fns):Prop:=∀f n vs rs,fn f n vs=some rs→fn' f n vs=some rs
theorem Fle.refl (fn:Fns):Fle fn fn:=fun _ _ _ _ h=>h
theorem Fle.trans {a b c:Fns} (h:Fle a b) (h':Fle b c):Fle a c:=fun f n vs rs e=>h' f n vs rs (h f n vs rs e)
theorem H2 {flat:Bool} {m:Nat} {η η':List PV} {r r':Option (List PV)} (hr:∀rs,r=some rs→r'=some rs) (h:results flat m η r=some η'):results flat m η r'=some η':=by unfold results at h ⊢;obtain ⟨rs,h1,h2⟩:=Aj.1 h;rw [hr rs h1];exact h2
theorem K3 {η η':List PV} {m:Nat} {g:Option E} {r r':Option (List PV)} (hr:∀x,r=some x→r'=some x) (h:Cr η m g r=some η'):Cr η m g r'=some η':=by
 unfold Cr at h ⊢;split at h
 ·exact hr _ h
 ·obtain ⟨v,h1,h2⟩:=Aj.1 h;rw [h1];simp only [Av];split at h2
  ·exact hr _ h2
  ·exact h2
  ·cases h2
theorem W.ev_le {fn fn':Fns} (hf:Fle fn fn') {η η':List PV}:∀{x:W},x.ev fn η=some η'→x.ev fn' η=some η'
 | .chk x,h=>h
 | .call g flat f ar m,h=>by simp only [W.ev] at h ⊢;refine K3 (fun x hx=> ?_) h;obtain ⟨vs,h1,h2⟩:=Aj.1 hx;rw [h1];exact H2 (fun rs hr=>hf _ _ _ _ hr) h2
 | .clo g flat c ar m,h=>by
   simp only [W.ev] at h ⊢;refine K3 (fun x hx=> ?_) h;obtain ⟨q,h0,hx⟩:=Aj.1 hx;obtain ⟨vs,h1,h2⟩:=Aj.1 hx;rw [h0];simp only [Av];rw [h1];simp only [Av];split at h2
   ·exact H2 (fun rs hr=>hf _ _ _ _ hr) h2
   ·cases h2
 | .mcall f ar,h=>by simp only [W.ev] at h ⊢;obtain ⟨vs,h1,h2⟩:=Aj.1 h;rw [h1];exact H2 (fun rs hr=>hf _ _ _ _ hr) h2
theorem Jy {s s':List PV→Option Out} (hs:∀vs o,s vs=some o→s' vs=some o) {id:Nat}:∀{n n':Nat} {st:List PV} {o:Out},n≤n'→Dn s id n st=some o→Dn s' id n' st=some o
 |0,_,_,_,_,h=>by simp [Dn] at h
 |n+1,0,_,_,hn,_=>by omega
 |n+1,n'+1,st,o,hn,h=>by
  simp only [Dn] at h ⊢;obtain ⟨o1,h1,h2⟩:=Aj.1 h;rw [hs _ _ h1];simp only [Av];split at h2
  ·split at h2
   ·rename_i hj;rw [if_pos hj];exact Jy hs (by omega) h2
   ·rename_i hj;rw [if_neg hj];exact h2
  ·exact h2
theorem T.ev_le {fn fn':Fns} (hf:Fle fn fn') {N N':Nat} (hN:N≤N'):∀{t:T} {η:List PV} {o:Out},t.ev fn N η=some o→t.ev fn' N' η=some o
 | .w x k,η,o,h=>by simp only [T.ev] at h ⊢;obtain ⟨η',h1,h2⟩:=Aj.1 h;rw [W.ev_le hf h1];exact T.ev_le hf hN h2
 | .ite c t e,η,o,h=>by
   simp only [T.ev] at h ⊢;obtain ⟨r,h1,h2⟩:=Aj.1 h;rw [h1];simp only [Av];split at h2
   ·exact T.ev_le hf hN h2
   ·exact T.ev_le hf hN h2
   ·cases h2
 | .ret es,η,o,h=>h
 | .yld id es,η,o,h=>h
 | .blk id body k,η,o,h=>by
   simp only [T.ev] at h ⊢;obtain ⟨o1,h1,h2⟩:=Aj.1 h;rw [T.ev_le hf hN h1];simp only [Av];split at h2
   ·split at h2
    ·rename_i hj;rw [if_pos hj];exact T.ev_le hf hN h2
    ·rename_i hj;rw [if_neg hj];exact h2
   ·exact h2
 | .loop id init body,η,o,h=>by simp only [T.ev] at h ⊢;obtain ⟨st,h1,h2⟩:=Aj.1 h;rw [h1];exact Jy (fun vs o ho=>T.ev_le hf hN ho) hN h2
def Et (ext:Fns→Fns):Prop:=∀fn fn',Fle fn fn'→Fle (ext fn) (ext fn')
section
variable {tab:Nat→Option FT} {ext:Fns→Fns}
theorem Nq (hE:Et ext):∀k,Fle (Jw tab ext k) (Jw tab ext (k+1))
 |0=>fun f n vs rs h=>by simp [Jw] at h
 |k+1=>fun f n vs rs h=>by
  have ih:=Nq hE k;rw [Jw] at h ⊢;cases ht:tab f with
  |none=>simp only [ht] at h ⊢;exact hE _ _ ih _ _ _ _ h
  |some t=>
   simp only [ht] at h ⊢;split at h
   ·rename_i hc;rw [if_pos hc];obtain ⟨o,h1,h2⟩:=Aj.1 h;rw [T.ev_le ih (Nat.le_succ k) h1];exact h2
   ·cases h
theorem E5 (hE:Et ext) {k k':Nat} (h:k≤k'):Fle (Jw tab ext k) (Jw tab ext k'):=by
 induction h with
 |refl=>exact Fle.refl _
 |step _ ih=>exact ih.trans (Nq hE _)
open Classical in
noncomputable def sem (tab:Nat→Option FT) (ext:Fns→Fns):Fns:=fun f n args=>
 if h:∃rs k,Jw tab ext k f n args=some rs then some h.choose else none
theorem Lm (hE:Et ext) {f n:Nat} {args rs:List PV}:sem tab ext f n args=some rs↔∃k,Jw tab ext k f n args=some rs:=by
 unfold sem;constructor
 ·intro h;split at h
  ·rename_i hex;injection h with h;subst h;exact hex.choose_spec
  ·cases h
 ·rintro ⟨k,hk⟩;have hex:∃rs k,Jw tab ext k f n args=some rs:=⟨rs,k,hk⟩;rw [dif_pos hex];obtain ⟨k',hk'⟩:=hex.choose_spec;have h1:=E5 hE (zz k k') _ _ _ _ hk;have h2:=E5 hE (Yd k k') _ _ _ _ hk';rw [h1] at h2;exact h2.symm
theorem W.ev_cont (hE:Et ext) {η η':List PV}:∀{x:W},x.ev (sem tab ext) η=some η'→∃k,x.ev (Jw tab ext k) η=some η':=by
 have res:∀{flat:Bool} {m f n:Nat} {vs:List PV},results flat m η (sem tab ext f n vs)=some η'→∃k,results flat m η (Jw tab ext k f n vs)=some η':=by intro flat m f n vs h;unfold results at h;obtain ⟨rs,h1,h2⟩:=Aj.1 h;obtain ⟨k,hk⟩:=(Lm hE).1 h1;exact ⟨k,by unfold results;rw [hk];exact h2⟩
 intro x h;cases x with
 |chk x=>exact ⟨0,h⟩
 |call g flat f ar m=>
  simp only [W.ev] at h ⊢;unfold Cr at h ⊢;split at h
  ·obtain ⟨vs,h1,h2⟩:=Aj.1 h;obtain ⟨k,hk⟩:=res h2;exact ⟨k,by rw [h1];exact hk⟩
  ·obtain ⟨v,h0,h⟩:=Aj.1 h;split at h
   ·obtain ⟨vs,h1,h2⟩:=Aj.1 h;obtain ⟨k,hk⟩:=res h2;exact ⟨k,by rw [h0];simp only [Av];rw [h1];exact hk⟩
   ·exact ⟨0,by rw [h0];exact h⟩
   ·cases h
 |clo g flat c ar m=>
  have body:((c.ev η).bind fun q=>(E.evs η ar).bind fun vs=>match q with| .f f caps=>results flat m η (sem tab ext f vs.length (vs++caps))|_=>none)=some η'→∃k,((c.ev η).bind fun q=>(E.evs η ar).bind fun vs=>match q with| .f f caps=>results flat m η (Jw tab ext k f vs.length (vs++caps))|_=>none)=some η':=by
   intro hh;obtain ⟨q,h0,hh⟩:=Aj.1 hh;obtain ⟨vs,h1,hh⟩:=Aj.1 hh;cases q with
   |f f caps=>
    obtain ⟨k,hk⟩:=res hh;exact ⟨k,by rw [h0];simp only [Av];rw [h1];exact hk⟩
   |_=>simp at hh
  simp only [W.ev] at h ⊢;unfold Cr at h ⊢;split at h
  ·exact body h
  ·obtain ⟨v,h0,h⟩:=Aj.1 h;split at h
   ·obtain ⟨k,hk⟩:=body h;exact ⟨k,by rw [h0];exact hk⟩
   ·exact ⟨0,by rw [h0];exact h⟩
   ·cases h
 |mcall f ar=>
  simp only [W.ev] at h ⊢;obtain ⟨vs,h1,h2⟩:=Aj.1 h;obtain ⟨k,hk⟩:=res h2;exact ⟨k,by rw [h1];exact hk⟩
theorem T.ev_cont (hE:Et ext) {N:Nat}:∀{t:T} {η:List PV} {o:Out},t.ev (sem tab ext) N η=some o→∃k,t.ev (Jw tab ext k) N η=some o
 | .w x t,η,o,h=>by simp only [T.ev] at h ⊢;obtain ⟨η',h1,h2⟩:=Aj.1 h;obtain ⟨k1,g1⟩:=W.ev_cont hE h1;obtain ⟨k2,g2⟩:=T.ev_cont hE h2;refine ⟨max k1 k2,?_⟩;rw [W.ev_le (E5 hE (zz k1 k2)) g1];exact T.ev_le (E5 hE (Yd k1 k2)) (Af _) g2
 | .ite c t e,η,o,h=>by
   simp only [T.ev] at h ⊢;obtain ⟨r,h1,h2⟩:=Aj.1 h;split at h2
   ·obtain ⟨k,g⟩:=T.ev_cont hE h2;exact ⟨k,by rw [h1];exact g⟩
   ·obtain ⟨k,g⟩:=T.ev_cont hE h2;exact ⟨k,by rw [h1];exact g⟩
   ·cases h2
 | .ret es,η,o,h=>⟨0,h⟩
 | .yld id es,η,o,h=>⟨0,h⟩
 | .blk id body t,η,o,h=>by
   simp only [T.ev] at h ⊢;obtain ⟨o1,h1,h2⟩:=Aj.1 h;obtain ⟨k1,g1⟩:=T.ev_cont hE h1;split at h2
   ·split at h2
    ·rename_i hj;obtain ⟨k2,g2⟩:=T.ev_cont hE h2;refine ⟨max k1 k2,?_⟩;rw [T.ev_le (E5 hE (zz k1 k2)) (Af _) g1];simp only [Av];rw [if_pos hj];exact T.ev_le (E5 hE (Yd k1 k2)) (Af _) g2
    ·rename_i hj;exact ⟨k1,by rw [g1];simp only [Av];rw [if_neg hj];exact h2⟩
   ·exact ⟨k1,by rw [g1];exact h2⟩
 | .loop id init body,η,o,h=>by
   simp only [T.ev] at h ⊢;obtain ⟨st,h1,h2⟩:=Aj.1 h;have key:∀(n:Nat) (st:List PV),Dn (fun vs=>body.ev (sem tab ext) N (η++vs)) id n st=some o→∃k,Dn (fun vs=>body.ev (Jw tab ext k) N (η++vs)) id n st=some o:=by
    intro n
    induction n with
    |zero=>intro st h;simp [Dn] at h
    |succ n ih=>
     intro st h;simp only [Dn] at h ⊢;obtain ⟨o1,h1,h2⟩:=Aj.1 h;obtain ⟨k1,g1⟩:=T.ev_cont hE h1;split at h2
     ·split at h2
      ·rename_i hj;obtain ⟨k2,g2⟩:=ih _ h2;refine ⟨max k1 k2,?_⟩;rw [T.ev_le (E5 hE (zz k1 k2)) (Af _) g1];simp only [Av];rw [if_pos hj];exact Jy (fun vs o ho=>T.ev_le (E5 hE (Yd k1 k2)) (Af _) ho) (Af _) g2
      ·rename_i hj;exact ⟨k1,by rw [g1];simp only [Av];rw [if_neg hj];exact h2⟩
     ·exact ⟨k1,by rw [g1];exact h2⟩
   obtain ⟨k,g⟩:=key N st h2;exact ⟨k,by rw [h1];exact g⟩
theorem nx (hE:Et ext) {f n N:Nat} {ft:FT} {args rs:List PV} (ht:tab f=some ft) (hn:ft.np=n) (hl:args.length=ft.np % TAG+ft.nf) (h:ft.t.ev (sem tab ext) N args=some (.ret rs)):sem tab ext f n args=some rs:=by obtain ⟨k,hk⟩:=T.ev_cont hE h;refine (Lm hE).2 ⟨max k N+1,?_⟩;rw [Jw];simp only [ht];rw [if_pos ⟨hn,hl⟩,T.ev_le (E5 hE (zz k N)) (Yd k N) hk];rfl
end
end Go.X
/- Functions without a body: what the model says of them. -/
namespace Go.X
open Go Go.RowKit
inductive XK where
 |countS|indexS|cmpS
 deriving DecidableEq
def XK.entry:XK→Array Value→Sem Value
 | .countS=>Extern.BytealgCount.count
 | .indexS=>Extern.BytealgIndexByte.indexByte
 | .cmpS=>Extern.BytealgCompare.compare
def Rn (f:List UInt8→UInt8→Int):List PV→Option (List PV)
 |[.s x, .i .u8 c]=>some [.i .i64 (f x c.toNat.toUInt8)]
 |_=>none
def nd (f:List UInt8→List UInt8→Int):List PV→Option (List PV)
 |[.s x, .s y]=>some [.i .i64 (f x y)]
 |_=>none
def XK.run:XK→List PV→Option (List PV)
 | .countS=>Rn fun x c=>(Lib.countByte x c:Int)
 | .indexS=>Rn Lib.indexByte
 | .cmpS=>nd Lib.compareBytes
theorem Gk {f:List UInt8→UInt8→Int} {vs rs:List PV} (h:Rn f vs=some rs):∃x c,vs=[.s x, .i .u8 c]∧rs=[.i .i64 (f x c.toNat.toUInt8)]:=by
 unfold Rn at h;split at h
 ·rename_i x c;injection h with h;exact ⟨x,c,rfl,h.symm⟩
 ·cases h
theorem Kh {f:List UInt8→List UInt8→Int} {vs rs:List PV} (h:nd f vs=some rs):∃x y,vs=[.s x, .s y]∧rs=[.i .i64 (f x y)]:=by
 unfold nd at h;split at h
 ·rename_i x c;injection h with h;exact ⟨x,c,rfl,h.symm⟩
 ·cases h
def lkX:List (Nat×XK)→Nat→Option XK
 |[],_=>none
 |(k,t)::r,f=>if k=f then some t else lkX r f
def Ov (xs:List (Nat×XK)):Fns→Fns:=fun _ f n args=>match lkX xs f with
 |some k=>if n=args.length then k.run args else none
 |none=>none
theorem K6 (xs:List (Nat×XK)):Et (Ov xs):=fun _ _ _ _ _ _ _ h=>h
def XOK (P : Program) (f : Nat) (k : XK) : Prop := ∃ func, P.funcs[f]? = some func ∧ (func.name == "runtime.NumGoroutine") = false ∧ func.body.isNone = true ∧ Extern.findNext func = none ∧ Extern.find func = some k.entry
def z0 (P:Program):List (Nat×XK)→Prop
 |[]=>True
 |p::r=>XOK P p.1 p.2∧z0 P r
theorem fc {P:Program}:∀{xs:List (Nat×XK)} {f:Nat} {k:XK},z0 P xs→lkX xs f=some k→XOK P f k
 |[],_,_,_,h=>by simp [lkX] at h
 |(j,t)::r,f,k,hx,h=>by
  simp only [lkX] at h;split at h
  ·rename_i e;injection h with h;subst h;subst e;exact hx.1
  ·exact fc hx.2 h
theorem H3 {w:World} {O:Nat→Option Nat} {n:Nat} {vs:List PV} {args:Array Value} (hg:Given w O n vs args) (hn:n=vs.length) {j:Nat} {p:PV} (hp:vs[j]? =some p):∃v,args[j]? =some v∧Rep (A1 w O) p v:=by have hj:=(Az.1 hp).1;have hs:=hg.size;obtain ⟨v,hv⟩:∃v,args[j]? =some v:=⟨args[j]'(by omega),B8 (by omega)⟩;exact ⟨v,hv,hg.val j p v (by omega) hp hv⟩
theorem Ld {args:Array Value} {a b:Value} (hs:args.size=2) (ha:args[0]? =some a) (hb:args[1]? =some b):args= #[a,b]:=by
 obtain ⟨l⟩:=args
 match l,hs with
 |[x,y],_=>simp at ha hb;simp [ha,hb]
theorem Rk {sig:Nat→Option Nat}:∀{xs:List (Nat×XK)},(xs.all fun p=>(sig p.1).isNone)=true→∀f k,lkX xs f=some k→sig f=none
 |[],_,f,k,h=>by simp [lkX] at h
 |(j,t)::r,h,f,k,hk=>by
  simp only [List.all_cons,Ax,Bz] at h;simp only [lkX] at hk;split at hk
  ·rename_i e;subst e;exact h.1
  ·exact Rk h.2 f k hk
theorem XK.run_len {k:XK} {vs rs:List PV} (h:k.run vs=some rs):vs.length=2:=by
 cases k with
 |countS=>obtain ⟨x,c,rfl,_⟩:=Gk (by simpa only [XK.run] using h);rfl
 |indexS=>obtain ⟨x,c,rfl,_⟩:=Gk (by simpa only [XK.run] using h);rfl
 |cmpS=>obtain ⟨x,c,rfl,_⟩:=Kh h;rfl
theorem dc {P:Program} {sig:Nat→Option Nat} {xs:List (Nat×XK)} (hx:z0 P xs) (hsig:∀f k,lkX xs f=some k→sig f=none) (fn:Fns) (hC:Contract P sig fn):Contract P sig (Ov xs fn):=by
 refine ⟨fun f n vs rs h=> ?_,hC.bld⟩
 ·simp only [Ov] at h;split at h
  ·rename_i k hk;split at h
   ·rename_i hn;refine ⟨fun _ w O args hg=> ?_,fun hT=>by rw [hn,XK.run_len h] at hT;simp [TAG] at hT⟩;obtain ⟨func,h1,h2,h3,h4,h5⟩:=fc hx hk;have hrun:=fun a=>run_callFunc_extern h1 h2 h3 h4 h5 a w;have fin:∀(z:Int) (a:Array Value),args=a→(k.entry a).run P w= .ok (.int .i64 z) w→D6 P f args w (ez P (sig f) w O [.i .i64 z]):=by
     intro z a ha hr;subst ha;refine .inl ⟨.int .i64 z,w,?_,Blw.refl _ _,O,fun _ _=>rfl,hg.out,?_⟩
     ·rw [hrun,hr];rfl
     ·rw [hsig f k hk];exact Rep.i .i64 z
    cases k with
    |countS=>
     obtain ⟨x,c,rfl,rfl⟩:=Gk (by simpa only [XK.run] using h);obtain ⟨a,ha,ra⟩:=H3 hg hn (j:=0) rfl;obtain ⟨b,hb,rb⟩:=H3 hg hn (j:=1) rfl;have e:=Ld (by rw [hg.size];rfl) ha hb;obtain ⟨s,rfl,rfl⟩:=ra.str;have:=rb.int;subst this;exact fin _ _ e (Lib.run_countString s c w)
    |indexS=>
     obtain ⟨x,c,rfl,rfl⟩:=Gk (by simpa only [XK.run] using h);obtain ⟨a,ha,ra⟩:=H3 hg hn (j:=0) rfl;obtain ⟨b,hb,rb⟩:=H3 hg hn (j:=1) rfl;have e:=Ld (by rw [hg.size];rfl) ha hb;obtain ⟨s,rfl,rfl⟩:=ra.str;have:=rb.int;subst this;exact fin _ _ e (Lib.run_indexByteString s c w)
    |cmpS=>
     obtain ⟨x,y,rfl,rfl⟩:=Kh h;obtain ⟨a,ha,ra⟩:=H3 hg hn (j:=0) rfl;obtain ⟨b,hb,rb⟩:=H3 hg hn (j:=1) rfl;have e:=Ld (by rw [hg.size];rfl) ha hb;obtain ⟨s,rfl,rfl⟩:=ra.str;obtain ⟨t,rfl,rfl⟩:=rb.str;exact fin _ _ e (Lib.run_compareString s t w)
   ·cases h
  ·cases h
theorem Uc {tab:Nat→Option FT} {xs:List (Nat×XK)} {f:Nat} {k:XK} {args rs:List PV} (ht:tab f=none) (hk:lkX xs f=some k) (h:k.run args=some rs):sem tab (Ov xs) f args.length args=some rs:=by refine (Lm (K6 xs)).2 ⟨1,?_⟩;rw [Jw];simp only [ht];simp only [Ov,hk,if_true];exact h
end Go.X
/- slices.SortFunc, by the library's contract: what is turned is the sorted list. -/
namespace Go.X
open Go Go.RowKit
def scl:PV→Bool
 | .b _| .i _ _| .s _=>true
 |_=>false
def Af1 (agg:Bool) (sz:Nat):PV→Bool
 | .a cs=>agg && cs.length==sz && cs.all scl
 |p=> !agg && sz==1 && scl p
def Mf (fn:Fns) (g:Nat) (caps:List PV) (x y:PV):Int:=match fn g 2 (x::y::caps) with
 |some [.i .i64 n]=>n
 |_=>0
structure SortFit (fn:Fns) (g:Nat) (caps xs:List PV):Prop where
 ans:∀x∈xs,∀y∈xs,fn g 2 (x::y::caps)=some [.i .i64 (Mf fn g caps x y)]
 irr:∀x∈xs,¬Mf fn g caps x x<0
 tr:∀x∈xs,∀y∈xs,∀z∈xs,Mf fn g caps x y<0→Mf fn g caps y z<0→Mf fn g caps x z<0
 ntr:∀x∈xs,∀y∈xs,∀z∈xs,¬Mf fn g caps x y<0→¬Mf fn g caps y z<0→¬Mf fn g caps x z<0
 tot:∀x∈xs,∀y∈xs,¬Mf fn g caps x y<0→¬Mf fn g caps y x<0→x=y
def Ad2 (fn:Fns) (g:Nat) (caps:List PV) (x y:PV):Bool:= !decide (Mf fn g caps y x<0)
theorem ql {fn fn':Fns} (hf:Fle fn fn') {g:Nat} {caps:List PV} {x y:PV} {n:Int} (h:fn g 2 (x::y::caps)=some [.i .i64 n]):Mf fn' g caps x y=n∧Mf fn g caps x y=n:=by unfold Mf;rw [h,hf _ _ _ _ h];exact ⟨rfl,rfl⟩
theorem SortFit.le {fn fn':Fns} (hf:Fle fn fn') {g:Nat} {caps xs:List PV} (h:SortFit fn g caps xs):SortFit fn' g caps xs∧∀x∈xs,∀y∈xs,Mf fn' g caps x y=Mf fn g caps x y:=by
 have e:∀x∈xs,∀y∈xs,Mf fn' g caps x y=Mf fn g caps x y:=fun x hx y hy=>(ql hf (h.ans x hx y hy)).1;refine ⟨⟨fun x hx y hy=> ?_,fun x hx=> ?_,fun x hx y hy z hz=> ?_,fun x hx y hy z hz=> ?_,fun x hx y hy=> ?_⟩,e⟩
 ·rw [e x hx y hy];exact hf _ _ _ _ (h.ans x hx y hy)
 ·rw [e x hx x hx];exact h.irr x hx
 ·rw [e x hx y hy,e y hy z hz,e x hx z hz];exact h.tr x hx y hy z hz
 ·rw [e x hx y hy,e y hy z hz,e x hx z hz];exact h.ntr x hx y hy z hz
 ·rw [e x hx y hy,e y hy x hx];exact h.tot x hx y hy
structure SK where
 agg:Bool
 e:Nat
 sz:Nat
 gs:List Nat
open Classical in
noncomputable def SK.run (s:SK) (fn:Fns) (n:Nat):List PV→Option (List PV)
 |[.l sz xs, .f g caps]=>if n=TAG+2∧sz=s.sz∧g∈s.gs∧xs.length<4611686018427387904∧(∀x∈xs,Af1 s.agg s.sz x=true)∧SortFit fn g caps xs then some [.l sz (xs.mergeSort (Ad2 fn g caps))] else none
 |_=>none
def eq (P:Program) (f sz:Nat) (agg:Bool):Prop:=
 (∀(p:Option Addr) (cap:Nat) (fv:Value) (w:World),Calls P f #[.slice p 0 cap,fv] w fun e w'=>e= .returned (.tuple #[])∧w'=w)∧
 match agg with
 |false=>sz=1∧∀{α:Type} [Inhabited α] (enc:α→Value) (_:Proofs.OneCell enc) (cf:α→α→Int) (_:Sort.SWO (Proofs.ltOf cf)) (g:Nat) (cb:Array Value) (blk off cap:Nat) (d:Array α) (w:World)
   (_:∀args w,(callFunc g args).run P w= .ok (.enter g args) w) (_:Proofs.CmpLays1 P g cb enc cf blk off d.size w) (_:Sort.Holds enc w blk off d) (_:blk<w.heap.size) (_:d.size<4611686018427387904) (_:∀x y,(Proofs.ltOf cf) x y=false→(Proofs.ltOf cf) y x=false→x=y),
   Calls P f #[.slice (some ⟨blk,off,none⟩) d.size cap, .func (.func g) #[] cb] w fun e w'=>
    e= .returned (.tuple #[])∧∃n os,w'=Proofs.sortWorld enc w blk off n (d.toList.mergeSort fun x y=> !(Proofs.ltOf cf) y x).toArray os
 |true=>∀{α:Type} [Inhabited α] (enc:α→List Value) (_:∀x,(enc x).length=sz) (_:∀x,∀v∈enc x,v.oneCell'=true) (cf:α→α→Int) (_:Sort.SWO (Proofs.ltOf cf)) (g:Nat) (cb:Array Value) (blk off cap:Nat) (d:Array α) (w:World)
   (_:∀args w,(callFunc g args).run P w= .ok (.enter g args) w) (_:Proofs.CmpLays P g cb enc sz cf blk off d.size w) (_:Sort.HoldsK enc sz w blk off d) (_:blk<w.heap.size) (_:d.size<4611686018427387904) (_:∀x y,(Proofs.ltOf cf) x y=false→(Proofs.ltOf cf) y x=false→x=y),
   Calls P f #[.slice (some ⟨blk,off,none⟩) d.size cap, .func (.func g) #[] cb] w fun e w'=>
    e= .returned (.tuple #[])∧∃n os,w'=Proofs.sortWorldK enc sz w blk off n (d.toList.mergeSort fun x y=> !(Proofs.ltOf cf) y x).toArray os
def Yw (P : Program) (f : Nat) : Prop := ∃ fn, P.funcs[f]? = some fn ∧ (fn.name == "runtime.NumGoroutine") = false ∧ fn.body.isSome = true
structure SOK (P:Program) (sig:Nat→Option Nat) (f:Nat) (s:SK):Prop where
 sig:Kt (sig f)=some (s.e,false)
 size:Ad P s.e=s.sz
 says:eq P f s.sz s.agg
 body:Yw P f
 gs:∀g∈s.gs,Yw P g
end Go.X
/- slices.SortFunc: the library's contract keeps the executor's. -/
namespace Go.X
open Go Go.RowKit
section
variable {w:World} {O:Nat→Option Nat} {g m:Nat} {F:Array Value} {os:Array Obj}
end
theorem Blw.grow {w w':World} (h:Blw w.heap.size w w'):∃q os',w'=Sort.grow (w.drewN q) os':=by
 obtain ⟨h1,h2,h3,h4,h5,h6⟩:=h;refine ⟨w'.drawn - w.drawn,w'.heap.extract w.heap.size w'.heap.size,?_⟩;have hh:w'.heap=w.heap++w'.heap.extract w.heap.size w'.heap.size:=by
  apply Array.ext_getElem?;intro k;by_cases hk:k<w.heap.size
  ·rw [Bt hk,h6 k hk]
  ·rw [Array.getElem?_append_right (by omega),Array.getElem?_extract];by_cases hk2:k<w'.heap.size
   ·rw [if_pos (by omega)];congr 1;omega
   ·rw [if_neg (by omega),Array.getElem?_eq_none (by omega)]
 obtain ⟨a1,a2,a3,a4,a5⟩:=w';obtain ⟨b1,b2,b3,b4,b5⟩:=w;simp only at h1 h2 h3 h4 hh;subst h1;subst h2;subst h3;simp only [Sort.grow,World.drewN,World.mk.injEq];refine ⟨hh,trivial,by omega,trivial,trivial⟩
section
variable {P:Program} {sig:Nat→Option Nat} {fn:Fns}
end
end Go.X
/- slices.SortFunc, outside: what it says. -/
namespace Go.X
open Go Go.RowKit
section
variable {P:Program} {sig:Nat→Option Nat} {fn:Fns}
end
end Go.X
/- What comes in: the readings of a row's arguments as plain values. -/
namespace Go.X
open Go
inductive Sh where
 |b|i (k:IntKind)|s
 |l (e:Sh)
 |st (fs:List Sh)
 deriving Inhabited
mutual
def Sh.size:Sh→Nat
 | .st fs=>Sh.sizes fs
 |_=>1
def Sh.sizes:List Sh→Nat
 |[]=>0
 |f::fs=>f.size+Sh.sizes fs
end
def Sh.agg:Sh→Bool
 | .st _=>true
 |_=>false
mutual
def Sh.okC:Sh→List PV→Prop
 | .b,cs=>∃x,cs=[.b x]
 | .i k,cs=>∃n,cs=[.i k n]∧k.min≤n∧n≤k.max
 | .s,cs=>∃x,cs=[.s x]∧x.length≤maxLen
 | .l e,cs=>∃xs,cs=[.l e.size xs]∧xs.length≤maxLen∧∀x,x∈xs→if e.agg then∃ds,x= .a ds∧e.okC ds else x.scal=true∧e.okC [x]
 | .st fs,cs=>Sh.okCs fs cs
def Sh.okCs:List Sh→List PV→Prop
 |[],cs=>cs=[]
 |f::fs,cs=>∃a b,cs=a++b∧f.okC a∧Sh.okCs fs b
end
def Sh.ok (sh:Sh) (p:PV):Prop:=if sh.agg then∃ds,p= .a ds∧sh.okC ds else p.scal=true∧sh.okC [p]
mutual
theorem Sh.okC_len:∀(sh:Sh) (cs:List PV),sh.okC cs→cs.length=sh.size
 | .b,cs,h=>by simp only [Sh.okC] at h;obtain ⟨x,rfl⟩:=h;rfl
 | .i k,cs,h=>by simp only [Sh.okC] at h;obtain ⟨n,rfl,_⟩:=h;rfl
 | .s,cs,h=>by simp only [Sh.okC] at h;obtain ⟨x,rfl,_⟩:=h;rfl
 | .l e,cs,h=>by simp only [Sh.okC] at h;obtain ⟨x,rfl,_⟩:=h;rfl
 | .st fs,cs,h=>by simp only [Sh.okC] at h;simp only [Sh.size];exact Sh.okCs_len fs cs h
theorem Sh.okCs_len:∀(fs:List Sh) (cs:List PV),Sh.okCs fs cs→cs.length=Sh.sizes fs
 |[],cs,h=>by simp only [Sh.okCs] at h;subst h;rfl
 |f::fs,cs,h=>by simp only [Sh.okCs] at h;obtain ⟨a,b,rfl,h1,h2⟩:=h;rw [A3,Sh.okC_len f a h1,Sh.okCs_len fs b h2];rfl
end
def G9 (P:Program) (f:TypeId→Option Sh):List Field→Nat→Option (List Sh)
 |[],_=>some []
 |x::fs,off=>if x.offset=off then match f x.type with
  |some sh=>if P.cellsOf x.type=sh.size then (G9 P f fs (off+sh.size)).map (sh::·) else none
  |none=>none
  else none
def Ub (P:Program):Nat→TypeId→Option Sh
 |0,_=>none
 |d+1,t=>match P.underlying t with
  |some .bool=>some .b
  |some (.int k)=>some (.i k)
  |some .string=>some .s
  |some (.slice e)=>match Ub P d e with
   |some sh=>if P.cellsOf e=sh.size then some (.l sh) else none
   |none=>none
  |some (.struct fs)=>match G9 P (Ub P d) fs.toList 0 with
   |some shs=>if P.cellsOf t=Sh.sizes shs then some (.st shs) else none
   |none=>none
  |some (.array n e)=>match Ub P d e with
   |some sh=>if P.cellsOf e=sh.size then (if P.cellsOf t=n*sh.size then some (.st (List.replicate n sh)) else none) else none
   |none=>none
  |_=>none
theorem Mj {α β:Type} {f:α→Option β}:∀{l:List α} {ys:List β},l.mapM f=some ys→ys.length=l.length∧∀(i:Nat) (x:α) (y:β),l[i]? =some x→ys[i]? =some y→f x=some y
 |[],ys,h=>by simp at h;subst h;exact ⟨rfl,fun i x y hx=>by simp at hx⟩
 |x::l,ys,h=>by
  simp only [Ew,Ip,Aj,Mg,Ak] at h;obtain ⟨y,hy,r,hr,rfl⟩:=h;obtain ⟨h1,h2⟩:=Mj hr;refine ⟨by simp [h1],fun i a b ha hb=> ?_⟩;cases i with
  |zero=>simp at ha hb;subst ha;subst hb;exact hy
  |succ i=>exact h2 i a b (by simpa using ha) (by simpa using hb)
def H6 (agg:Bool) (cs:List PV):PV:=if agg then .a cs else cs.headD .u
abbrev J2:Nat→Option Nat:=fun _=>none
def Oc (M:Vw) (pcs:List PV) (cs:List Value):Prop:=pcs.length=cs.length∧∀(j:Nat) (p:PV) (v:Value),pcs[j]? =some p→cs[j]? =some v→One v∧Rep M p v
theorem Oc.append {M:Vw} {p q:List PV} {c d:List Value} (h:Oc M p c) (h':Oc M q d):Oc M (p++q) (c++d):=by
 refine ⟨by simp [h.1,h'.1],fun j x v hx hv=> ?_⟩;rw [List.getElem?_append] at hx hv;rw [h.1] at hx;split at hx
 ·rename_i hj;rw [if_pos hj] at hv;exact h.2 j x v hx hv
 ·rename_i hj;rw [if_neg hj] at hv;exact h'.2 _ x v hx hv
theorem Oc.one {M:Vw} {p:PV} {v:Value} (h1:One v) (h:Rep M p v):Oc M [p] [v]:=
 ⟨rfl,fun j q u hq hu=>by cases j with
  |zero=>simp at hq hu;subst hq;subst hu;exact ⟨h1,h⟩
  |succ j=>simp at hq⟩
theorem L4 {e:Sh} (he:e.agg=false) {cs:List PV} (h:e.okC cs):∃p,cs=[p]∧p.scal=true:=by
 cases e with
 |b=>simp only [Sh.okC] at h;obtain ⟨x,rfl⟩:=h;exact ⟨_,rfl,rfl⟩
 |i k=>simp only [Sh.okC] at h;obtain ⟨n,rfl,_⟩:=h;exact ⟨_,rfl,rfl⟩
 |s=>simp only [Sh.okC] at h;obtain ⟨n,rfl,_⟩:=h;exact ⟨_,rfl,rfl⟩
 |l e=>simp only [Sh.okC] at h;obtain ⟨n,rfl,_⟩:=h;exact ⟨_,rfl,rfl⟩
 |st fs=>simp [Sh.agg] at he
theorem L6 {e:Sh} {cs:List PV} (h:e.okC cs):(H6 e.agg cs).cells=cs:=by
 cases he:e.agg with
 |true=>rfl
 |false=>
  obtain ⟨p,rfl,hp⟩:=L4 he h;exact PV.scal_cells hp
theorem cells?_get {w:World} {base:Nat} {a:Addr} {n:Nat} {cs:List Value} (h:w.cells? base a n=some cs):cs.length=n∧∀j v,cs[j]? =some v→w.cell? (a.add j)=some v:=by
 unfold World.cells? at h;split at h
 ·obtain ⟨h1,h2⟩:=Mj h;simp only [Qz] at h1;refine ⟨h1,fun j v hv=> ?_⟩;have hj:j<n:=by rw [←h1];exact (Az.1 hv).1
  exact h2 j j v (Bb hj) hv
 ·cases h
theorem Lf {H:Type} {enc:TypeId×Value→H} {P:Program} {w:World} {base:Nat} {spare:Nat→Bool} {held:Bool}:∀(fuel d:Nat) (t:TypeId) (sh:Sh) (cs:List Value) (x:DataW H×List MemPlace),Ub P d t=some sh→DataW.trod enc P w base spare held fuel t cs=some x→
  ∃pcs,sh.okC pcs∧Oc (A1 w J2) pcs cs
 |0,d,t,sh,cs,x,hs,h=>by simp [DataW.trod] at h
 |fuel+1,0,t,sh,cs,x,hs,h=>by simp [Ub] at hs
 |fuel+1,d+1,t,sh,cs,x,hs,h=>by
  simp only [Ub] at hs;split at hs
  ·rename_i hu;injection hs with hs;subst hs;simp only [DataW.trod,hu] at h;split at h<;>first|(rename_i heq;simp at heq;done)|(cases h;done)|skip
   exact ⟨_,⟨_,rfl⟩,Oc.one rfl (.b _)⟩
  ·rename_i k hu;injection hs with hs;subst hs;simp only [DataW.trod,hu] at h;split at h<;>first|(rename_i heq;simp at heq;done)|(cases h;done)|skip
   rename_i k1 k2 n heq;injection heq with heq;injection heq with heq;subst heq;split at h
   ·rename_i hc;obtain ⟨rfl,hwf⟩:=hc;simp only [Lit.wf,Ax,decide_eq_true_eq] at hwf;exact ⟨_,⟨_,rfl,hwf⟩,Oc.one rfl (.i _ _)⟩
   ·cases h
  ·rename_i hu;injection hs with hs;subst hs;simp only [DataW.trod,hu] at h;split at h<;>first|(rename_i heq;simp at heq;done)|(cases h;done)|skip
   rename_i s heq;split at h
   ·rename_i hc;refine ⟨_,⟨s.data.toList,rfl,?_⟩,Oc.one rfl (.s _ _ rfl)⟩;rw [A7];exact hc
   ·cases h
  ·-- a slice
   rename_i e hu;split at hs
   ·rename_i she hse;split at hs
    ·rename_i hsz;injection hs with hs;subst hs;simp only [DataW.trod,hu] at h;split at h<;>first|(rename_i heq;simp at heq;done)|(cases h;done)|skip
     ·exact ⟨_,⟨[],rfl,B4 _,fun x hx=>by simp at hx⟩,Oc.one rfl (Rep.lnil _ _ _ _)⟩
     ·rename_i e' a len cap heq;injection heq with heq;injection heq with heq;subst heq;split at h
      ·rename_i hc;obtain ⟨elems,hel,_⟩:=Aj.1 h;obtain ⟨hl,hget⟩:=Mj hel;simp only [Qz] at hl;have each:∀i,i<len→∃ecs pcs,w.cells? base (a.add (i*P.cellsOf e)) (P.cellsOf e)=some ecs∧she.okC pcs∧Oc (A1 w J2) pcs ecs:=by intro i hi;have hx:elems[i]? =some (elems[i]'(by omega)):=Ac (by omega);have:=hget i i _ (Bb hi) hx;obtain ⟨ecs,h1,h2⟩:=Aj.1 this;obtain ⟨pcs,h3,h4⟩:=Lf fuel d e she ecs _ hse h2;exact ⟨ecs,pcs,h1,h3,h4⟩
       have pick:∃f:Nat→List PV×List Value,∀i,i<len→w.cells? base (a.add (i*P.cellsOf e)) (P.cellsOf e)=some (f i).2∧she.okC (f i).1∧Oc (A1 w J2) (f i).1 (f i).2:=by
        have:∀i,∃y:List PV×List Value,i<len→w.cells? base (a.add (i*P.cellsOf e)) (P.cellsOf e)=some y.2∧she.okC y.1∧Oc (A1 w J2) y.1 y.2:=by
         intro i;by_cases hi:i<len
         ·obtain ⟨ecs,pcs,h1,h2,h3⟩:=each i hi;exact ⟨(pcs,ecs),fun _=>⟨h1,h2,h3⟩⟩
         ·exact ⟨default,fun h=>absurd h hi⟩
        exact ⟨fun i=>(this i).choose,fun i hi=>(this i).choose_spec hi⟩
       obtain ⟨f,hf⟩:=pick;have hsz':P.cellsOf e=she.size:=hsz;have hxs:∀(i:Nat) (x:PV),((List.range len).map fun i=>H6 she.agg (f i).1)[i]? =some x→i<len∧x=H6 she.agg (f i).1∧x.cells=(f i).1:=by
        intro i x hx;simp only [Bj,Aq] at hx;obtain ⟨k,hk,rfl⟩:=hx;have hi:i<len:=by have:=(Az.1 hk).1;simpa using this
        rw [Bb hi] at hk;injection hk with hk;subst hk;exact ⟨hi,rfl,L6 (hf i hi).2.1⟩
       have hlen:((List.range len).map fun i=>H6 she.agg (f i).1).length=len:=by simp
       refine ⟨[.l she.size ((List.range len).map fun i=>H6 she.agg (f i).1)],⟨_,rfl,by rw [hlen];omega,fun x hx=> ?_⟩,Oc.one rfl ?_⟩
       ·obtain ⟨i,hi⟩:=G3 hx;obtain ⟨h1,h2,h3⟩:=hxs i x hi;cases he:she.agg with
        |true=>
         simp only [if_true];exact ⟨(f i).1,by rw [h2,he];rfl,(hf i h1).2.1⟩
        |false=>
         simp only [Ay,if_false];obtain ⟨p,hp,hps⟩:=L4 he (hf i h1).2.1;have:x=p:=by rw [h2,he,hp];rfl
         subst this;exact ⟨hps,by rw [←hp];exact (hf i h1).2.1⟩
       ·have:=Rep.l (M:=A1 w J2) she.size ((List.range len).map fun i=>H6 she.agg (f i).1) (some a) cap a (fun i j=>(f i).2.getD j undef) (by rw [hlen];exact hc.2.1) (fun _=>rfl)
         (fun i x hx=>by obtain ⟨h1,h2,h3⟩:=hxs i x hx;rw [h3];exact Sh.okC_len _ _ (hf i h1).2.1) ?_ ?_ ?_
        ·rw [hlen] at this;exact this
        all_goals
         intro i x j c hx hcj;obtain ⟨h1,h2,h3⟩:=hxs i x hx;obtain ⟨g1,g2,g3⟩:=hf i h1;rw [h3] at hcj;obtain ⟨c1,c2⟩:=cells?_get g1;have hj:j<(f i).2.length:=by rw [←g3.1];exact (Az.1 hcj).1
         have hv:(f i).2[j]? =some ((f i).2[j]):=Ac hj;have hd:(f i).2.getD j undef=(f i).2[j]:=by rw [A4,hv];rfl
        ·rw [hd];refine Cb ?_ (fun lim hl=>by cases hl);rw [←hsz',←Addr.add_add];exact c2 j _ hv
        ·rw [hd];exact (g3.2 j c _ hcj hv).1
        ·rw [hd];exact (g3.2 j c _ hcj hv).2
      ·cases h
    ·cases hs
   ·cases hs
  ·-- a struct
   rename_i fs hu;split at hs
   ·rename_i shs hshs;split at hs
    ·rename_i hsz;injection hs with hs;subst hs;have h':∃ys,cs.length=P.cellsOf t∧(fs.toList.mapM fun f=>DataW.trod enc P w base spare held fuel f.type ((cs.drop f.offset).take (P.cellsOf f.type)))=some ys:=by
      simp only [DataW.trod,hu] at h;by_cases hl:cs.length=P.cellsOf t
      ·rw [if_pos hl] at h;obtain ⟨ys,hy,_⟩:=Aq.1 h;exact ⟨ys,hl,hy⟩
      ·rw [if_neg hl] at h;cases h
     obtain ⟨ys,hlen,hys⟩:=h';have go:∀(l:List Field) (off:Nat) (shs:List Sh) (ys:List (DataW H×List MemPlace)),G9 P (Ub P d) l off=some shs→(l.mapM fun f=>DataW.trod enc P w base spare held fuel f.type ((cs.drop f.offset).take (P.cellsOf f.type)))=some ys→cs.length=off+Sh.sizes shs→
       ∃pcs,Sh.okCs shs pcs∧Oc (A1 w J2) pcs (cs.drop off):=by
      intro l
      induction l with
      |nil=>
       intro off shs ys h1 h2 h3;simp only [G9,Ak] at h1;subst h1;refine ⟨[],rfl,?_⟩;have:cs.drop off=[]:=Lw (by simp only [Sh.sizes] at h3;omega);rw [this];exact ⟨rfl,fun j p v hp=>by simp at hp⟩
      |cons fl l ih=>
       intro off shs ys h1 h2 h3;simp only [G9] at h1;split at h1
       ·rename_i hoff;subst hoff;split at h1
        ·rename_i sh hsh;split at h1
         ·rename_i hsize;obtain ⟨rest,hrest,rfl⟩:=Aq.1 h1;simp only [Ew,Ip,Aj,Mg,Ak] at h2;obtain ⟨y,hy,r,hr,rfl⟩:=h2;obtain ⟨pcs,p1,p2⟩:=Lf fuel d fl.type sh _ _ hsh hy;simp only [Sh.sizes] at h3;obtain ⟨qcs,q1,q2⟩:=ih (fl.offset+sh.size) rest r hrest hr (by omega);refine ⟨pcs++qcs,⟨pcs,qcs,rfl,p1,q1⟩,?_⟩;have e:cs.drop fl.offset=(cs.drop fl.offset).take (P.cellsOf fl.type)++cs.drop (fl.offset+sh.size):=by rw [hsize,←List.drop_drop,List.take_append_drop]
          rw [e];exact p2.append q2
         ·cases h1
        ·cases h1
       ·cases h1
     obtain ⟨pcs,p1,p2⟩:=go fs.toList 0 shs ys hshs hys (by omega);exact ⟨pcs,p1,by simpa using p2⟩
    ·cases hs
   ·cases hs
  ·-- an array
   rename_i n e hu;split at hs
   ·rename_i sh hse;split at hs
    ·rename_i hsz;split at hs
     ·rename_i hsz2;injection hs with hs;subst hs;have h':∃ys,cs.length=P.cellsOf t∧((List.range n).mapM fun i=>DataW.trod enc P w base spare held fuel e ((cs.drop (i*P.cellsOf e)).take (P.cellsOf e)))=some ys:=by
       simp only [DataW.trod,hu] at h;by_cases hl:cs.length=P.cellsOf t
       ·rw [if_pos hl] at h;obtain ⟨ys,hy,_⟩:=Aq.1 h;exact ⟨ys,hl,hy⟩
       ·rw [if_neg hl] at h;cases h
      obtain ⟨ys,hlen,hys⟩:=h';have go:∀(m off:Nat) (ys:List (DataW H×List MemPlace)),((List.range' off m).mapM fun i=>DataW.trod enc P w base spare held fuel e ((cs.drop (i*P.cellsOf e)).take (P.cellsOf e)))=some ys→cs.length=off*sh.size+m*sh.size→
        ∃pcs,Sh.okCs (List.replicate m sh) pcs∧Oc (A1 w J2) pcs (cs.drop (off*sh.size)):=by
       intro m
       induction m with
       |zero=>
        intro off ys h2 h3;refine ⟨[],rfl,?_⟩;have:cs.drop (off*sh.size)=[]:=Lw (by omega);rw [this];exact ⟨rfl,fun j p v hp=>by simp at hp⟩
       |succ m ih=>
        intro off ys h2 h3;simp only [List.range'_succ,Ew,Ip,Aj,Mg,Ak] at h2;obtain ⟨y,hy,r,hr,rfl⟩:=h2;obtain ⟨pcs,p1,p2⟩:=Lf fuel d e sh _ _ hse hy;have e1:(off+1)*sh.size=off*sh.size+sh.size:=by rw [By,C2]
        have e2:(m+1)*sh.size=m*sh.size+sh.size:=by rw [By,C2]
        obtain ⟨qcs,q1,q2⟩:=ih (off+1) r hr (by omega);refine ⟨pcs++qcs,⟨pcs,qcs,rfl,p1,q1⟩,?_⟩;rw [hsz] at p2;have e3:cs.drop (off*sh.size)=(cs.drop (off*sh.size)).take sh.size++cs.drop ((off+1)*sh.size):=by rw [e1,←List.drop_drop,List.take_append_drop]
        rw [e3];exact p2.append q2
      rw [List.range_eq_range'] at hys;obtain ⟨pcs,p1,p2⟩:=go n 0 ys hys (by omega);refine ⟨pcs,?_,by simpa using p2⟩;simpa only [Sh.okC] using p1
     ·cases hs
    ·cases hs
   ·cases hs
  ·cases hs
end Go.X
/- A law's row: what its call comes to, said of readings. -/
namespace Go.X
open Go Go.RowKit Go.ChangeShapes Go.WideShapes
section
variable {H:Type} {enc:TypeId×Value→H} {P:Program} {sig:Nat→Option Nat} {tab:Nat→Option FT} {ext:Fns→Fns}
theorem Ud (hM:Et ext) (hT:Tab P sig tab) (hE:∀fn,Contract P sig fn→Contract P sig (ext fn)) {f n:Nat} {ft:FT} {vs rs:List PV} (hf:tab f=some ft) (hmu:Kt (sig f)=none) (hfa:Oq (sig f)=none) (h:sem tab ext f n vs=some rs) {w:World} {O:Nat→Option Nat} {args:Array Value} (hg:Given w O n vs args):
  Calls P f args w fun e w'=>∃v,e= .returned v∧ez P (sig f) w O rs v w':=by
 obtain ⟨k,hk⟩:=(Lm hM).1 h;cases k with
 |zero=>simp [Jw] at hk
 |succ k=>
  rw [Jw] at hk;simp only [hf] at hk;split at hk
  ·rename_i hc;obtain ⟨o,ho,hk⟩:=Aj.1 hk;split at hk
   ·injection hk with hk;subst hk;obtain ⟨func,Hn,hfn,hn,hp,hlt,hnf,t0,hx,hs⟩:=hT.1 f ft hf;rw [←hs,Dp] at ho;unfold Td at hp;rw [hmu,hfa] at hp;simp only [z7,Bool.or_self,Ay,if_false,Cz] at hp;exact Or (Ul hT hE k) hmu hfn hx ho (by rw [hc.2,←hp,C0 hlt,hnf]) (by rw [hp,hc.1];exact hg) (fun e he=>by rw [hfa] at he;cases he)
   ·cases hk
  ·cases hk
def Oks:List Sh→List PV→Prop
 |[],[]=>True
 |sh::ss,p::ps=>sh.ok p∧Oks ss ps
 |_,_=>False
theorem Oks.len:∀{ss:List Sh} {ps:List PV},Oks ss ps→ps.length=ss.length
 |[],[],_=>rfl
 |_::_,_::_,h=>by simp [Oks.len h.2]
 |[],_::_,h=>h.elim
 |_::_,[],h=>h.elim
def M9 (P:Program) (ts:List TypeId):Option (List Sh):=ts.mapM (Ub P 30)
theorem al {w:World} {base b0:Nat} {spare:Nat→Bool} {held:Bool} {t:TypeId} {v:Value} {d:DataW H} {ps:List MemPlace} {sh:Sh} {n:Nat} (hs:Ub P n t=some sh) (hok:Value.okWide P w .any base t v) (h:DataW.Trod enc P w b0 spare held t v d ps):
  ∃p,sh.ok p∧Rep (A1 w J2) p v:=by
 obtain ⟨fuel,hf⟩:=h;obtain ⟨pcs,h1,h2⟩:=Lf fuel n t sh _ _ hs hf;have single:sh.agg=false→v.cells= #[v]→∃p,sh.ok p∧Rep (A1 w J2) p v:=by intro ha hv;obtain ⟨p,rfl,hp⟩:=L4 ha h1;rw [hv] at h2;refine ⟨p,?_,(h2.2 0 p v rfl rfl).2⟩;unfold Sh.ok;rw [ha];simp only [Ay,if_false];exact ⟨hp,h1⟩
 cases n with
 |zero=>simp [Ub] at hs
 |succ n=>
  simp only [Ub] at hs;split at hs
  ·rename_i hu;injection hs with hs;subst hs;obtain ⟨b,rfl⟩:=okWide_bool hu hok;exact single rfl rfl
  ·rename_i k hu;injection hs with hs;subst hs;obtain ⟨b,rfl⟩:=okWide_int hu hok;exact single rfl rfl
  ·rename_i hu;injection hs with hs;subst hs;obtain ⟨b,rfl⟩:=okWide_string hu hok;exact single rfl rfl
  ·rename_i e hu;split at hs
   ·split at hs
    ·injection hs with hs;subst hs;obtain ⟨a,l,c,rfl⟩:=okWide_slice hu hok;exact single rfl rfl
    ·cases hs
   ·cases hs
  ·rename_i fs hu;split at hs
   ·split at hs
    ·injection hs with hs;subst hs;simp only [Value.okWide,hu] at hok;obtain ⟨cs,rfl,_,_⟩:=hok;refine ⟨.a pcs,?_,?_⟩
     ·unfold Sh.ok;simp only [Sh.agg,if_true];exact ⟨pcs,rfl,h1⟩
     ·have hl:pcs.length=cs.toList.length:=h2.1;refine Rep.a pcs cs (by rw [hl,A7]) (fun u hu=> ?_) (fun j c u hc hu=>(h2.2 j c u hc (by show cs.toList[j]? =some u;rw [Ab];exact hu)).2);obtain ⟨j,hj⟩:=G3 hu;have hj1:=(Az.1 hj).1;exact (h2.2 j _ u (Ac (by omega)) hj).1
    ·cases hs
   ·cases hs
  ·rename_i n e hu;split at hs
   ·split at hs
    ·split at hs
     ·injection hs with hs;subst hs;simp only [Value.okWide,hu] at hok;obtain ⟨cs,rfl,_,_⟩:=hok;refine ⟨.a pcs,?_,?_⟩
      ·unfold Sh.ok;simp only [Sh.agg,if_true];exact ⟨pcs,rfl,h1⟩
      ·have hl:pcs.length=cs.toList.length:=h2.1;refine Rep.a pcs cs (by rw [hl,A7]) (fun u hu=> ?_) (fun j c u hc hu=>(h2.2 j c u hc (by show cs.toList[j]? =some u;rw [Ab];exact hu)).2);obtain ⟨j,hj⟩:=G3 hu;have hj1:=(Az.1 hj).1;exact (h2.2 j _ u (Ac (by omega)) hj).1
     ·cases hs
    ·cases hs
   ·cases hs
  ·cases hs
theorem Qs {w:World} {base b0:Nat} {spare:Nat→Bool} {held:Bool}:∀{ts:List TypeId} {shs:List Sh} {vs:List Value} {ds:List (DataW H)} {ps:List MemPlace},M9 P ts=some shs→(∀(j:Nat) t v,ts[j]? =some t→vs[j]? =some v→Value.okWide P w .any base t v)→
  DataW.TrodAll enc P w b0 spare held ts vs ds ps→∃qs,Oks shs qs∧qs.length=vs.length∧∀(j:Nat) (p:PV) (v:Value),qs[j]? =some p→vs[j]? =some v→Rep (A1 w J2) p v
 |[],shs,vs,ds,ps,hs,hok,h=>by simp only [M9,List.mapM_nil,Mg,Ak] at hs;subst hs;obtain ⟨rfl,rfl,rfl⟩:=trodAll_nil h;exact ⟨[],trivial,rfl,fun j p v hp=>by simp at hp⟩
 |t::ts,shs,vs,ds,ps,hs,hok,h=>by
  simp only [M9,Ew,Ip,Aj,Mg,Ak] at hs;obtain ⟨sh,hsh,rest,hrest,rfl⟩:=hs;obtain ⟨v,vs',d,ds',p,q,rfl,rfl,rfl,h1,h2⟩:=trodAll_cons h;obtain ⟨x,x1,x2⟩:=al hsh (hok 0 t v rfl rfl) h1;obtain ⟨qs,q1,q2,q3⟩:=Qs hrest (fun j t' v' ht hv=>hok (j+1) t' v' (by simpa using ht) (by simpa using hv)) h2;refine ⟨x::qs,⟨x1,q1⟩,by simp [q2],fun j p' v' hp hv=> ?_⟩;cases j with
  |zero=>simp at hp hv;subst hp;subst hv;exact x2
  |succ j=>exact q3 j p' v' (by simpa using hp) (by simpa using hv)
theorem Ry (hl:laidOutB P=true) {W W':World} (hb:Below W.heap.size W W'):∀{ts:List TypeId} {vs:List Value} {ds:List (DataW H)} {ps:List MemPlace},(ts.all fun t=>P.readableRec t && decide (t<P.types.size))=true→DataW.TrodAll enc P W 0 (fun _=>true) true ts vs ds ps→
  DataW.TrodAll enc P W' 0 (fun b=>decide (b<W.heap.size)) true ts vs ds ps
 |[],vs,ds,ps,_,h=>by obtain ⟨rfl,rfl,rfl⟩:=trodAll_nil h;exact trodAll_mk0
 |t::ts,vs,ds,ps,hr,h=>by simp only [List.all_cons,Ax,decide_eq_true_eq] at hr;obtain ⟨v,vs',d,ds',p,q,rfl,rfl,rfl,h1,h2⟩:=trodAll_cons h;refine trodAll_cons_mk (Below.trod hl hr.1.1 hr.1.2 h1 hb ?_) (Ry hl hb (by simpa using hr.2) h2);obtain ⟨m,hm⟩:=h1;exact DataW.trod_lt m _ _ _ hm
theorem law_calls (hM:Et ext) (hT:Tab P sig tab) (hE:∀fn,Contract P sig fn→Contract P sig (ext fn)) {f:Nat} {ft:FT} (hf:tab f=some ft) (hsig:sig f=none) {ts:List TypeId} {shs:List Sh} (hs:M9 P ts=some shs)
  (law:∀qs,Oks shs qs→sem tab ext f shs.length qs=some [.b true]) {W:World} {base b0:Nat} {spare:Nat→Bool} {held:Bool} {args:Array Value} {ds:List (DataW H)} {ps:List MemPlace}
  (hok:∀(j:Nat) t v,ts[j]? =some t→args[j]? =some v→Value.okWide P W .any base t v) (h:DataW.TrodAll enc P W b0 spare held ts args.toList ds ps):
  Calls P f args W fun e W'=>e= .returned (.bool true)∧Below W.heap.size W W':=by
 obtain ⟨qs,q1,q2,q3⟩:=Qs hs (fun j t v ht hv=>hok j t v ht (by simpa using hv)) h;have hlen:=q1.len;refine (Ud hM hT hE hf (by rw [hsig];rfl) (by rw [hsig];rfl) (law qs q1) (O:=J2) ⟨fun _ _=>rfl,by rw [q2,A7],fun j p v _ hp hv=>q3 j p v hp (by simpa using hv),fun j p v hj hp _=> ?_⟩).mono fun e w' ⟨v,he,hb⟩=> ?_
 ·have:=(Az.1 hp).1;omega
 ·subst he;rw [hsig] at hb;obtain ⟨hbel,O',_,_,hres⟩:=hb;have hr:Rep (A1 w' O') (.b true) v:=hres;exact ⟨by rw [hr.bool],hbel.to⟩
end
end Go.X
/- Residual programs, evaluated by rewriting. -/
namespace Go.X
open Go
def Bm (j:Nat) (p:PV):Option PV:=p.cells[j]?
def I8 (off n:Nat) (p:PV):Option PV:=if off+n≤p.cells.length then some (.a ((p.cells.drop off).take n)) else none
def Oj (n:Nat):PV→Option PV
 | .a cs=>if cs.length=n then some (.a cs) else none
 |_=>none
def Hj (p:PV):Option PV:=if p.scal then some p else none
def brE (η:List PV) (x y:E):PV→Option PV
 | .b true=>x.ev η
 | .b false=>y.ev η
 |_=>none
def brT (fn:Fns) (N:Nat) (t e:T) (η:List PV):PV→Option Out
 | .b true=>t.ev fn N η
 | .b false=>e.ev fn N η
 |_=>none
def goT (fn:Fns) (N:Nat) (k:T) (η:List PV):Option Out:=k.ev fn N η
def aft (fn:Fns) (N:Nat) (id:Nat) (k:T) (η:List PV):Out→Option Out
 | .yld j vs=>if j=id then k.ev fn N (η++vs) else some (.yld j vs)
 | .ret vs=>some (.ret vs)
def dp (fn:Fns) (η:List PV) (fl:Bool) (f:Nat) (ar:List E) (m:Nat):PV→Option (List PV)
 | .b true=>(E.evs η ar).bind fun vs=>results fl m η (fn f vs.length vs)
 | .b false=>some (η++List.replicate m .u)
 |_=>none
section
variable {η:List PV}
theorem Ad8 (n:Nat):(E.v n).ev η=η[n]? :=by simp only [E.ev]
theorem Ad9 (x:PV):(E.c x).ev η=some x:=by simp only [E.ev]
theorem w3 (op:BinOp) (x y:E):(E.bin op x y).ev η=(x.ev η).bind fun p=>(y.ev η).bind fun q=>X.bin op p q:=by simp only [E.ev]
theorem Az6 (op:UnOp) (x:E):(E.un op x).ev η=(x.ev η).bind (X.un op):=by simp only [E.ev]
theorem wh (g x y:E):(E.ite g x y).ev η=(g.ev η).bind (brE η x y):=by simp only [E.ev];rfl
theorem p9 (j:Nat) (x:E):(E.proj j x).ev η=(x.ev η).bind (Bm j):=by simp only [E.ev];rfl
theorem ww (o n:Nat) (x:E):(E.sub o n x).ev η=(x.ev η).bind (I8 o n):=by simp only [E.ev];rfl
theorem w6 (xs:List E):(E.agg xs).ev η=(E.evs η xs).map .a:=by simp only [E.ev]
theorem wm (n:Nat) (x:E):(E.fit n x).ev η=(x.ev η).bind (Oj n):=by simp only [E.ev];congr 1;funext p;cases p<;>rfl
theorem p8 (x:E):(E.scal x).ev η=(x.ev η).bind Hj:=by simp only [E.ev];rfl
theorem wl (sz:Nat) (x i:E):(E.idx sz x i).ev η=(x.ev η).bind fun p=>(i.ev η).bind fun q=>Jt sz p q:=by simp only [E.ev]
theorem ev_len (x:E):(E.len x).ev η=(x.ev η).bind Ey:=by simp only [E.ev]
theorem p6 (x:E):(E.slen x).ev η=(x.ev η).bind Iv:=by simp only [E.ev]
theorem p7 (x i:E):(E.sidx x i).ev η=(x.ev η).bind fun p=>(i.ev η).bind fun q=>Jq p q:=by simp only [E.ev]
theorem wx (x lo hi:E):(E.ssl x lo hi).ev η=(x.ev η).bind fun p=>(lo.ev η).bind fun q=>(hi.ev η).bind fun r=>Uw p q r:=by simp only [E.ev]
theorem wd (sz:Nat) (x lo hi:E):(E.lsl sz x lo hi).ev η=(x.ev η).bind fun p=>(lo.ev η).bind fun q=>(hi.ev η).bind fun r=>Il sz p q r:=by simp only [E.ev]
theorem w5 (sz:Nat) (x y:E):(E.app sz x y).ev η=(x.ev η).bind fun p=>(y.ev η).bind fun q=>Fz sz p q:=by simp only [E.ev]
theorem wg (sz:Nat) (xs:List E):(E.lit sz xs).ev η=(E.evs η xs).bind (H7 sz):=by simp only [E.ev]
theorem wc (sz:Nat) (n z:E):(E.rep sz n z).ev η=(n.ev η).bind fun p=>(z.ev η).bind fun q=>Nv sz p q:=by simp only [E.ev]
theorem wz (sz:Nat) (x i:E) (o:Nat) (vs:List E):(E.set sz x i o vs).ev η=(x.ev η).bind fun p=>(i.ev η).bind fun q=>(E.evs η vs).bind fun r=>O8 sz o r p q:=by simp only [E.ev]
theorem qv (k:IntKind) (x:E):(E.conv k x).ev η=(x.ev η).bind (Rv k):=by simp only [E.ev]
theorem w4 (x:E):(E.b2s x).ev η=(x.ev η).bind Qq:=by simp only [E.ev]
theorem wb (x:E):(E.s2b x).ev η=(x.ev η).bind Rm:=by simp only [E.ev]
theorem wn (n g:Bool) (ts:List Sc) (x y:E):(E.eqs n g ts x y).ev η=(x.ev η).bind fun p=>(y.ev η).bind fun q=>Gs n g ts p q:=by simp only [E.ev]
theorem wt (g:Nat) (xs:List E):(E.clo g xs).ev η=(E.evs η xs).map (.f g):=by simp only [E.ev]
theorem Az8 (x y:E):(E.mn x y).ev η=(x.ev η).bind fun p=>(y.ev η).bind fun q=>o0 p q:=by simp only [E.ev]
theorem Az7 (x y:E):(E.mx x y).ev η=(x.ev η).bind fun p=>(y.ev η).bind fun q=>ol p q:=by simp only [E.ev]
theorem qk (x k z:E):(E.mget x k z).ev η=(x.ev η).bind fun p=>(k.ev η).bind fun q=>(z.ev η).bind fun r=>Nr p q r:=by simp only [E.ev]
theorem qj (x k v:E):(E.mset x k v).ev η=(x.ev η).bind fun p=>(k.ev η).bind fun q=>(v.ev η).bind fun r=>Np p q r:=by simp only [E.ev]
theorem p5:E.evs η []=some []:=by simp only [E.evs]
theorem df (x:E) (xs:List E):E.evs η (x::xs)=(x.ev η).bind fun p=>(E.evs η xs).map fun ps=>p::ps:=by simp only [E.evs]
theorem dt (x y:E):brE η x y (.b true)=x.ev η:=rfl
theorem Xr (x y:E):brE η x y (.b false)=y.ev η:=rfl
theorem Ab5 (x y:E) (v:Bool):brE η x y (.b v)=if v=true then x.ev η else y.ev η:=by cases v<;>rfl
end
section
variable {fn:Fns} {N:Nat} {η:List PV}
theorem Cf {t t':T} (h:t=t'):∀(fn:Fns) (N:Nat) (η:List PV),T.ev fn N t η=T.ev fn N t' η:=by subst h;intro fn N η;exact Eq.refl _
theorem xc {t t':T} {q:Prop} (h:t=t') (r:q):(∀(fn:Fns) (N:Nat) (η:List PV),T.ev fn N t η=T.ev fn N t' η)∧q:=⟨Cf h,r⟩
theorem xd {a b:E} {q:Prop} (h:a=b) (r:q):(a=b)∧q:=⟨by subst h;exact Eq.refl _,r⟩
theorem xd0:(TAG=TAG)=True:=eq_self _
theorem mc (x:E) (k:T):(T.w (.chk x) k).ev fn N η=(x.ev η).bind fun _=>k.ev fn N η:=by simp only [T.ev,W.ev];cases x.ev η<;>rfl
theorem Y6 (fl:Bool) (f:Nat) (ar:List E) (m:Nat) (k:T):(T.w (.call none fl f ar m) k).ev fn N η=(((E.evs η ar).bind fun vs=>results fl m η (fn f vs.length vs))).bind (goT fn N k):=by simp only [T.ev,W.ev,Cr];rfl
theorem T9 (g:E) (fl:Bool) (f:Nat) (ar:List E) (m:Nat) (k:T):(T.w (.call (some g) fl f ar m) k).ev fn N η=(W.ev fn η (.call (some g) fl f ar m)).bind (goT fn N k):=by simp only [T.ev];rfl
theorem mb (g:Option E) (fl:Bool) (c:E) (ar:List E) (m:Nat) (k:T):(T.w (.clo g fl c ar m) k).ev fn N η=(W.ev fn η (.clo g fl c ar m)).bind (goT fn N k):=by simp only [T.ev];rfl
theorem v4 (k:T):goT fn N k η=k.ev fn N η:=rfl
theorem mz (c:E) (t e:T):(T.ite c t e).ev fn N η=(c.ev η).bind (brT fn N t e η):=by simp only [T.ev];rfl
theorem dr (t e:T):brT fn N t e η (.b true)=t.ev fn N η:=rfl
theorem Xp (t e:T):brT fn N t e η (.b false)=e.ev fn N η:=rfl
theorem Ab4 (t e:T) (v:Bool):brT fn N t e η (.b v)=if v=true then t.ev fn N η else e.ev fn N η:=by cases v<;>rfl
theorem my (es:List E):(T.ret es).ev fn N η=(E.evs η es).map .ret:=by simp only [T.ev]
theorem mw (id:Nat) (es:List E):(T.yld id es).ev fn N η=(E.evs η es).map (.yld id):=by simp only [T.ev]
theorem md (id:Nat) (b k:T):(T.blk id b k).ev fn N η=(b.ev fn N η).bind (aft fn N id k η):=by simp only [T.ev];rfl
theorem X9 (id:Nat) (k:T) (vs:List PV):aft fn N id k η (.ret vs)=some (.ret vs):=rfl
theorem rp (id j:Nat) (k:T) (vs:List PV):aft fn N id k η (.yld j vs)=if j=id then k.ev fn N (η++vs) else some (.yld j vs):=rfl
theorem rt (id:Nat) (k:T) (p:Prop) [Decidable p] (x y:Out):aft fn N id k η (if p then x else y)=if p then aft fn N id k η x else aft fn N id k η y:=by split<;>rfl
theorem T5 (g:E) (fl:Bool) (f:Nat) (ar:List E) (m:Nat):W.ev fn η (.call (some g) fl f ar m)=(g.ev η).bind (dp fn η fl f ar m):=by simp only [W.ev,Cr];rfl
theorem Tb (fl:Bool) (f:Nat) (ar:List E) (m:Nat):dp fn η fl f ar m (.b true)=(E.evs η ar).bind fun vs=>results fl m η (fn f vs.length vs):=rfl
theorem Qk (fl:Bool) (f:Nat) (ar:List E) (m:Nat):dp fn η fl f ar m (.b false)=some (η++List.replicate m .u):=rfl
theorem qp (fl:Bool) (f:Nat) (ar:List E) (m:Nat) (v:Bool):dp fn η fl f ar m (.b v)=if v=true then ((E.evs η ar).bind fun vs=>results fl m η (fn f vs.length vs)) else some (η++List.replicate m .u):=by cases v<;>rfl
theorem l8 (fl:Bool) (c:E) (ar:List E) (m:Nat):W.ev fn η (.clo none fl c ar m)=(c.ev η).bind fun q=>(E.evs η ar).bind fun vs=>match q with| .f f caps=>results fl m η (fn f vs.length (vs++caps))|_=>none:=by simp only [W.ev,Cr];rfl
theorem cn {α β:Type} (p:Prop) [Decidable p] (x y:Option α) (f:α→Option β):(if p then x else y).bind f=if p then x.bind f else y.bind f:=by split<;>rfl
theorem cm (p:Prop) [Decidable p] (x y:PV):(if p then some x else some y)=some (if p then x else y):=by split<;>rfl
theorem W2 (p:Prop) [Decidable p] (x y:Out):(if p then some x else some y)=some (if p then x else y):=by split<;>rfl
theorem v3 (p:Prop) [Decidable p] (x y:Bool):(if p then PV.b x else PV.b y)=PV.b (if p then x else y):=by split<;>rfl
theorem vt (p:Prop) [Decidable p] (k:IntKind) (x y:Int):(if p then PV.i k x else PV.i k y)=PV.i k (if p then x else y):=by split<;>rfl
theorem vn (p:Prop) [Decidable p] (x y:List UInt8):(if p then PV.s x else PV.s y)=PV.s (if p then x else y):=by split<;>rfl
def Out.goes (id:Nat):Out→Bool
 | .yld j _=>j==id
 |_=>false
theorem Jx {step:List PV→Option Out} {id:Nat} {α:Type} (st:α→List PV) (res:α→Out) (I:α→Prop) (μ:α→Nat)
  (h:∀a,I a→(∃b,step (st a)=some (.yld id (st b))∧I b∧μ b<μ a∧res b=res a)∨(step (st a)=some (res a)∧(res a).goes id=false)):
  ∀(n:Nat) (a:α),I a→μ a<n→Dn step id n (st a)=some (res a)
 |0,a,_,hn=>by omega
 |n+1,a,ha,hn=>by
  simp only [Dn];rcases h a ha with ⟨b,h1,h2,h3,h4⟩|⟨h1,h2⟩
  ·rw [h1];simp only [Av,if_true];rw [Jx st res I μ h n b h2 (by omega),h4]
  ·rw [h1];simp only [Av];cases hr:res a with
   |ret vs=>rfl
   |yld j vs=>
    rw [hr] at h2;simp only [Out.goes,beq_eq_false_iff_ne,ne_eq] at h2;simp only [];rw [if_neg h2]
theorem Jr {id:Nat} {init:List E} {body:T} {α:Type} (st:α→List PV) (res:α→Out) (I:α→Prop) (μ:α→Nat) (a0:α)
  (h0:E.evs η init=some (st a0)) (hI:I a0) (hN:μ a0<N)
  (h:∀a,I a→(∃b,body.ev fn N (η++st a)=some (.yld id (st b))∧I b∧μ b<μ a∧res b=res a)∨(body.ev fn N (η++st a)=some (res a)∧(res a).goes id=false)):
  (T.loop id init body).ev fn N η=some (res a0):=by
 simp only [T.ev,h0,Av];exact Jx st res I μ h N a0 hI hN
end
theorem E9 {fn:Fns} {N:Nat} {η:List PV} {id:Nat} {init:List E} {body:T} {β γ:Type} (l:List β) (st:Nat→γ→List PV) (f:Nat→γ→List β→Out) (I:Nat→γ→Prop) (g0:γ)
  (h0:E.evs η init=some (st 0 g0)) (hI:I 0 g0) (hN:l.length<N)
  (step:∀i g c r,l.drop i=c::r→i<l.length→l[i]? =some c→I i g→
   (∃g',body.ev fn N (η++st i g)=some (.yld id (st (i+1) g'))∧I (i+1) g'∧f (i+1) g' r=f i g (c::r))∨(body.ev fn N (η++st i g)=some (f i g (c::r))∧(f i g (c::r)).goes id=false))
  (stop:∀g,I l.length g→body.ev fn N (η++st l.length g)=some (f l.length g [])∧(f l.length g []).goes id=false):
  (T.loop id init body).ev fn N η=some (f 0 g0 l):=by
 have:=Jr (fn:=fn) (N:=N) (η:=η) (id:=id) (init:=init) (body:=body) (α:=Nat×γ) (fun a=>st a.1 a.2) (fun a=>f a.1 a.2 (l.drop a.1)) (fun a=>a.1≤l.length∧I a.1 a.2) (fun a=>l.length - a.1) (0,g0) h0 ⟨B4 _,hI⟩ (by simpa using hN) ?_
 ·simpa using this
 ·rintro ⟨i,g⟩ ⟨hi,hg⟩;simp only at hi hg ⊢;by_cases hlt:i<l.length
  ·have hd:l.drop i=l[i]::l.drop (i+1):=Gm hlt;rcases step i g l[i] (l.drop (i+1)) hd hlt (Ac hlt) hg with ⟨g',h1,h2,h3⟩|h1
   ·exact .inl ⟨(i+1,g'),h1,⟨hlt,h2⟩,by simp only;omega,by simp only;rw [h3,hd]⟩
   ·exact .inr (by rw [hd];exact h1)
  ·have hi':i=l.length:=by omega
   subst hi';have hd:l.drop l.length=[]:=List.drop_length;exact .inr (by rw [hd];exact stop g hg)
theorem E2 {fn:Fns} {N:Nat} {η:List PV} {id:Nat} {init:List E} {body:T} {β:Type} (l:List β) (st:Nat→List PV) (f:Nat→List β→Out)
  (h0:E.evs η init=some (st 0)) (hN:l.length<N)
  (step:∀i c r,l.drop i=c::r→i<l.length→l[i]? =some c→
   (body.ev fn N (η++st i)=some (.yld id (st (i+1)))∧f (i+1) r=f i (c::r))∨(body.ev fn N (η++st i)=some (f i (c::r))∧(f i (c::r)).goes id=false))
  (stop:body.ev fn N (η++st l.length)=some (f l.length [])∧(f l.length []).goes id=false):
  (T.loop id init body).ev fn N η=some (f 0 l):=
 E9 (γ:=Unit) l (fun i _=>st i) (fun i _ r=>f i r) (fun _ _=>True) () h0 trivial hN (fun i _ c r h1 h2 h3 _=>by
  rcases step i c r h1 h2 h3 with ⟨a,b⟩|h
  ·exact .inl ⟨(),a,trivial,b⟩
  ·exact .inr h) (fun _ _=>stop)
theorem w64 {x:Int} (h1: -9223372036854775808≤x) (h2:x≤9223372036854775807):IntKind.i64.wrap x=x:=IntWalk.i64_in x ⟨h1,h2⟩
theorem w8 {x:Int} (h1:0≤x) (h2:x≤255):IntKind.u8.wrap x=x:=IntWalk.u8_in x ⟨h1,h2⟩
theorem Ac6 {x:Int} (h1:0≤x) (h2:x≤18446744073709551615):IntKind.u64.wrap x=x:=by simp [IntKind.wrap,IntKind.bits,IntKind.signed];omega
theorem Ab2 {p:Prop} [Decidable p] (h:p):decide p=true:=decide_eq_true h
theorem Ab3 {p:Prop} [Decidable p] (h:¬p):decide p=false:=decide_eq_false h
theorem rm (k:IntKind) (x y:Int):X.bin .add (.i k x) (.i k y)=some (.i k (k.wrap (x+y))):=by simp [X.bin,C5]
theorem rk (k:IntKind) (x y:Int):X.bin .sub (.i k x) (.i k y)=some (.i k (k.wrap (x - y))):=by simp [X.bin,C5]
theorem ry (k:IntKind) (x y:Int):X.bin .mul (.i k x) (.i k y)=some (.i k (k.wrap (x*y))):=by simp [X.bin,C5]
theorem rv (k:IntKind) (x y:Int):X.bin .quo (.i k x) (.i k y)=if y=0 then none else some (.i k (k.wrap (x.tdiv y))):=by simp [X.bin,C5]
theorem rq (k:IntKind) (x y:Int):X.bin .rem (.i k x) (.i k y)=if y=0 then none else some (.i k (x.tmod y)):=by simp [X.bin,C5]
theorem ub (k:IntKind) (x y:Int) (h:0≤x) (h':0<y):X.bin .quo (.i k x) (.i k y)=some (.i k (k.wrap (x / y))):=by rw [rv,if_neg (by omega),Int.tdiv_eq_ediv_of_nonneg h]
theorem uz (k:IntKind) (x y:Int) (h:0≤x) (h':0<y):X.bin .rem (.i k x) (.i k y)=some (.i k (x % y)):=by rw [rq,if_neg (by omega),Int.tmod_eq_emod_of_nonneg h]
theorem rl (k:IntKind) (x y:Int):X.bin .eql (.i k x) (.i k y)=some (.b (decide (x=y))):=by simp [X.bin,C5];rfl
theorem rx (k:IntKind) (x y:Int):X.bin .neq (.i k x) (.i k y)=some (.b (decide (x≠y))):=by simp [X.bin,C5];by_cases h:x=y<;>simp [h]
theorem rz (k:IntKind) (x y:Int):X.bin .lss (.i k x) (.i k y)=some (.b (decide (x<y))):=by simp [X.bin,C5]
theorem rc (k:IntKind) (x y:Int):X.bin .leq (.i k x) (.i k y)=some (.b (decide (x≤y))):=by simp [X.bin,C5]
theorem rf (k:IntKind) (x y:Int):X.bin .gtr (.i k x) (.i k y)=some (.b (decide (y<x))):=by simp [X.bin,C5]
theorem rh (k:IntKind) (x y:Int):X.bin .geq (.i k x) (.i k y)=some (.b (decide (y≤x))):=by simp [X.bin,C5]
theorem d8 (x y:List UInt8) (h:x.length+y.length≤9223372036854775807):X.bin .add (.s x) (.s y)=some (.s (x++y)):=by simp only [X.bin,Lk];rw [if_neg];simp [IntKind.max,IntKind.bits,IntKind.signed];omega
theorem d7 (x y:List UInt8):X.bin .eql (.s x) (.s y)=some (.b (decide (x=y))):=by simp only [X.bin,Lk];by_cases h:x=y<;>simp [h]
theorem d4 (x y:List UInt8):X.bin .neq (.s x) (.s y)=some (.b (decide (x≠y))):=by simp only [X.bin,Lk];by_cases h:x=y<;>simp [h]
theorem d5 (x y:List UInt8):X.bin .lss (.s x) (.s y)=some (.b (Op.bytesLess x y)):=rfl
theorem d6 (x y:List UInt8):X.bin .gtr (.s x) (.s y)=some (.b (!(Op.bytesLess x y||x==y))):=rfl
theorem s7 (x:Bool):X.un .not (.b x)=some (.b (!x)):=rfl
theorem oz (p:Prop) [Decidable p]:(!decide p)=decide (¬p):=by by_cases h:p<;>simp [h]
theorem pw (sz:Nat) (xs:List PV) (k:IntKind) (z:Int) (h:0≤z):Jt sz (.l sz xs) (.i k z)=xs[z.toNat]? :=by simp [Jt,h]
theorem Aw6 (sz:Nat) (xs:List PV):Ey (.l sz xs)=some (.i .i64 (xs.length:Int)):=rfl
theorem tn (x:List UInt8):Iv (.s x)=some (.i .i64 (x.length:Int)):=rfl
theorem tp (x:List UInt8) (k:IntKind) (n:Int) (h:0≤n):Jq (.s x) (.i k n)=(x[n.toNat]?).map fun c=> .i .u8 (c.toNat:Int):=by simp [Jq,h]
theorem Ak1 (x:List UInt8) (k k':IntKind) (a b:Int) (h1:0≤a) (h2:a≤b) (h3:b≤(x.length:Int)):Uw (.s x) (.i k a) (.i k' b)=some (.s ((x.take b.toNat).drop a.toNat)):=by simp [Uw,h1,h2,h3]
theorem o5 (sz:Nat) (x:List PV) (k k':IntKind) (a b:Int) (h1:0≤a) (h2:a≤b) (h3:b≤(x.length:Int)):Il sz (.l sz x) (.i k a) (.i k' b)=some (.l sz ((x.take b.toNat).drop a.toNat)):=by simp [Il,h1,h2,h3]
theorem Tl (sz:Nat) (xs ys:List PV) (h:xs.length+ys.length≤1073741824):Fz sz (.l sz xs) (.l sz ys)=some (.l sz (xs++ys)):=by simp [Fz,LIM,h]
theorem zq (sz:Nat) (xs:List PV) (y:PV) (h:xs.length+1≤1073741824):Fz sz (.l sz xs) (.l sz [y])=some (.l sz (xs++[y])):=Tl sz xs [y] h
theorem o9 (sz:Nat):H7 sz []=some (.l sz []):=rfl
theorem t6 (x:List UInt8):Hj (.s x)=some (.s x):=rfl
theorem t8 (k:IntKind) (x:Int):Hj (.i k x)=some (.i k x):=rfl
theorem uj (x:Bool):Hj (.b x)=some (.b x):=rfl
theorem t7 (sz:Nat) (x:List PV):Hj (.l sz x)=some (.l sz x):=rfl
theorem Aw4 (x:List UInt8):H7 1 [.s x]=some (.l 1 [.s x]):=rfl
theorem uc (x:List UInt8):Bm 0 (.s x)=some (.s x):=rfl
theorem ud (k:IntKind) (x:Int):Bm 0 (.i k x)=some (.i k x):=rfl
theorem ug (j:Nat) (cs:List PV):Bm j (.a cs)=cs[j]? :=rfl
theorem Aw2 (k:IntKind) (x y:Int) (h:x≤y):o0 (.i k x) (.i k y)=some (.i k x):=by simp only [o0,if_true];rw [if_neg (by omega)]
theorem Aw3 (k:IntKind) (x y:Int) (h:y<x):o0 (.i k x) (.i k y)=some (.i k y):=by simp only [o0,if_true];rw [if_pos h]
theorem Aw1 (k:IntKind) (x y:Int) (h:y≤x):ol (.i k x) (.i k y)=some (.i k x):=by simp only [ol,if_true];rw [if_neg (by omega)]
theorem Aw0 (k:IntKind) (x y:Int) (h:x<y):ol (.i k x) (.i k y)=some (.i k y):=by simp only [ol,if_true];rw [if_pos (by omega)]
theorem xz (k k':IntKind) (x:Int):Rv k (.i k' x)=some (.i k (k.wrap x)):=rfl
theorem tj (n:Nat):((n:Int)).toNat=n:=Qb n
theorem X3 (x:List UInt8):Qq (.l 1 (Dy x))=some (.s x):=by
 have:∀x:List UInt8,(x.map fun c=>PV.i .u8 (c.toNat:Int)).mapM byteOf? =some x:=by
  intro x
  induction x with
  |nil=>rfl
  |cons c r ih=>
   have hc:=c.toNat_lt;have h1:byteOf? (PV.i .u8 (c.toNat:Int))=some c:=by simp only [byteOf?];rw [if_pos (by omega)];simp
   simp [Ew,h1,ih]
 simp [Qq,Dy,this]
theorem Av8 (x:List UInt8) (h:x.length≤1073741824):Rm (.s x)=some (.l 1 (Dy x)):=by simp [Rm,LIM,h]
theorem Aw5 (k:IntKind) (x:Int):H7 1 [.i k x]=some (.l 1 [.i k x]):=rfl
theorem w9 (x y:Bool):Gs false false [.b] (.b x) (.b y)=some (.b (x==y)):=by simp [Gs,PV.scal,Dx,dh]
theorem fz (x y:Bool):Gs true false [.b] (.b x) (.b y)=some (.b (!(x==y))):=by simp [Gs,PV.scal,Dx,dh]
theorem pd (x y:PV):Oj 2 (.a [x,y])=some (.a [x,y]):=rfl
theorem v9 (x:Bool):PV.flat (.b x)=true:=rfl
theorem v8 (k:IntKind) (x:Int):PV.flat (.i k x)=true:=rfl
theorem v7 (x:List UInt8):PV.flat (.s x)=true:=rfl
theorem uy (η:List PV) (x:PV):results false 1 η (some [x])=some (η++[x]):=rfl
theorem ux (η:List PV) (x y:PV):results false 2 η (some [x,y])=some (η++[x,y]):=rfl
theorem uw (η:List PV) (x y z:PV):results false 3 η (some [x,y,z])=some (η++[x,y,z]):=rfl
theorem uv (η:List PV):results true 0 η (some [])=some (η++[]):=rfl
theorem uq (η:List PV) (x:PV):results true 1 η (some [x])=if x.flat=true then some (η++[x]) else none:=by simp [results,PV.flat.flats]
theorem uk (η:List PV) (x y:PV):results true 2 η (some [x,y])=if x.flat=true then (if y.flat=true then some (η++[x,y]) else none) else none:=by simp only [results,Av,PV.flat.flats];by_cases h:x.flat=true<;>by_cases h':y.flat=true<;>simp [h,h']
theorem s8 (c:UInt8) (k:Nat) (hk:k<256):((c.toNat:Int)=(k:Int))↔c=UInt8.ofNat k:=by
 constructor
 ·intro h;have h':c.toNat=k:=by omega
  rw [←h'];simp
 ·rintro rfl;simp;omega
end Go.X
namespace Go.X
open Go
theorem nq {o:Option T} {t:T} (h:o.map T.slim=some t):∃t0,o=some t0∧t0.slim=t:=Aq.1 h
def FOK (P:Program) (sig:Nat→Option Nat) (f:Nat) (ft:FT):Prop:=
 ∃ func H, P.funcs[f]? = some func ∧ (func.name == "runtime.NumGoroutine") = false ∧ Td sig f func = ft.np ∧ func.params.size < TAG ∧ func.nfree = ft.nf ∧ ∃ t, Yb P sig f func H = some t ∧ t.slim = ft.t
def Ac1 (P:Program) (sig:Nat→Option Nat) (f a b:Nat) (H:Hints):Option T:=
 match P.funcs[f]? with
 |none=>none
 | some fu => if (fu.name == "runtime.NumGoroutine") = false ∧ Td sig f fu = a ∧ fu.params.size < TAG ∧ fu.nfree = b then (Yb P sig f fu H).map T.slim else none
theorem fok {P:Program} {sig:Nat→Option Nat} {f a b:Nat} {t:T} (H:Hints) (h:Ac1 P sig f a b H=some t):FOK P sig f ⟨a,b,t⟩:=by
 unfold Ac1 at h;split at h
 ·exact nomatch h
 ·next fu hf=>
  split at h
  ·next hc=>
   obtain ⟨t0,h1,h2⟩:=nq h;exact ⟨fu,H,hf,hc.1,hc.2.1,hc.2.2.1,hc.2.2.2,t0,h1,h2⟩
  ·exact nomatch h
def lkF:List (Nat×FT)→Nat→Option FT
 |[],_=>none
 |(k,t)::r,f=>if k=f then some t else lkF r f
def Ab6 (P:Program) (sig:Nat→Option Nat):List (Nat×FT)→Prop
 |[]=>True
 |p::r=>FOK P sig p.1 p.2∧Ab6 P sig r
def zx (P:Program):List (Nat×Nat)→Prop
 |[]=>True
 |p::r=>(match Tc (some p.2) with|some (T,k)=>Yz P p.1 T k|none=>True)∧zx P r
theorem X1 {P:Program}:∀{l:List (Nat×Nat)},zx P l→z6 P (Wm l)
 |[],_=>fun f T k h=>by simp [Wm,Tc] at h
 |p::r,hl=>fun f T k h=>by
  simp only [Wm] at h;split at h
  ·rename_i e;subst e;have:=hl.1;rw [h] at this;exact this
  ·exact X1 hl.2 f T k h
theorem d3 {P:Program}:zx P []:=trivial
theorem q9 {P:Program} {p:Nat×Nat} {r:List (Nat×Nat)} (h:Tc (some p.2)=none) (hr:zx P r):zx P (p::r):=⟨by rw [h];trivial,hr⟩
theorem Uj {P : Program} {sig : Nat → Option Nat} : ∀ (l : List (Nat × FT)), Ab6 P sig l → ∀ f ft, lkF l f = some ft → ∃ func H, P.funcs[f]? = some func ∧ (func.name == "runtime.NumGoroutine") = false ∧ Td sig f func = ft.np ∧ func.params.size < TAG ∧ func.nfree = ft.nf ∧ ∃ t, Yb P sig f func H = some t ∧ t.slim = ft.t
 |[],_=>fun f ft h=>by simp [lkF] at h
 |(k,t)::r,hl=>fun f ft h=>by
  simp only [lkF] at h;split at h
  ·rename_i e;injection h with h;subst h;subst e;exact hl.1
  ·exact Uj r hl.2 f ft h
theorem tv {P:Program} {sig:Nat→Option Nat} (l:List (Nat×FT)) (h:Ab6 P sig l) (hB:z6 P sig):Tab P sig (lkF l):=⟨Uj l h,hB⟩
end Go.X
namespace Go.X
theorem Pw {α β:Type} (a:α) (f:α→Option β):(some a).bind f=f a:=by rw [Av]
theorem Px {α β:Type} (f:α→Option β):(none:Option α).bind f=none:=by rw [Option.bind_none]
theorem Rs {α β:Type} (a:α) (f:α→β):(some a).map f=some (f a):=by rw [Am]
theorem Rt {α β:Type} (f:α→β):(none:Option α).map f=none:=by rw [Option.map_none]
theorem Ln {α:Type} (a:α) (l m:List α):(a::l)++m=a::(l++m):=by rw [Fy]
theorem Nx {α:Type} (m:List α):[]++m=m:=by rw [List.nil_append]
theorem R2 {α:Type} (a:α) (l:List α) (i:Nat):(a::l)[i+1]? =l[i]? :=by rw [Cm]
theorem R1 {α:Type} (a:α) (l:List α):(a::l)[0]? =some a:=by rw [B1]
theorem R0 {α:Type} (a:α) (l:List α):(a::l).length=l.length+1:=by rw [Dj]
theorem Up {α:Type}:([]:List α).length=0:=by rw [Mm]
theorem Rr {α:Type} (a:α) (n:Nat):List.replicate (n+1) a=a::List.replicate n a:=by rw [List.replicate_succ]
theorem Rp {α:Type} (a:α):List.replicate 0 a=[]:=by rw [List.replicate_zero]
theorem Us {α β:Type} (f:α→β) (l:List α) (i:Nat):(l.map f)[i]? =l[i]?.map f:=by rw [Bj]
theorem Ur {α β:Type} (f:α→β) (l:List α):(l.map f).length=l.length:=by rw [List.length_map]
set_option linter.defProp false
def EV:=(And.intro @Pw (And.intro @Rs (And.intro @Px (And.intro @Rt (And.intro @Ln (And.intro @Nx (And.intro @R2 (And.intro @R1 (And.intro @sn (And.intro @Bool.not_false (And.intro @R0 (And.intro @Up (And.intro @Rr (And.intro @Rp (And.intro @Us (And.intro @Ur (And.intro @Bool.if_true_left (And.intro @Bool.if_false_right (And.intro @Bool.decide_eq_true (And.intro @Int.natCast_add (And.intro @Int.cast_ofNat_Int (And.intro @Ch (And.intro @decide_eq_true_eq (And.intro @Ay (And.intro @decide_true (And.intro @decide_false (And.intro @Ad8 (And.intro @Ad9 (And.intro @w3 (And.intro @Az6 (And.intro @wh (And.intro @p9 (And.intro @ww (And.intro @w6 (And.intro @wm (And.intro @p8 (And.intro @wl (And.intro @ev_len (And.intro @p6 (And.intro @p7 (And.intro @wx (And.intro @wd (And.intro @w5 (And.intro @wg (And.intro @wc (And.intro @wz (And.intro @qv (And.intro @w4 (And.intro @wb (And.intro @wn (And.intro @wt (And.intro @Az8 (And.intro @Az7 (And.intro @qk (And.intro @qj (And.intro @p5 (And.intro @df (And.intro @dt (And.intro @Xr (And.intro @Ab5 (And.intro @mc (And.intro @Y6 (And.intro @T9 (And.intro @T5 (And.intro @Tb (And.intro @Qk (And.intro @qp (And.intro @mb (And.intro @v4 (And.intro @mz (And.intro @dr (And.intro @Xp (And.intro @Ab4 (And.intro @my (And.intro @mw (And.intro @md (And.intro @X9 (And.intro @rt (And.intro @rp (And.intro @w64 (And.intro @w8 (And.intro @Ac6 (And.intro @ub (And.intro @uz (And.intro @Ab2 (And.intro @Ab3 (And.intro @rm (And.intro @rk (And.intro @ry (And.intro @rl (And.intro @rx (And.intro @rz (And.intro @rc (And.intro @rf (And.intro @rh (And.intro @d8 (And.intro @d7 (And.intro @d4 (And.intro @d5 (And.intro @d6 (And.intro @s7 (And.intro @oz (And.intro @pw (And.intro @Aw6 (And.intro @tn (And.intro @tp (And.intro @Ak1 (And.intro @o5 (And.intro @zq (And.intro @Tl (And.intro @o9 (And.intro @Aw4 (And.intro @Aw5 (And.intro @X3 (And.intro @Av8 (And.intro @t6 (And.intro @t8 (And.intro @uj (And.intro @t7 (And.intro @uc (And.intro @ud (And.intro @ug (And.intro @Aw2 (And.intro @Aw3 (And.intro @Aw1 (And.intro @Aw0 (And.intro @w9 (And.intro @fz (And.intro @pd (And.intro @xz (And.intro @tj (And.intro @v9 (And.intro @v8 (And.intro @v7 (And.intro @uy (And.intro @ux (And.intro @uw (And.intro @uv (And.intro @uq (And.intro @uk (And.intro @cn (And.intro @cm (And.intro @W2 (And.intro @v3 (And.intro @vt (And.intro @vn (And.intro @if_true.{1} (And.intro @if_false.{1} (And.intro @ne_eq.{1} (And.intro @not_true (And.intro @not_false_eq_true @Bool.true_eq_false)))))))))))))))))))))))))))))))))))))))))))))))))))))))))))))))))))))))))))))))))))))))))))))))))))))))))))))))))))))))))))))))))))))))))))))))))))))))
end Go.X
namespace Go.X
end Go.X
