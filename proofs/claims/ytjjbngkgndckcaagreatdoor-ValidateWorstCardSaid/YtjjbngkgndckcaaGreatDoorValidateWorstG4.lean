/- Residual programs without the checks that what follows makes by itself. -/
import Derived.Test.YtjjbngkgndckcaaGreatDoorValidateWorstG0
import Derived.Test.YtjjbngkgndckcaaGreatDoorValidateWorstG3
import GoSem.ClaimChange
import Derived.WideShapes
import Derived.ChangeShapes
import Derived.OpenShut
import Derived.Carry
import Derived.SizedLaws
import Derived.Lib.Bytealg
import Derived.IntWalk
open Array renaming getElem?_toList->Bt,getD_eq_getD_getElem?->B7,length_toList->Cb,getElem?_append_left->C6,getElem?_eq_getElem->Dk
open Bool renaming and_eq_true->Bp,false_eq_true->Br,or_eq_true->B4,not_eq_true'->C3,or_eq_false_iff->Ur,not_true->uq
open Int renaming toNat_natCast->Q7
open List renaming getElem?_eq_some_iff->Bs,getElem?_eq_getElem->B1,getElem?_append_right->B6,getElem?_take->B8,getElem?_append_left->Cj,append_assoc->Cq,length_append->Cv,getD_eq_getElem?_getD->Cw,eq_nil_of_length_eq_zero->Cz,getElem?_drop->Cc,getElem?_map->Cd,getElem?_range->Cm,all_eq_true->C1,getElem?_cons_zero->C2,getElem?_cons_succ->Ds,length_pos_iff->D9,mem_range->En,length_cons->Fq,mapM_cons->F0,getElem?_replicate->F5,getElem?_of_mem->H0,length_range->Q6,drop_zero->Up,length_nil->Ac7
open Nat renaming le_refl->B2,add_mul->Ch,add_zero->Dd,zero_add->Dn,lt_of_lt_of_le->Dt,mod_eq_of_lt->D6,zero_le->Ej,one_mul->Ek,le_max_right->Yp,le_max_left->Ac5
open Option renaming bind_eq_some_iff->Bg,map_eq_some_iff->Bl,bind_some->Bm,map_some->B9,isNone_iff_eq_none->Cl,isSome_iff_exists->Cp,bind_eq_bind->Jm,pure_def->Np,isSome_none->Af1
open Option.some renaming injEq->Bh
set_option maxHeartbeats 1000000
set_option linter.defProp false
set_option linter.unusedVariables false
set_option linter.unusedSimpArgs false
namespace Go.X
open Go
def E.triv:E->Bool
 | .c _=>true
 |_=>false
mutual
def cov (a:E):E->Bool
 | .v n=>E.same a (.v n)||a.triv
 | .c x=>E.same a (.c x)||a.triv
 | .bin op x y=>E.same a (.bin op x y)||a.triv||cov a x||cov a y
 | .un op x=>E.same a (.un op x)||a.triv||cov a x
 | .ite g x y=>a.triv||cov a g||(cov a x && cov a y)||E.same a (.ite g x y)||
    (match a with
     | .ite (.un .not h) p q=>(h.same g && cov p y && cov q x)||((E.un .not h).same g && cov p x && cov q y)
     | .ite h p q=>h.same g && cov p x && cov q y
     |_=>false)
 | .proj j x=>E.same a (.proj j x)||a.triv||cov a x
 | .sub o n x=>E.same a (.sub o n x)||a.triv||cov a x
 | .agg xs=>E.same a (.agg xs)||a.triv||Sq a xs
 | .fit n x=>E.same a (.fit n x)||a.triv||cov a x
 | .scal x=>E.same a (.scal x)||a.triv||cov a x
 | .idx sz x i=>E.same a (.idx sz x i)||a.triv||cov a x||cov a i
 | .len x=>E.same a (.len x)||a.triv||cov a x
 | .slen x=>E.same a (.slen x)||a.triv||cov a x
 | .sidx x i=>E.same a (.sidx x i)||a.triv||cov a x||cov a i
 | .ssl x lo hi=>E.same a (.ssl x lo hi)||a.triv||cov a x||cov a lo||cov a hi
 | .lsl sz x lo hi=>E.same a (.lsl sz x lo hi)||a.triv||cov a x||cov a lo||cov a hi
 | .app sz x y=>E.same a (.app sz x y)||a.triv||cov a x||cov a y
 | .lit sz xs=>E.same a (.lit sz xs)||a.triv||Sq a xs
 | .rep sz n z=>E.same a (.rep sz n z)||a.triv||cov a n||cov a z
 | .set sz x i off vs=>E.same a (.set sz x i off vs)||a.triv||cov a x||cov a i||Sq a vs
 | .conv k x=>E.same a (.conv k x)||a.triv||cov a x
 | .b2s x=>E.same a (.b2s x)||a.triv||cov a x
 | .s2b x=>E.same a (.s2b x)||a.triv||cov a x
 | .eqs n g ts x y=>E.same a (.eqs n g ts x y)||a.triv||cov a x||cov a y
 | .clo g caps=>E.same a (.clo g caps)||a.triv||Sq a caps
 | .mn x y=>E.same a (.mn x y)||a.triv||cov a x||cov a y
 | .mx x y=>E.same a (.mx x y)||a.triv||cov a x||cov a y
 | .mget x k z=>E.same a (.mget x k z)||a.triv||cov a x||cov a k||cov a z
 | .mset x k v=>E.same a (.mset x k v)||a.triv||cov a x||cov a k||cov a v
 | .der x=>E.same a (.der x)||a.triv||cov a x
 | .mkp o x=>E.same a (.mkp o x)||a.triv||cov a x
 | .flt x=>E.same a (.flt x)||a.triv||cov a x
def Sq (a:E):List E->Bool
 |[]=>false
 |x::xs=>cov a x||Sq a xs
end
def Dq {a:E} {J:List PV} (h:a.triv=true):(a.ev J).isSome=true:=by cases a<;>simp[E.triv] at h;simp[E.ev]
def Ct {a b:E} {J:List PV} {p:PV} (h:E.same a b=true) (e:b.ev J=some p):(a.ev J).isSome=true:=by rw[E.same_eq _ _ h,e];rfl
mutual
def C4 {J:List PV} (a:E):∀(b:E) (p:PV),cov a b=true->b.ev J=some p->(a.ev J).isSome=true
 | .v n,p,h,e=>by
   simp only[cov,B4] at h;rcases h with h|h
   .exact Ct h e
   .exact Dq h
 | .c x,p,h,e=>by
   simp only[cov,B4] at h;rcases h with h|h
   .exact Ct h e
   .exact Dq h
 | .bin op x y,p,h,e=>by
   simp only[cov,B4] at h;rcases h with((h|h)|h)|h
   .exact Ct h e
   .exact Dq h
   .simp only[E.ev] at e;obtain⟨q0,hq0,e0⟩:=Bg.1 e;exact C4 a x _ h hq0
   .simp only[E.ev] at e;obtain⟨q0,hq0,e0⟩:=Bg.1 e;obtain⟨q1,hq1,e1⟩:=Bg.1 e0;exact C4 a y _ h hq1
 | .un op x,p,h,e=>by
   simp only[cov,B4] at h;rcases h with(h|h)|h
   .exact Ct h e
   .exact Dq h
   .simp only[E.ev] at e;obtain⟨q0,hq0,e0⟩:=Bg.1 e;exact C4 a x _ h hq0
 | .ite g x y,p,h,e=>by
   have e0:=e;simp only[E.ev] at e;obtain⟨r,hg,e1⟩:=Bg.1 e;have key:∀(h' p' q':E),(∀b,g.ev J=some (.b b)->h'.ev J=some (.b b))->cov p' x=true->cov q' y=true->((E.ite h' p' q').ev J).isSome=true:=by
    intro h' p' q' hh hp hq;simp only[E.ev];split at e1
    .rw[hh true hg];simp only[Bm];exact C4 p' x _ hp e1
    .rw[hh false hg];simp only[Bm];exact C4 q' y _ hq e1
    .cases e1
   have keyN:∀(h' p' q':E),(∀b,g.ev J=some (.b b)->h'.ev J=some (.b b))->cov p' y=true->cov q' x=true->((E.ite (.un .not h') p' q').ev J).isSome=true:=by
    intro h' p' q' hh hp hq;simp only[E.ev];split at e1
    .rw[hh true hg];simp only[Bm,X.un,uq];exact C4 q' x _ hq e1
    .rw[hh false hg];simp only[Bm,X.un,Bool.not_false];exact C4 p' y _ hp e1
    .cases e1
   simp only[cov,B4] at h;rcases h with(((h|h)|h)|h)|h
   .exact Dq h
   .exact C4 a g _ h hg
   .simp only[Bp] at h;split at e1
    .exact C4 a x _ h.1 e1
    .exact C4 a y _ h.2 e1
    .cases e1
   .exact Ct h e0
   .split at h
    .simp only[B4,Bp] at h;rcases h with h|h
     .exact keyN _ _ _ (fun b hb=>by rw[E.same_eq _ _ h.1.1];exact hb) h.1.2 h.2
     .exact key _ _ _ (fun b hb=>by rw[E.same_eq _ _ h.1.1];exact hb) h.1.2 h.2
    .simp only[Bp] at h;exact key _ _ _ (fun b hb=>by rw[E.same_eq _ _ h.1.1];exact hb) h.1.2 h.2
    .cases h
 | .proj j x,p,h,e=>by
   simp only[cov,B4] at h;rcases h with(h|h)|h
   .exact Ct h e
   .exact Dq h
   .simp only[E.ev] at e;obtain⟨q0,hq0,e0⟩:=Bg.1 e;exact C4 a x _ h hq0
 | .sub o n x,p,h,e=>by
   simp only[cov,B4] at h;rcases h with(h|h)|h
   .exact Ct h e
   .exact Dq h
   .simp only[E.ev] at e;obtain⟨q0,hq0,e0⟩:=Bg.1 e;exact C4 a x _ h hq0
 | .agg xs,p,h,e=>by
   simp only[cov,B4] at h;rcases h with(h|h)|h
   .exact Ct h e
   .exact Dq h
   .simp only[E.ev] at e;obtain⟨q0,hq0,e0⟩:=Bl.1 e;exact F3 a xs _ h hq0
 | .fit n x,p,h,e=>by
   simp only[cov,B4] at h;rcases h with(h|h)|h
   .exact Ct h e
   .exact Dq h
   .simp only[E.ev] at e;obtain⟨q0,hq0,e0⟩:=Bg.1 e;exact C4 a x _ h hq0
 | .scal x,p,h,e=>by
   simp only[cov,B4] at h;rcases h with(h|h)|h
   .exact Ct h e
   .exact Dq h
   .simp only[E.ev] at e;obtain⟨q0,hq0,e0⟩:=Bg.1 e;exact C4 a x _ h hq0
 | .idx sz x i,p,h,e=>by
   simp only[cov,B4] at h;rcases h with((h|h)|h)|h
   .exact Ct h e
   .exact Dq h
   .simp only[E.ev] at e;obtain⟨q0,hq0,e0⟩:=Bg.1 e;exact C4 a x _ h hq0
   .simp only[E.ev] at e;obtain⟨q0,hq0,e0⟩:=Bg.1 e;obtain⟨q1,hq1,e1⟩:=Bg.1 e0;exact C4 a i _ h hq1
 | .len x,p,h,e=>by
   simp only[cov,B4] at h;rcases h with(h|h)|h
   .exact Ct h e
   .exact Dq h
   .simp only[E.ev] at e;obtain⟨q0,hq0,e0⟩:=Bg.1 e;exact C4 a x _ h hq0
 | .slen x,p,h,e=>by
   simp only[cov,B4] at h;rcases h with(h|h)|h
   .exact Ct h e
   .exact Dq h
   .simp only[E.ev] at e;obtain⟨q0,hq0,e0⟩:=Bg.1 e;exact C4 a x _ h hq0
 | .sidx x i,p,h,e=>by
   simp only[cov,B4] at h;rcases h with((h|h)|h)|h
   .exact Ct h e
   .exact Dq h
   .simp only[E.ev] at e;obtain⟨q0,hq0,e0⟩:=Bg.1 e;exact C4 a x _ h hq0
   .simp only[E.ev] at e;obtain⟨q0,hq0,e0⟩:=Bg.1 e;obtain⟨q1,hq1,e1⟩:=Bg.1 e0;exact C4 a i _ h hq1
 | .ssl x lo hi,p,h,e=>by
   simp only[cov,B4] at h;rcases h with(((h|h)|h)|h)|h
   .exact Ct h e
   .exact Dq h
   .simp only[E.ev] at e;obtain⟨q0,hq0,e0⟩:=Bg.1 e;exact C4 a x _ h hq0
   .simp only[E.ev] at e;obtain⟨q0,hq0,e0⟩:=Bg.1 e;obtain⟨q1,hq1,e1⟩:=Bg.1 e0;exact C4 a lo _ h hq1
   .simp only[E.ev] at e;obtain⟨q0,hq0,e0⟩:=Bg.1 e;obtain⟨q1,hq1,e1⟩:=Bg.1 e0;obtain⟨q2,hq2,e2⟩:=Bg.1 e1;exact C4 a hi _ h hq2
 | .lsl sz x lo hi,p,h,e=>by
   simp only[cov,B4] at h;rcases h with(((h|h)|h)|h)|h
   .exact Ct h e
   .exact Dq h
   .simp only[E.ev] at e;obtain⟨q0,hq0,e0⟩:=Bg.1 e;exact C4 a x _ h hq0
   .simp only[E.ev] at e;obtain⟨q0,hq0,e0⟩:=Bg.1 e;obtain⟨q1,hq1,e1⟩:=Bg.1 e0;exact C4 a lo _ h hq1
   .simp only[E.ev] at e;obtain⟨q0,hq0,e0⟩:=Bg.1 e;obtain⟨q1,hq1,e1⟩:=Bg.1 e0;obtain⟨q2,hq2,e2⟩:=Bg.1 e1;exact C4 a hi _ h hq2
 | .app sz x y,p,h,e=>by
   simp only[cov,B4] at h;rcases h with((h|h)|h)|h
   .exact Ct h e
   .exact Dq h
   .simp only[E.ev] at e;obtain⟨q0,hq0,e0⟩:=Bg.1 e;exact C4 a x _ h hq0
   .simp only[E.ev] at e;obtain⟨q0,hq0,e0⟩:=Bg.1 e;obtain⟨q1,hq1,e1⟩:=Bg.1 e0;exact C4 a y _ h hq1
 | .lit sz xs,p,h,e=>by
   simp only[cov,B4] at h;rcases h with(h|h)|h
   .exact Ct h e
   .exact Dq h
   .simp only[E.ev] at e;obtain⟨q0,hq0,e0⟩:=Bg.1 e;exact F3 a xs _ h hq0
 | .rep sz n z,p,h,e=>by
   simp only[cov,B4] at h;rcases h with((h|h)|h)|h
   .exact Ct h e
   .exact Dq h
   .simp only[E.ev] at e;obtain⟨q0,hq0,e0⟩:=Bg.1 e;exact C4 a n _ h hq0
   .simp only[E.ev] at e;obtain⟨q0,hq0,e0⟩:=Bg.1 e;obtain⟨q1,hq1,e1⟩:=Bg.1 e0;exact C4 a z _ h hq1
 | .set sz x i off vs,p,h,e=>by
   simp only[cov,B4] at h;rcases h with(((h|h)|h)|h)|h
   .exact Ct h e
   .exact Dq h
   .simp only[E.ev] at e;obtain⟨q0,hq0,e0⟩:=Bg.1 e;exact C4 a x _ h hq0
   .simp only[E.ev] at e;obtain⟨q0,hq0,e0⟩:=Bg.1 e;obtain⟨q1,hq1,e1⟩:=Bg.1 e0;exact C4 a i _ h hq1
   .simp only[E.ev] at e;obtain⟨q0,hq0,e0⟩:=Bg.1 e;obtain⟨q1,hq1,e1⟩:=Bg.1 e0;obtain⟨q2,hq2,e2⟩:=Bg.1 e1;exact F3 a vs _ h hq2
 | .conv k x,p,h,e=>by
   simp only[cov,B4] at h;rcases h with(h|h)|h
   .exact Ct h e
   .exact Dq h
   .simp only[E.ev] at e;obtain⟨q0,hq0,e0⟩:=Bg.1 e;exact C4 a x _ h hq0
 | .b2s x,p,h,e=>by
   simp only[cov,B4] at h;rcases h with(h|h)|h
   .exact Ct h e
   .exact Dq h
   .simp only[E.ev] at e;obtain⟨q0,hq0,e0⟩:=Bg.1 e;exact C4 a x _ h hq0
 | .s2b x,p,h,e=>by
   simp only[cov,B4] at h;rcases h with(h|h)|h
   .exact Ct h e
   .exact Dq h
   .simp only[E.ev] at e;obtain⟨q0,hq0,e0⟩:=Bg.1 e;exact C4 a x _ h hq0
 | .eqs n g ts x y,p,h,e=>by
   simp only[cov,B4] at h;rcases h with((h|h)|h)|h
   .exact Ct h e
   .exact Dq h
   .simp only[E.ev] at e;obtain⟨q0,hq0,e0⟩:=Bg.1 e;exact C4 a x _ h hq0
   .simp only[E.ev] at e;obtain⟨q0,hq0,e0⟩:=Bg.1 e;obtain⟨q1,hq1,e1⟩:=Bg.1 e0;exact C4 a y _ h hq1
 | .clo g caps,p,h,e=>by
   simp only[cov,B4] at h;rcases h with(h|h)|h
   .exact Ct h e
   .exact Dq h
   .simp only[E.ev] at e;obtain⟨q0,hq0,e0⟩:=Bl.1 e;exact F3 a caps _ h hq0
 | .mn x y,p,h,e=>by
   simp only[cov,B4] at h;rcases h with((h|h)|h)|h
   .exact Ct h e
   .exact Dq h
   .simp only[E.ev] at e;obtain⟨q0,hq0,e0⟩:=Bg.1 e;exact C4 a x _ h hq0
   .simp only[E.ev] at e;obtain⟨q0,hq0,e0⟩:=Bg.1 e;obtain⟨q1,hq1,e1⟩:=Bg.1 e0;exact C4 a y _ h hq1
 | .mx x y,p,h,e=>by
   simp only[cov,B4] at h;rcases h with((h|h)|h)|h
   .exact Ct h e
   .exact Dq h
   .simp only[E.ev] at e;obtain⟨q0,hq0,e0⟩:=Bg.1 e;exact C4 a x _ h hq0
   .simp only[E.ev] at e;obtain⟨q0,hq0,e0⟩:=Bg.1 e;obtain⟨q1,hq1,e1⟩:=Bg.1 e0;exact C4 a y _ h hq1
 | .mget x k z,p,h,e=>by
   simp only[cov,B4] at h;rcases h with(((h|h)|h)|h)|h
   .exact Ct h e
   .exact Dq h
   .simp only[E.ev] at e;obtain⟨q0,hq0,e0⟩:=Bg.1 e;exact C4 a x _ h hq0
   .simp only[E.ev] at e;obtain⟨q0,hq0,e0⟩:=Bg.1 e;obtain⟨q1,hq1,e1⟩:=Bg.1 e0;exact C4 a k _ h hq1
   .simp only[E.ev] at e;obtain⟨q0,hq0,e0⟩:=Bg.1 e;obtain⟨q1,hq1,e1⟩:=Bg.1 e0;obtain⟨q2,hq2,e2⟩:=Bg.1 e1;exact C4 a z _ h hq2
 | .mset x k v,p,h,e=>by
   simp only[cov,B4] at h;rcases h with(((h|h)|h)|h)|h
   .exact Ct h e
   .exact Dq h
   .simp only[E.ev] at e;obtain⟨q0,hq0,e0⟩:=Bg.1 e;exact C4 a x _ h hq0
   .simp only[E.ev] at e;obtain⟨q0,hq0,e0⟩:=Bg.1 e;obtain⟨q1,hq1,e1⟩:=Bg.1 e0;exact C4 a k _ h hq1
   .simp only[E.ev] at e;obtain⟨q0,hq0,e0⟩:=Bg.1 e;obtain⟨q1,hq1,e1⟩:=Bg.1 e0;obtain⟨q2,hq2,e2⟩:=Bg.1 e1;exact C4 a v _ h hq2
 | .der x,p,h,e| .mkp _ x,p,h,e| .flt x,p,h,e=>by
   simp only[cov,B4] at h;rcases h with(h|h)|h
   .exact Ct h e
   .exact Dq h
   .simp only[E.ev] at e;obtain⟨q0,hq0,e0⟩:=Bg.1 e;exact C4 a x _ h hq0
def F3 {J:List PV} (a:E):∀(bs:List E) (ps:List PV),Sq a bs=true->E.evs J bs=some ps->(a.ev J).isSome=true
 |[],ps,h,e=>by simp[Sq] at h
 |b::bs,ps,h,e=>by
  simp only[Sq,B4] at h;simp only[E.evs] at e;obtain⟨q,hq,e1⟩:=Bg.1 e;obtain⟨qs,hqs,e2⟩:=Bl.1 e1;rcases h with h|h
  .exact C4 a b _ h hq
  .exact F3 a bs _ h hqs
end
def Fj (a:E):T->Bool
 | .w (.chk x) k=>cov a x||Fj a k
 | .w (.call none _ _ ar _) _=>Sq a ar
 | .w (.call (some g) _ _ _ _) _=>cov a g
 | .w (.clo none _ c ar _) _=>cov a c||Sq a ar
 | .w (.clo (some g) _ _ _ _) _=>cov a g
 | .w (.mcall _ ar) _=>Sq a ar
 | .ite c t e=>cov a c||(Fj a t && Fj a e)
 | .ret es=>Sq a es
 | .yld _ es=>Sq a es
 | .blk _ body _=>Fj a body
 | .loop _ init _=>Sq a init
def G5 {fn:Fns} {N:Nat} {J:List PV} (a:E):∀(t:T) (o:Out),Fj a t=true->t.ev fn N J=some o->(a.ev J).isSome=true
 | .w (.chk x) k,o,h,e=>by
   simp only[Fj,B4] at h;simp only[T.ev,W.ev] at e;obtain⟨η',h1,h2⟩:=Bg.1 e;obtain⟨p,hp,rfl⟩:=Bl.1 h1;rcases h with h|h
   .exact C4 a x _ h hp
   .exact G5 a k _ h h2
 | .w (.call none fl f ar m) k,o,h,e=>by simp only[Fj] at h;simp only[T.ev,W.ev,D2] at e;obtain⟨η',h1,h2⟩:=Bg.1 e;obtain⟨p,hp,_⟩:=Bg.1 h1;exact F3 a ar _ h hp
 | .w (.call (some g) fl f ar m) k,o,h,e=>by simp only[Fj] at h;simp only[T.ev,W.ev,D2] at e;obtain⟨η',h1,h2⟩:=Bg.1 e;obtain⟨p,hp,_⟩:=Bg.1 h1;exact C4 a g _ h hp
 | .w (.clo none fl c ar m) k,o,h,e=>by
   simp only[Fj,B4] at h;simp only[T.ev,W.ev,D2] at e;obtain⟨η',h1,h2⟩:=Bg.1 e;obtain⟨p,hp,h3⟩:=Bg.1 h1;obtain⟨q,hq,_⟩:=Bg.1 h3;rcases h with h|h
   .exact C4 a c _ h hp
   .exact F3 a ar _ h hq
 | .w (.clo (some g) fl c ar m) k,o,h,e=>by simp only[Fj] at h;simp only[T.ev,W.ev,D2] at e;obtain⟨η',h1,h2⟩:=Bg.1 e;obtain⟨p,hp,_⟩:=Bg.1 h1;exact C4 a g _ h hp
 | .w (.mcall f ar) k,o,h,e=>by simp only[Fj] at h;simp only[T.ev,W.ev] at e;obtain⟨η',h1,h2⟩:=Bg.1 e;obtain⟨p,hp,_⟩:=Bg.1 h1;exact F3 a ar _ h hp
 | .ite c t f,o,h,e=>by
   simp only[Fj,B4,Bp] at h;simp only[T.ev] at e;obtain⟨r,h1,h2⟩:=Bg.1 e;rcases h with h|h
   .exact C4 a c _ h h1
   .split at h2
    .exact G5 a t _ h.1 h2
    .exact G5 a f _ h.2 h2
    .cases h2
 | .ret es,o,h,e=>by simp only[Fj] at h;simp only[T.ev] at e;obtain⟨ps,hp,_⟩:=Bl.1 e;exact F3 a es _ h hp
 | .yld id es,o,h,e=>by simp only[Fj] at h;simp only[T.ev] at e;obtain⟨ps,hp,_⟩:=Bl.1 e;exact F3 a es _ h hp
 | .blk id body k,o,h,e=>by simp only[Fj] at h;simp only[T.ev] at e;obtain⟨o1,h1,_⟩:=Bg.1 e;exact G5 a body _ h h1
 | .loop id init body,o,h,e=>by simp only[Fj] at h;simp only[T.ev] at e;obtain⟨ps,hp,_⟩:=Bg.1 e;exact F3 a init _ h hp
def T.slim:T->T
 | .w (.chk x) k=>if Fj x k.slim then k.slim else .w (.chk x) k.slim
 | .w x k=> .w x k.slim
 | .ite c t e=> .ite c t.slim e.slim
 | .ret es=> .ret es
 | .yld id es=> .yld id es
 | .blk id body k=> .blk id body.slim k.slim
 | .loop id init body=> .loop id init body.slim
def E4 {fn:Fns} {N:Nat}:∀(t:T) (J:List PV),t.slim.ev fn N J=t.ev fn N J
 | .w (.chk x) k,J=>by
   simp only[T.slim];split
   .rename_i h;rw[E4 k J];simp only[T.ev,W.ev];cases hx:x.ev J with
    |some p=>rfl
    |none=>
     cases hk:k.ev fn N J with
     |none=>rfl
     |some o=>
      rw[<-E4 k J] at hk;have:=G5 x k.slim o h hk;rw[hx] at this;cases this
   .simp only[T.ev,W.ev];cases hx:x.ev J with
    |some p=>exact E4 k J
    |none=>rfl
 | .w (.call g fl f ar m) k,J=>by simp only[T.slim,T.ev];congr 1;funext η';exact E4 k η'
 | .w (.clo g fl c ar m) k,J=>by simp only[T.slim,T.ev];congr 1;funext η';exact E4 k η'
 | .w (.mcall f ar) k,J=>by simp only[T.slim,T.ev];congr 1;funext η';exact E4 k η'
 | .ite c t e,J=>by simp only[T.slim,T.ev,E4 t J,E4 e J]
 | .ret es,J=>rfl
 | .yld id es,J=>rfl
 | .blk id body k,J=>by
   simp only[T.slim,T.ev,E4 body J];congr 1;funext o;cases o with
   |ret vs=>rfl
   |yld j vs=>simp only[E4 k (J++vs)]
 | .loop id init body,J=>by
   simp only[T.slim,T.ev];congr 1;funext st;have:(fun vs=>body.slim.ev fn N (J++vs))=fun vs=>body.ev fn N (J++vs):=by funext vs;exact E4 body (J++vs)
   rw[this]
open Go Go.RowKit
section
variable {P:Program} {sig:Nat->Option Nat} {fn:Fns} {w0:Fr} {Oe:Nat->Option Nat} {N:Nat}
def Zx {func:Func} {args:List PV} {w:World} {O:Nat->Option Nat} {cargs:Array Value} (hg:Given w O func.params.size args cargs) (hl:args.length=func.params.size+func.nfree) (ht:func.params.size+func.nfree<=func.ntmps) {fa:Option Nat} (hfa:∀e,fa=some e->∃xs b,args[0]? =some (.l (B0 P e) xs)∧cargs[0]? =some (.slice b xs.length xs.length)):
  Nb ⟨w,none⟩ O args (H5 P none fa func) (cargs++Array.replicate (func.ntmps - cargs.size) undef) w:=by
 refine⟨fun _=>0,fun _=>undef,O,Bel.refl ⟨w,none⟩,fun _ _ _=>rfl,hg.out,?_,fun s b hs=>by simp[H5,mget] at hs,fun s s' b b' hs=>by simp[H5,mget] at hs,fun v hv=>by cases hv⟩;have hsz:=hg.size;refine B5.mk (by simp[H5];omega) fun j x v hx hv=> ?_;simp only[H5,Af1,Br,false_and,if_false] at hx;rw[Cq] at hx;by_cases h1:j<func.params.size
 .rw[Cj (by simpa using h1)] at hx;simp only[Cd,Bl] at hx;obtain⟨k,hk,rfl⟩:=hx;rw[Cm h1] at hk;injection hk with hk;subst hk;have hp:args[j]? =some args[j]:=B1 (by omega);rw[Bt,C6 (by omega)] at hv;have hval:=hg.val j _ v h1 hp hv;have plain:B3 ⟨args,Ck w O,fun _=>0,fun _=>undef,(H5 P none fa func).m⟩ (.e (.v j)) v:=by simp only[B3,E.ev];exact⟨args[j],hp,hval⟩
  by_cases hj0:j=0
  .rw[if_pos hj0];cases fa with
   |none=>exact plain
   |some e=>
    obtain⟨xs,b,h5,h6⟩:=hfa e rfl;subst hj0;rw[hp] at h5;injection h5 with h5;rw[hv] at h6;injection h6 with h6;simp only[B3,E.ev];exact⟨xs,b,by rw[hp,h5],h6,by rw[<-h5];exact hval⟩
  .rw[if_neg hj0];exact plain
 .rw[B6 (by simpa using Nat.le_of_not_lt h1)] at hx;simp only[List.length_map,Q6] at hx;by_cases h2:j<func.params.size+func.nfree
  .rw[Cj (by simp;omega)] at hx;simp only[Cd,Bl] at hx;obtain⟨k,hk,rfl⟩:=hx;rw[Cm (by omega)] at hk;injection hk with hk;subst hk;simp only[B3,E.ev,Up];have hjj:func.params.size+(j - func.params.size)=j:=by omega
   rw[hjj];have hp:args[j]? =some args[j]:=B1 (by omega);refine⟨args[j],hp,hg.cap j _ v (by omega) hp ?_⟩;rw[Bt,C6 (by omega)] at hv;exact hv
  .rw[B6 (by simp;omega),F5] at hx;split at hx
   .injection hx with hx;subst hx;simp only[B3]
   .cases hx
def Own.mono' {B B':Nat->Prop} {w:World} {e size n:Nat} {v:Value} {xs:List Value} (h:Own w B e size v n xs) (hb:∀g,Cf v=some g->B' g):Own w B' e size v n xs:=by
 refine⟨h.1,?_⟩;rcases h.2 with h1|⟨g,cap,cur,h1,h2,h3,h4⟩
 .exact .inl h1
 .exact .inr ⟨g,cap,cur,h1,h2,hb g (by rw[h1];simp only[Cf,if_neg (show¬cap=0 by omega)]),h4⟩
def U5 {func:Func} {e:Nat} {r:Bool} {args:List PV} {w:World} {O:Nat->Option Nat} {cargs:Array Value} {v0:Value} {xs:List PV} {us:List Value} (hg:GivenM P e w O func.params.size args cargs v0 xs us) (hl:args.length=func.params.size+func.nfree) (ht:func.params.size+func.nfree<=func.ntmps):
  Nb ⟨w,some v0⟩ O args (H5 P (some (e,r)) none func) (cargs++Array.replicate (func.ntmps - cargs.size) undef) w:=by
 have hsz:=hg.size;have hpos:=hg.pos;have hmem:∀s b,mget (H5 P (some (e,r)) none func).m s=some b->s=S0∧b= .arr e (B0 P e) (.v 0) .no:=by
  intro s b hs;simp only[H5,mget] at hs;split at hs
  .rename_i h1;injection hs with hs;exact⟨h1.symm,hs.symm⟩
  .cases hs
 have harg:∀v,(cargs++Array.replicate (func.ntmps - cargs.size) undef)[0]? =some v->v=v0:=by intro v hv;rw[C6 (by omega),hg.arg] at hv;injection hv with hv;exact hv.symm
 refine⟨fun _=>(Cf v0).getD 0,fun _=>v0,O,Bel.refl ⟨w,some v0⟩,fun _ _ _=>rfl,hg.out,?_,fun s b hs=> ?_,fun s s' b b' hs hs' hne=> ?_,fun v hv _=> ?_⟩
 .refine B5.mk (by simp[H5];omega) fun j x v hx hv=> ?_;simp only[H5,Option.isSome_some,true_and] at hx;rw[Cq] at hx;by_cases h1:j<func.params.size
  .rw[Cj (by simpa using h1)] at hx;simp only[Cd,Bl] at hx;obtain⟨k,hk,rfl⟩:=hx;rw[Cm h1] at hk;injection hk with hk;subst hk;by_cases hj:j=0
   .subst hj;simp only[if_true,B3];exact harg v (by rw[<-Bt];exact hv)
   .simp only[if_neg hj,B3,E.ev];have hp:args[j]? =some args[j]:=B1 (by omega);refine⟨args[j],hp,hg.val j _ v (by omega) h1 hp ?_⟩;rw[Bt,C6 (by omega)] at hv;exact hv
  .rw[B6 (by simpa using Nat.le_of_not_lt h1)] at hx;simp only[List.length_map,Q6] at hx;by_cases h2:j<func.params.size+func.nfree
   .rw[Cj (by simp;omega)] at hx;simp only[Cd,Bl] at hx;obtain⟨k,hk,rfl⟩:=hx;rw[Cm (by omega)] at hk;injection hk with hk;subst hk;simp only[B3,E.ev,Up];have hjj:func.params.size+(j - func.params.size)=j:=by omega
    rw[hjj];have hp:args[j]? =some args[j]:=B1 (by omega);refine⟨args[j],hp,hg.cap j _ v (by omega) hp ?_⟩;rw[Bt,C6 (by omega)] at hv;exact hv
   .rw[B6 (by simp;omega),F5] at hx;split at hx
    .injection hx with hx;subst hx;simp only[B3]
    .cases hx
 .obtain⟨rfl,rfl⟩:=hmem s b hs;refine⟨hg.sz,xs,us,?_,hg.own.mono' fun g hgb=> .inr hgb,hg.el,fun g hgb=> ?_,trivial⟩
  .show (E.v 0).ev args=_;simp only[E.ev];exact hg.fst
  .have hgb':Cf v0=some g:=hgb;refine⟨?_,0,hg.shut g hgb',Ej _,fun _=>rfl⟩;show g=(Cf v0).getD 0;rw[hgb'];rfl
 .obtain⟨rfl,_⟩:=hmem s b hs;obtain⟨rfl,_⟩:=hmem s' b' hs';exact absurd rfl hne
 .injection hv with hv;subst hv;rw[C6 (by omega)];exact hg.arg
def R1 {α:Type} {w:World} {g:α->Sem Value}:∀{l:List α} {us:List Value},us.length=l.length->(∀(j:Nat) (x:α) (u:Value),l[j]? =some x->us[j]? =some u->(g x).run P w= .ok u w)->(l.mapM g).run P w= .ok us w
 |[],us,hl,_=>by have:us=[]:=Cz (by simpa using hl);subst this;simp
 |x::l,[],hl,_=>by simp at hl
 |x::l,u::us,hl,h=>by have h1:=h 0 x u rfl rfl;have h2:=R1 (l:=l) (us:=us) (by simpa using hl) (fun j y v hy hv=>h (j+1) y v (by simpa using hy) (by simpa using hv));simp[F0,h1,h2]
def gR (tm:Array Value):ResultVar->Sem Value
 | .tmp t=>pure (tm.getD t undef)
 | .cell a t=>do loadVar t (<-asAddr (tm.getD a undef))
def Kw {func:Func} {σ:St} {J:List PV} {tm:Array Value} {w:World} {β:Nat->Nat} {hv:Nat->Value} {O:Nat->Option Nat} {svs:List SV} (h:Rel w0 Oe J σ tm w β hv O) (hs:Gh P σ func.results.toList=some svs):
  ∃us,B5 ⟨J,Ck w O,β,hv,σ.m⟩ svs us∧(Go.results func tm).run P w= .ok (if h:us.length=1 then us[0] else .tuple us.toArray) w:=by
 have go:∀{l:List ResultVar} {svs:List SV},Gh P σ l=some svs->∃us:List Value,B5 ⟨J,Ck w O,β,hv,σ.m⟩ svs us∧us.length=l.length∧∀(j:Nat) (x:ResultVar) (u:Value),l[j]? =some x->us[j]? =some u->
   (gR tm x).run P w= .ok u w:=by
  intro l
  induction l with
  |nil=>
   intro svs h;simp only[Gh,Bh] at h;subst h;exact⟨[],by simp only[B5],rfl,fun j x u hx=>by simp at hx⟩
  |cons r l ih=>
   intro svs hs;simp only[Gh] at hs;split at hs
   .rename_i x xs hx hxs;injection hs with hs;subst hs;obtain⟨us,u1,u2,u3⟩:=ih hxs;have one:∃u,B3 ⟨J,Ck w O,β,hv,σ.m⟩ x u∧(gR tm r).run P w= .ok u w:=by
     cases r with
     |tmp t=>
      simp only[Zf] at hx;obtain⟨u,h1,h2⟩:=h.tmps.get t x hx;refine⟨u,h2,?_⟩;rw[Bt] at h1;simp[gR,B7,h1]
     |cell p t=>
      simp only[Zf] at hx;split at hx
      .rename_i sv hsv;split at hx
       .rename_i v hl;injection hx with hx;subst hx;obtain⟨u0,h1,h2⟩:=h.tmps.get p sv hsv;rw[Bt] at h1;obtain⟨ad,u,g1,g2,g3⟩:=Xz (G:=none) h (fun g hg=>by cases hg) h2 hl (fun x hx=>by simp at hx);subst g1;refine⟨u,g3,?_⟩;simp[gR,B7,h1,asAddr,g2]
       .cases hx
      .cases hx
    obtain⟨u,v1,v2⟩:=one;refine⟨u::us,by simp only[B5];exact⟨u,us,rfl,v1,u1⟩,by simp[u2],fun j y u' hy hu=> ?_⟩;cases j with
    |zero=>simp at hy hu;subst hy;subst hu;exact v2
    |succ j=>exact u3 j y u' (by simpa using hy) (by simpa using hu)
   .cases hs
 obtain⟨us,u1,u2,u3⟩:=go hs;refine⟨us,u1,?_⟩;have hm:=R1 (P:=P) (w:=w) (g:=gR tm) u2 u3;have e:Go.results func tm=(do let vs<-List.toArray<$>func.results.toList.mapM (gR tm);pure (if h:vs.size=1 then vs[0] else .tuple vs)):=by
  unfold Go.results;rw[Array.mapM_eq_mapM_toList];have he:∀x,(match x with|ResultVar.tmp t=>pure (tm.getD t undef)|ResultVar.cell a t=>do loadVar t (<-asAddr (tm.getD a undef)):Sem Value)=gR tm x:=fun x=>by cases x<;>rfl
  congr
 rw[e];simp only[Sem.run_bind,Sem.run_map];rw[hm];simp only[Result.andThen,Sem.run_pure];by_cases h1:us.length=1
 .rw[dif_pos h1];have:us.toArray.size=1:=by simpa using h1
  simp only[this,dif_pos];simp
 .rw[dif_neg h1];have:¬us.toArray.size=1:=by simpa using h1
  rw[dif_neg this]
def P6 {func:Func} {σ:St} {J:List PV} {tm:Array Value} {w:World} {β:Nat->Nat} {hv:Nat->Value} {O:Nat->Option Nat} {cs:List SV} (h:Rel w0 Oe J σ tm w β hv O) {svs:List SV} (hsv:Gh P σ func.results.toList=some svs) (hs:H9 P σ func.results.toList=some cs):
  ∃vs:Array Value,(Go.results func tm).run P w= .ok (.agg vs) w∧B5 ⟨J,Ck w O,β,hv,σ.m⟩ cs vs.toList:=by
 have e:∀x:ResultVar,func.results.toList=[x]->∀v,(gR tm x).run P w= .ok v w->(Go.results func tm).run P w= .ok v w:=by
  intro x hx v hv1;have e:Go.results func tm=(do let vs<-List.toArray<$>func.results.toList.mapM (gR tm);pure (if h:vs.size=1 then vs[0] else .tuple vs)):=by
   unfold Go.results;rw[Array.mapM_eq_mapM_toList];have he:∀x,(match x with|ResultVar.tmp t=>pure (tm.getD t undef)|ResultVar.cell a t=>do loadVar t (<-asAddr (tm.getD a undef)):Sem Value)=gR tm x:=fun x=>by cases x<;>rfl
   congr
  rw[e,hx];simp[F0,hv1,Result.andThen]
 unfold H9 at hs;split at hs
 .rename_i p t hr;split at hs
  .rename_i hag;split at hs
   .rename_i s off hp;split at hs
    .rename_i cs0 ro hb;injection hs with hs;subst hs;obtain⟨_,_,vs,T,g3,g4,g5,_⟩:=h.mem s _ hb;obtain⟨u0,h1,h2⟩:=h.tmps.get p _ hp;rw[Bt] at h1;simp only[B3] at h2;subst h2;have hle:off+B0 P t<=cs0.length:=by
      rw[hr] at hsv;simp only[Gh,Zf,hp] at hsv;unfold Iv at hsv;by_cases hle:off+B0 P t<=cs0.length
      .exact hle
      .simp only[hb,hag,if_true,if_neg hle] at hsv;split at hsv
       .rename_i hx _;split at hx
        .rename_i hl;split at hl<;>cases hl
        .cases hx
       .cases hsv
     have hlen:=g5.length;refine⟨((vs.toList.drop off).take (B0 P t)).toArray,e _ hr _ ?_,?_⟩
     .have:=Gf (P:=P) w (a:=⟨β s,off,none⟩) (us:=(vs.toList.drop off).take (B0 P t)) hag (by simp at hlen ⊢;omega) fun j u hu=>by
       rw[B8] at hu;split at hu
       .rw[Cc,Bt] at hu;rw[add_lit,cell_of_row w (β s) (off+j) vs T (0,0) g3];exact hu
       .cases hu
      simp[gR,B7,h1,asAddr,this]
     .refine B5.mk (by simp[hlen]) fun j y u hy hu=> ?_;rw[B8] at hy;split at hy
      .rename_i hj;have hu':((vs.toList.drop off).take (B0 P t))[j]? =some u:=by simpa using hu
       rw[B8,if_pos hj] at hu';rw[Cc] at hy hu';obtain⟨u',hu2,hr'⟩:=g5.get _ y hy;rw[hu'] at hu2;injection hu2 with hu2;subst hu2;exact hr'
      .cases hy
    .cases hs
   .cases hs
  .cases hs
 .rename_i t hr;split at hs
  .rename_i cs0 hp;injection hs with hs;subst hs;obtain⟨u0,h1,h2⟩:=h.tmps.get t _ hp;rw[Bt] at h1;simp only[B3] at h2;obtain⟨vs,rfl,_,h3⟩:=h2;exact⟨vs,e _ hr _ (by simp[gR,B7,h1]),h3⟩
  .cases hs
 .cases hs
def Pn (hC:Contract P sig fn) {f:Nat} (hmu:Lp (sig f)=none) {func:Func} {H:Hints} {t:T} {args rs:List PV} (hf:P.funcs[f]? =some func) (hx:Yh P sig f func H=some t) (hev:t.ev fn N args=some (.ret rs)) (hl:args.length=func.params.size+func.nfree) {w:World} {O:Nat->Option Nat} {cargs:Array Value} (hg:Given w O func.params.size args cargs) (hfa:∀e,Pj (sig f)=some e->∃xs b,args[0]? =some (.l (B0 P e) xs)∧cargs[0]? =some (.slice b xs.length xs.length)):
  Calls P f cargs w fun e w'=>∃v,e= .returned v∧dm P (sig f) w O rs v w':=by
 unfold Yh at hx;split at hx
 .rename_i c hb;split at hx
  .rename_i ht;rw[hmu] at hx;simp only[Af1,Br,false_and,if_false] at hx;refine calls_of_wp hf hb ?_;refine Im hC c 0 0 (H5 P none (Pj (sig f)) func) _ t args (.ret rs) _ w _ hx hev (by rw[hl];rfl) (Zx hg hl ht hfa) ?_;intro x σ' T' η' ζ a' w' h1 h2 h3 h4 h5 h6;have main:∀svs,Gh P σ' func.results.toList=some svs->(match rkOf (sig f) with
     | .own e=>Jr P σ' e svs
     | .ownt e=>Iw P σ' e svs
     | .full nl m=>match H9 P σ' func.results.toList with
       |some cs=>if R0 nl m cs then(Ps σ'.m svs).map fun r=> .ret r.1 else none
       |none=>none
     | .plain=>(Ps σ'.m svs).map fun r=> .ret r.1)=some T'->∃v,(Go.results func a'.tmps).run P w'= .ok v w'∧dm P (sig f) w O rs v w':=by
    intro svs hs hT;obtain⟨β,hv,O',rel⟩:=h5;obtain⟨us,u1,u2⟩:=Kw rel hs;refine⟨_,u2,rel.bel.below rfl,?_⟩;have plainly:((Ps σ'.m svs).map fun r=>T.ret r.1)=some T'->∃O'',(∀c,c<w.heap.size->O'' c=O c)∧(∀c,w'.heap.size<=c->O'' c=none)∧Hj (Ck w' O'') rs (if h:us.length=1 then us[0] else .tuple us.toArray):=by
     intro hT;obtain⟨⟨es,ss⟩,he,rfl⟩:=Bl.1 hT;obtain⟨O'',hrel,hM,hop,_⟩:=rel.frz ss (n:=0);obtain⟨ps,q1,q2,q3⟩:=Il rel hM he u1 (fun s hs=>hop s (by simpa using hs));simp only[T.ev,Bl] at h2;obtain⟨vs,hvs,hret⟩:=h2;injection hret with hret;subst hret;rw[q1] at hvs;injection hvs with hvs;subst hvs;refine⟨O'',fun c hc=>hrel.ext c hc (by simp[Fr.x]),hrel.out,?_⟩;show Hj (Ck w' O'') ps _
     match ps,us,q2,q3 with
     |[p],[u],_,q3=>exact q3 0 p u rfl rfl
     |[],[],_,_=>exact⟨#[],by simp,rfl,fun j p u hp=>by simp at hp⟩
     |p::p'::ps,u::u'::us,q2,q3=>
      have:¬(u::u'::us).length=1:=by simp
      rw[dif_neg this];exact⟨_,rfl,by simpa using q2.symm,fun j p v hp hv=>q3 j p v hp (by simpa using hv)⟩
     |[],_::_,q2,_=>simp at q2
     |_::_,[],q2,_=>simp at q2
     |[_],_::_::_,q2,_=>simp at q2
     |_::_::_,[_],q2,_=>simp at q2
    cases hsig:rkOf (sig f) with
    |plain=>
     rw[hsig] at hT;exact plainly hT
    |full nl m=>
     rw[hsig] at hT;simp only at hT;split at hT
     .rename_i cs hcs;split at hT
      .rename_i hmask;obtain⟨O'',g1,g2,g3⟩:=plainly hT;refine⟨O'',g1,g2,g3,?_⟩;have hagg:∃vs:Array Value,(Go.results func a'.tmps).run P w'= .ok (.agg vs) w'∧B5 ⟨η',Ck w' O',β,hv,σ'.m⟩ cs vs.toList:=P6 rel hs hcs;obtain⟨vs,hrun,hcells⟩:=hagg;rw[u2] at hrun;injection hrun with hrun _;rw[hrun];intro j hj;simp only[R0,Bp,decide_eq_true_eq,C1,En,B4,C3] at hmask;have hjl:j<cs.length:=by
        rcases Nat.lt_or_ge j cs.length with h|h
        .exact h
        .have:=Nat.testBit_lt_two_pow (Dt hmask.1 (Nat.pow_le_pow_right (by omega) h));rw[this] at hj;cases hj
       have hcj:cs[j]? =some cs[j]:=B1 hjl;obtain⟨u,hu,hru⟩:=hcells.get j _ hcj;rw[Bt] at hu;have hnr:=(hmask.2 j hjl).resolve_left (by rw[hj];simp);have hgd:cs.getD j .und=cs[j]:=by simp[Cw,hcj]
       rw[hgd] at hnr;generalize cs[j]=x at hru hnr;cases x with
       |nil sz=>
        simp only[B3] at hru;exact⟨vs,none,0,rfl,by rw[hu,hru],fun _=>⟨rfl,rfl⟩⟩
       |lit sz y=>
        simp only[B3] at hru;obtain⟨xs,b,_,h5,_⟩:=hru;refine⟨vs,b,xs.length,rfl,by rw[hu,h5],fun hn=> ?_⟩;rw[hn] at hnr;simp[SV.noRoom] at hnr
       |_=>simp[SV.noRoom] at hnr
      .cases hT
     .cases hT
    |ownt e=>
     rw[hsig] at hT;simp only at hT;refine⟨O',fun c hc=>rel.ext c hc (by simp[Fr.x]),rel.out,?_⟩;unfold Iw at hT;split at hT
     .rename_i s y;split at hT
      .rename_i e' sz x lk hb';split at hT
       .rename_i hcond;obtain⟨rfl,rfl⟩:=hcond;injection hT with hT;subst hT;obtain⟨q0,xs,cs,q1,q2,q3,q4,_⟩:=rel.mem s _ hb';have q1':x.ev η'=some (.l (B0 P e') xs):=q1;simp only[B5,B3] at u1;obtain⟨v,r,rfl,hv1,v2,r2,rfl,⟨p,hp,hrep⟩,rfl⟩:=u1;have hp':y.ev η'=some p:=hp;simp only[T.ev,E.evs,q1',hp',Bm,B9,Bh,Out.ret.injEq] at h2;refine⟨q0,xs,cs,p,v,v2,h2.symm,rfl,?_,q3,fun g hg'=> ?_,hrep⟩
        .rw[hv1];refine q2.mono fun g hg=> ?_;rcases hg with hg|hg
         .exact hg
         .simp[Fr.x] at hg
        .rw[hv1] at hg';obtain⟨_,lim,h7,_,h8⟩:=q4 g hg';rw[h7,h8 rfl]
       .cases hT
      .cases hT
     .rename_i sz y;split at hT
      .rename_i hcond;obtain⟨rfl,h0⟩:=hcond;injection hT with hT;subst hT;simp only[B5,B3] at u1;obtain⟨v,r,rfl,hv1,v2,r2,rfl,⟨p,hp,hrep⟩,rfl⟩:=u1;have hp':y.ev η'=some p:=hp;simp only[T.ev,E.evs,E.ev,hp',Bm,B9,Bh,Out.ret.injEq] at h2;refine⟨h0,[],[],p,v,v2,h2.symm,rfl,?_,fun i x hx=>by simp at hx,fun g hg'=> ?_,hrep⟩
       .rw[hv1];exact⟨by simp,.inl ⟨none,rfl,rfl⟩⟩
       .rw[hv1] at hg';simp[Cf] at hg'
      .cases hT
     .cases hT
    |own e=>
     rw[hsig] at hT;simp only at hT;refine⟨O',fun c hc=>rel.ext c hc (by simp[Fr.x]),rel.out,?_⟩;unfold Jr at hT;split at hT
     .rename_i s;split at hT
      .rename_i e' sz x lk hb';split at hT
       .rename_i hcond;obtain⟨rfl,rfl⟩:=hcond;injection hT with hT;subst hT;obtain⟨q0,xs,cs,q1,q2,q3,q4,_⟩:=rel.mem s _ hb';have q1':x.ev η'=some (.l (B0 P e') xs):=q1;simp only[T.ev,E.evs,q1',Bm,B9,Bh,Out.ret.injEq] at h2;simp only[B5,B3] at u1;obtain⟨v,r,rfl,hv1,rfl⟩:=u1;refine⟨q0,xs,cs,h2.symm,?_,q3,fun g hg'=> ?_⟩
        .show Own w' (Um w.heap.size) e' (B0 P e') v xs.length cs;rw[hv1];refine q2.mono fun g hg=> ?_;rcases hg with hg|hg
         .exact hg
         .simp[Fr.x] at hg
        .have hg2:Cf v=some g:=hg';rw[hv1] at hg2;obtain⟨_,lim,h7,_,h8⟩:=q4 g hg2;rw[h7,h8 rfl]
       .cases hT
      .cases hT
     .rename_i sz;split at hT
      .rename_i hcond;obtain⟨rfl,h0⟩:=hcond;injection hT with hT;subst hT;simp only[T.ev,E.evs,E.ev,Bm,B9,Bh,Out.ret.injEq] at h2;simp only[B5,B3] at u1;obtain⟨v,r,rfl,hv1,rfl⟩:=u1;refine⟨h0,[],[],h2.symm,?_,fun i x hx=>by simp at hx,fun g hg'=> ?_⟩
       .show Own w' (Um w.heap.size) e (B0 P e) v 0 [];rw[hv1];exact⟨by simp,.inl ⟨none,rfl,rfl⟩⟩
       .have hg2:Cf v=some g:=hg';rw[hv1] at hg2;simp[Cf] at hg2
      .cases hT
     .rename_i sz x;split at hT
      .rename_i hcond;obtain⟨rfl,h0⟩:=hcond;injection hT with hT;subst hT;simp only[B5,B3] at u1;obtain⟨v,r,rfl,hv1,rfl⟩:=u1;obtain⟨xs,b,hxe,hvb,_⟩:=hv1;have hxe':x.ev η'=some (.l (B0 P e) xs):=hxe;simp only[T.ev,W.ev,uj,E.ev,E.evs,hxe',F2,X.bin,Ex,Bm,if_true] at h2;have hx0:xs=[]:=by
        by_cases hx0:xs=[]
        .exact hx0
        .have hl:((xs.length:Int)==0)=false:=by have:=D9.2 hx0;simp;omega
         rw[hl] at h2;simp[PV.scal] at h2
       subst hx0;simp only[Ac7] at h2;have hrs:[PV.l (B0 P e) []]=rs:=by simpa using h2
       refine⟨h0,[],[],hrs.symm,?_,fun i x hx=>by simp at hx,fun g hg'=> ?_⟩
       .show Own w' (Um w.heap.size) e (B0 P e) v 0 [];rw[hvb];exact⟨by simp,.inl ⟨b,rfl,rfl⟩⟩
       .have hg2:Cf v=some g:=hg';rw[hvb] at hg2;cases b<;>simp[Cf] at hg2
      .cases hT
     .cases hT
   unfold l4 at h1;simp only[hmu] at h1;have fin:∀svs,Gh P σ' func.results.toList=some svs->(match rkOf (sig f) with
     | .own e=>Jr P σ' e svs
     | .ownt e=>Iw P σ' e svs
     | .full nl m=>match H9 P σ' func.results.toList with
       |some cs=>if R0 nl m cs then(Ps σ'.m svs).map fun r=> .ret r.1 else none
       |none=>none
     | .plain=>(Ps σ'.m svs).map fun r=> .ret r.1)=some T'->a'.defers=[]∧∃v,(Go.results func a'.tmps).run P w'= .ok v w'∧∃v',Ending.returned v= .returned v'∧dm P (sig f) w O rs v' w':=by
    intro svs hs hT;obtain⟨v,k1,k2⟩:=main svs hs hT;exact⟨h6,v,k1,v,rfl,k2⟩
   cases x with
   |exit b=>simp at h1
   |normal=>
    simp only at h1;split at h1
    .rename_i svs hs;exact fin svs hs h1
    .cases h1
   |ret=>
    simp only at h1;split at h1
    .rename_i svs hs;exact fin svs hs h1
    .cases h1
  .cases hx
 .cases hx
def Y2 (hC:Contract P sig fn) {f e:Nat} {r:Bool} (hmu:Lp (sig f)=some (e,r)) {func:Func} {H:Hints} {t:T} {args rs:List PV} (hf:P.funcs[f]? =some func) (hx:Yh P sig f func H=some t) (hev:t.ev fn N args=some (.ret rs)) (hl:args.length=func.params.size+func.nfree) {w:World} {O:Nat->Option Nat} {cargs:Array Value} {v0:Value} {xs:List PV} {us:List Value} (hg:GivenM P e w O func.params.size args cargs v0 xs us):
  Calls P f cargs w fun en w'=>∃v,en= .returned v∧dl P e r v0 w O rs v w':=by
 unfold Yh at hx;split at hx
 .rename_i c hb;split at hx
  .rename_i ht;rw[hmu,Xr hmu] at hx;have hpos:=hg.pos;have hnp:¬((some (e,r):Option (Nat×Bool)).isSome=true∧func.params.size=0):=fun h=>by omega
   rw[if_neg hnp] at hx;refine calls_of_wp hf hb ?_;refine Im hC c 0 0 (H5 P (some (e,r)) none func) _ t args (.ret rs) _ w _ hx hev (by rw[hl];rfl) (U5 hg hl ht) ?_;intro x σ' T' η' ζ a' w' h1 h2 h3 h4 h5 h6;have main:∀svs,Gh P σ' func.results.toList=some svs->R4 P σ' e r svs=some T'->∃v,(Go.results func a'.tmps).run P w'= .ok v w'∧dl P e r v0 w O rs v w':=by
    intro svs hs hT;obtain⟨β,hv,O',rel⟩:=h5;obtain⟨us1,u1,u2⟩:=Kw rel hs;refine⟨_,u2,rel.bel,O',fun c hc hx=>rel.ext c hc hx,rel.out,?_⟩;unfold R4 at hT;split at hT
    .rename_i s hsel;split at hT
     .rename_i e' sz x lk hb';split at hT
      .rename_i hcond;obtain⟨rfl,rfl⟩:=hcond;injection hT with hT;subst hT;obtain⟨q0,ys,cs,q1,q2,q3,q4,_⟩:=rel.mem s _ hb';have q1':x.ev η'=some (.l (B0 P e') ys):=q1;simp only[T.ev,E.evs,q1',Bm,B9,Bh,Out.ret.injEq] at h2;refine⟨ys,cs,h2.symm,q3,fun hr=> ?_,fun hr=> ?_⟩
       .subst hr;simp only[if_true] at hsel;split at hsel
        .rename_i s';injection hsel with hsel;subst hsel;simp only[B5,B3] at u1;obtain⟨v,r1,rfl,hv1,rfl⟩:=u1;refine⟨?_,fun g hg'=> ?_⟩
         .show Own w' _ e' (B0 P e') v ys.length cs;rw[hv1];exact q2
         .have hg2:Cf v=some g:=hg';rw[hv1] at hg2;obtain⟨_,lim,h7,_,h8⟩:=q4 g hg2;rw[h7,h8 rfl]
        .cases hsel
       .subst hr;simp only[Br,if_false] at hsel;split at hsel
        .rename_i s' ht0;split at hsel
         .rename_i hs0;injection hsel with hsel;subst hsel;subst hs0;have hvs:hv S0=v0:=by have g1:=rel.t0 v0 rfl ht0;obtain⟨v,g2,g3⟩:=rel.tmps.get 0 _ ht0;rw[Bt,g1] at g2;injection g2 with g2;simp only[B3] at g3;rw[<-g3,g2]
          simp only[B5] at u1;subst u1;refine⟨rfl,?_,fun g hg'=> ?_⟩
          .have:=q2.mono (B':=fun _=>True) fun _ _=>trivial;show Own w' _ e' (B0 P e') v0 ys.length cs;rw[<-hvs];exact this
          .have hg2:Cf (hv S0)=some g:=by rw[hvs];exact hg'
           obtain⟨_,lim,h7,_,h8⟩:=q4 g hg2;rw[h7,h8 rfl]
         .cases hsel
        .cases hsel
      .cases hT
     .cases hT
    .cases hT
   unfold l4 at h1;simp only[hmu] at h1;have fin:∀svs,Gh P σ' func.results.toList=some svs->R4 P σ' e r svs=some T'->a'.defers=[]∧∃v,(Go.results func a'.tmps).run P w'= .ok v w'∧∃v',Ending.returned v= .returned v'∧dl P e r v0 w O rs v' w':=by intro svs hs hT;obtain⟨v,k1,k2⟩:=main svs hs hT;exact⟨h6,v,k1,v,rfl,k2⟩
   cases x with
   |exit b=>simp at h1
   |normal=>
    simp only at h1;split at h1
    .rename_i svs hs;exact fin svs hs h1
    .cases h1
   |ret=>
    simp only at h1;split at h1
    .rename_i svs hs;exact fin svs hs h1
    .cases h1
  .cases hx
 .cases hx
def Uq (sig:Nat->Option Nat) (f:Nat) (func:Func):Nat:=func.params.size+if(Lp (sig f)).isSome||(Pj (sig f)).isSome then TAG else 0
def Tab (P:Program) (sig:Nat->Option Nat) (tab:Nat->Option FT):Prop:=
 (∀ f ft, tab f = some ft → ∃ func H, P.funcs[f]? = some func ∧ (func.name == "runtime.NumGoroutine") = false ∧ Uq sig f func = ft.np ∧ func.params.size < TAG ∧ func.nfree = ft.nf ∧ ∃ t, Yh P sig f func H = some t ∧ t.slim = ft.t) ∧ Af0 P sig
def J1 {f:Nat} {func:Func} {H:Hints} {t:T} (hx:Yh P sig f func H=some t):func.body.isSome=true:=by
 unfold Yh at hx;split at hx
 .rename_i h;rw[h];rfl
 .cases hx
def Vz {tab:Nat->Option FT} {ext:Fns->Fns} (hT:Tab P sig tab) (hE:∀fn,Contract P sig fn->Contract P sig (ext fn)):∀k,Contract P sig (K5 tab ext k)
 |0=>⟨fun f n vs rs h=>by simp[K5] at h,hT.2⟩
 |k+1=>by
  refine⟨fun f n vs rs h=> ?_,hT.2⟩
  ·
   have ih:=Vz hT hE k;simp only[K5] at h;split at h
   .rename_i ft hft;split at h
    .rename_i hc;obtain⟨o,ho,h⟩:=Bg.1 h;split at h
     .rename_i vs';injection h with h;subst h;obtain⟨func,H,hf,hn,hp,hlt,hnf,t0,hx,hs⟩:=hT.1 f ft hft;rw[<-hs,E4] at ho;obtain⟨hc1,hc2⟩:=hc;unfold Uq at hp;refine⟨fun hn1 w O args hg=> ?_,fun hn1=> ?_⟩
      .have hno:((Lp (sig f)).isSome||(Pj (sig f)).isSome)=false:=by
        cases hb:((Lp (sig f)).isSome||(Pj (sig f)).isSome) with
        |false=>rfl
        |true=>
         rw[hb] at hp;simp only[if_true] at hp;omega
       rw[hno] at hp;simp only[Br,if_false,Dd] at hp;simp only[Ur,Option.isSome_eq_false_iff,Cl] at hno;obtain⟨hmu,hfa⟩:=hno;refine E2.of_calls hf hn (J1 hx) ?_;refine Pn ih hmu hf hx ho ?_ (by rw[hp,hc1];exact hg) (fun e he=>by rw[hfa] at he;cases he);rw[hc2,<-hp,D6 hlt,hnf]
      .have hyes:((Lp (sig f)).isSome||(Pj (sig f)).isSome)=true:=by
        cases hb:((Lp (sig f)).isSome||(Pj (sig f)).isSome) with
        |true=>rfl
        |false=>
         rw[hb] at hp;simp only[Br,if_false] at hp;omega
       rw[hyes] at hp;simp only[if_true] at hp;have e1:n - TAG=func.params.size:=by omega
       have e2:(func.params.size+TAG) % TAG=func.params.size:=by rw[Nat.add_mod_right];exact D6 hlt
       cases hmu:Lp (sig f) with
       |some er=>
        obtain⟨e,r⟩:=er;refine .inl ⟨e,r,rfl,fun w O args v0 xs us hg=> ?_⟩;refine E2.of_calls hf hn (J1 hx) ?_;rw[e1] at hg;refine Y2 ih hmu hf hx ho ?_ hg;rw[hc2,<-hp,e2,hnf]
       |none=>
        rw[hmu] at hyes;simp only[Af1,Bool.false_or] at hyes;obtain⟨e,hfa⟩:=Cp.1 hyes;refine .inr ⟨e,hfa,fun w O args b xs hg h0 h5=> ?_⟩;refine E2.of_calls hf hn (J1 hx) ?_;rw[e1] at hg;refine Pn ih hmu hf hx ho ?_ hg (fun e' he=> ?_)
        .rw[hc2,<-hp,e2,hnf]
        .rw[hfa] at he;injection he with he;subst he;exact⟨xs,b,h0,h5⟩
     .cases h
    .cases h
   .exact(hE _ ih).says f n vs rs h
end
open Go
def Fle (fn fn':Fns):Prop:=∀f n vs rs,fn f n vs=some rs->fn' f n vs=some rs
def Fle.refl (fn:Fns):Fle fn fn:=fun _ _ _ _ h=>h
def Fle.trans {a b c:Fns} (h:Fle a b) (h':Fle b c):Fle a c:=fun f n vs rs e=>h' f n vs rs (h f n vs rs e)
def Is {flat:Bool} {m:Nat} {J η':List PV} {r r':Option (List PV)} (hr:∀rs,r=some rs->r'=some rs) (h:results flat m J r=some η'):results flat m J r'=some η':=by unfold results at h ⊢;obtain⟨rs,h1,h2⟩:=Bg.1 h;rw[hr rs h1];exact h2
def L0 {J η':List PV} {m:Nat} {g:Option E} {r r':Option (List PV)} (hr:∀x,r=some x->r'=some x) (h:D2 J m g r=some η'):D2 J m g r'=some η':=by
 unfold D2 at h ⊢;split at h
 .exact hr _ h
 .obtain⟨v,h1,h2⟩:=Bg.1 h;rw[h1];simp only[Bm];split at h2
  .exact hr _ h2
  .exact h2
  .cases h2
def W.ev_le {fn fn':Fns} (hf:Fle fn fn') {J η':List PV}:∀{x:W},x.ev fn J=some η'->x.ev fn' J=some η'
 | .chk x,h=>h
 | .call g flat f ar m,h=>by simp only[W.ev] at h ⊢;refine L0 (fun x hx=> ?_) h;obtain⟨vs,h1,h2⟩:=Bg.1 hx;rw[h1];exact Is (fun rs hr=>hf _ _ _ _ hr) h2
 | .clo g flat c ar m,h=>by
   simp only[W.ev] at h ⊢;refine L0 (fun x hx=> ?_) h;obtain⟨q,h0,hx⟩:=Bg.1 hx;obtain⟨vs,h1,h2⟩:=Bg.1 hx;rw[h0];simp only[Bm];rw[h1];simp only[Bm];split at h2
   .exact Is (fun rs hr=>hf _ _ _ _ hr) h2
   .cases h2
 | .mcall f ar,h=>by simp only[W.ev] at h ⊢;obtain⟨vs,h1,h2⟩:=Bg.1 h;rw[h1];exact Is (fun rs hr=>hf _ _ _ _ hr) h2
def Kq {s s':List PV->Option Out} (hs:∀vs o,s vs=some o->s' vs=some o) {id:Nat}:∀{n n':Nat} {st:List PV} {o:Out},n<=n'->Fx s id n st=some o->Fx s' id n' st=some o
 |0,_,_,_,_,h=>by simp[Fx] at h
 |n+1,0,_,_,hn,_=>by omega
 |n+1,n'+1,st,o,hn,h=>by
  simp only[Fx] at h ⊢;obtain⟨o1,h1,h2⟩:=Bg.1 h;rw[hs _ _ h1];simp only[Bm];split at h2
  .split at h2
   .rename_i hj;rw[if_pos hj];exact Kq hs (by omega) h2
   .rename_i hj;rw[if_neg hj];exact h2
  .exact h2
def T.ev_le {fn fn':Fns} (hf:Fle fn fn') {N N':Nat} (hN:N<=N'):∀{t:T} {J:List PV} {o:Out},t.ev fn N J=some o->t.ev fn' N' J=some o
 | .w x k,J,o,h=>by simp only[T.ev] at h ⊢;obtain⟨η',h1,h2⟩:=Bg.1 h;rw[W.ev_le hf h1];exact T.ev_le hf hN h2
 | .ite c t e,J,o,h=>by
   simp only[T.ev] at h ⊢;obtain⟨r,h1,h2⟩:=Bg.1 h;rw[h1];simp only[Bm];split at h2
   .exact T.ev_le hf hN h2
   .exact T.ev_le hf hN h2
   .cases h2
 | .ret es,J,o,h=>h
 | .yld id es,J,o,h=>h
 | .blk id body k,J,o,h=>by
   simp only[T.ev] at h ⊢;obtain⟨o1,h1,h2⟩:=Bg.1 h;rw[T.ev_le hf hN h1];simp only[Bm];split at h2
   .split at h2
    .rename_i hj;rw[if_pos hj];exact T.ev_le hf hN h2
    .rename_i hj;rw[if_neg hj];exact h2
   .exact h2
 | .loop id init body,J,o,h=>by simp only[T.ev] at h ⊢;obtain⟨st,h1,h2⟩:=Bg.1 h;rw[h1];exact Kq (fun vs o ho=>T.ev_le hf hN ho) hN h2
def Gq (ext:Fns->Fns):Prop:=∀fn fn',Fle fn fn'->Fle (ext fn) (ext fn')
section
variable {tab:Nat->Option FT} {ext:Fns->Fns}
def Ox (hE:Gq ext):∀k,Fle (K5 tab ext k) (K5 tab ext (k+1))
 |0=>fun f n vs rs h=>by simp[K5] at h
 |k+1=>fun f n vs rs h=>by
  have ih:=Ox hE k;rw[K5] at h ⊢;cases ht:tab f with
  |none=>simp only[ht] at h ⊢;exact hE _ _ ih _ _ _ _ h
  |some t=>
   simp only[ht] at h ⊢;split at h
   .rename_i hc;rw[if_pos hc];obtain⟨o,h1,h2⟩:=Bg.1 h;rw[T.ev_le ih (Nat.le_succ k) h1];exact h2
   .cases h
def Gz (hE:Gq ext) {k k':Nat} (h:k<=k'):Fle (K5 tab ext k) (K5 tab ext k'):=by
 induction h with
 |refl=>exact Fle.refl _
 |step _ ih=>exact ih.trans (Ox hE _)
open Classical in
noncomputable def sem (tab:Nat->Option FT) (ext:Fns->Fns):Fns:=fun f n args=>
 if h:∃rs k,K5 tab ext k f n args=some rs then some h.choose else none
def Mh (hE:Gq ext) {f n:Nat} {args rs:List PV}:sem tab ext f n args=some rs↔∃k,K5 tab ext k f n args=some rs:=by
 unfold sem;constructor
 .intro h;split at h
  .rename_i hex;injection h with h;subst h;exact hex.choose_spec
  .cases h
 .rintro⟨k,hk⟩;have hex:∃rs k,K5 tab ext k f n args=some rs:=⟨rs,k,hk⟩;rw[dif_pos hex];obtain⟨k',hk'⟩:=hex.choose_spec;have h1:=Gz hE (Ac5 k k') _ _ _ _ hk;have h2:=Gz hE (Yp k k') _ _ _ _ hk';rw[h1] at h2;exact h2.symm
def W.ev_cont (hE:Gq ext) {J η':List PV}:∀{x:W},x.ev (sem tab ext) J=some η'->∃k,x.ev (K5 tab ext k) J=some η':=by
 have res:∀{flat:Bool} {m f n:Nat} {vs:List PV},results flat m J (sem tab ext f n vs)=some η'->∃k,results flat m J (K5 tab ext k f n vs)=some η':=by intro flat m f n vs h;unfold results at h;obtain⟨rs,h1,h2⟩:=Bg.1 h;obtain⟨k,hk⟩:=(Mh hE).1 h1;exact⟨k,by unfold results;rw[hk];exact h2⟩
 intro x h;cases x with
 |chk x=>exact⟨0,h⟩
 |call g flat f ar m=>
  simp only[W.ev] at h ⊢;unfold D2 at h ⊢;split at h
  .obtain⟨vs,h1,h2⟩:=Bg.1 h;obtain⟨k,hk⟩:=res h2;exact⟨k,by rw[h1];exact hk⟩
  .obtain⟨v,h0,h⟩:=Bg.1 h;split at h
   .obtain⟨vs,h1,h2⟩:=Bg.1 h;obtain⟨k,hk⟩:=res h2;exact⟨k,by rw[h0];simp only[Bm];rw[h1];exact hk⟩
   .exact⟨0,by rw[h0];exact h⟩
   .cases h
 |clo g flat c ar m=>
  have body:((c.ev J).bind fun q=>(E.evs J ar).bind fun vs=>match q with| .f f caps=>results flat m J (sem tab ext f vs.length (vs++caps))|_=>none)=some η'->∃k,((c.ev J).bind fun q=>(E.evs J ar).bind fun vs=>match q with| .f f caps=>results flat m J (K5 tab ext k f vs.length (vs++caps))|_=>none)=some η':=by
   intro hh;obtain⟨q,h0,hh⟩:=Bg.1 hh;obtain⟨vs,h1,hh⟩:=Bg.1 hh;cases q with
   |f f caps=>
    obtain⟨k,hk⟩:=res hh;exact⟨k,by rw[h0];simp only[Bm];rw[h1];exact hk⟩
   |_=>simp at hh
  simp only[W.ev] at h ⊢;unfold D2 at h ⊢;split at h
  .exact body h
  .obtain⟨v,h0,h⟩:=Bg.1 h;split at h
   .obtain⟨k,hk⟩:=body h;exact⟨k,by rw[h0];exact hk⟩
   .exact⟨0,by rw[h0];exact h⟩
   .cases h
 |mcall f ar=>
  simp only[W.ev] at h ⊢;obtain⟨vs,h1,h2⟩:=Bg.1 h;obtain⟨k,hk⟩:=res h2;exact⟨k,by rw[h1];exact hk⟩
def T.ev_cont (hE:Gq ext) {N:Nat}:∀{t:T} {J:List PV} {o:Out},t.ev (sem tab ext) N J=some o->∃k,t.ev (K5 tab ext k) N J=some o
 | .w x t,J,o,h=>by simp only[T.ev] at h ⊢;obtain⟨η',h1,h2⟩:=Bg.1 h;obtain⟨k1,g1⟩:=W.ev_cont hE h1;obtain⟨k2,g2⟩:=T.ev_cont hE h2;refine⟨max k1 k2,?_⟩;rw[W.ev_le (Gz hE (Ac5 k1 k2)) g1];exact T.ev_le (Gz hE (Yp k1 k2)) (B2 _) g2
 | .ite c t e,J,o,h=>by
   simp only[T.ev] at h ⊢;obtain⟨r,h1,h2⟩:=Bg.1 h;split at h2
   .obtain⟨k,g⟩:=T.ev_cont hE h2;exact⟨k,by rw[h1];exact g⟩
   .obtain⟨k,g⟩:=T.ev_cont hE h2;exact⟨k,by rw[h1];exact g⟩
   .cases h2
 | .ret es,J,o,h=>⟨0,h⟩
 | .yld id es,J,o,h=>⟨0,h⟩
 | .blk id body t,J,o,h=>by
   simp only[T.ev] at h ⊢;obtain⟨o1,h1,h2⟩:=Bg.1 h;obtain⟨k1,g1⟩:=T.ev_cont hE h1;split at h2
   .split at h2
    .rename_i hj;obtain⟨k2,g2⟩:=T.ev_cont hE h2;refine⟨max k1 k2,?_⟩;rw[T.ev_le (Gz hE (Ac5 k1 k2)) (B2 _) g1];simp only[Bm];rw[if_pos hj];exact T.ev_le (Gz hE (Yp k1 k2)) (B2 _) g2
    .rename_i hj;exact⟨k1,by rw[g1];simp only[Bm];rw[if_neg hj];exact h2⟩
   .exact⟨k1,by rw[g1];exact h2⟩
 | .loop id init body,J,o,h=>by
   simp only[T.ev] at h ⊢;obtain⟨st,h1,h2⟩:=Bg.1 h;have key:∀(n:Nat) (st:List PV),Fx (fun vs=>body.ev (sem tab ext) N (J++vs)) id n st=some o->∃k,Fx (fun vs=>body.ev (K5 tab ext k) N (J++vs)) id n st=some o:=by
    intro n
    induction n with
    |zero=>intro st h;simp[Fx] at h
    |succ n ih=>
     intro st h;simp only[Fx] at h ⊢;obtain⟨o1,h1,h2⟩:=Bg.1 h;obtain⟨k1,g1⟩:=T.ev_cont hE h1;split at h2
     .split at h2
      .rename_i hj;obtain⟨k2,g2⟩:=ih _ h2;refine⟨max k1 k2,?_⟩;rw[T.ev_le (Gz hE (Ac5 k1 k2)) (B2 _) g1];simp only[Bm];rw[if_pos hj];exact Kq (fun vs o ho=>T.ev_le (Gz hE (Yp k1 k2)) (B2 _) ho) (B2 _) g2
      .rename_i hj;exact⟨k1,by rw[g1];simp only[Bm];rw[if_neg hj];exact h2⟩
     .exact⟨k1,by rw[g1];exact h2⟩
   obtain⟨k,g⟩:=key N st h2;exact⟨k,by rw[h1];exact g⟩
def jt (hE:Gq ext) {f n N:Nat} {ft:FT} {args rs:List PV} (ht:tab f=some ft) (hn:ft.np=n) (hl:args.length=ft.np % TAG+ft.nf) (h:ft.t.ev (sem tab ext) N args=some (.ret rs)):sem tab ext f n args=some rs:=by obtain⟨k,hk⟩:=T.ev_cont hE h;refine(Mh hE).2 ⟨max k N+1,?_⟩;rw[K5];simp only[ht];rw[if_pos ⟨hn,hl⟩,T.ev_le (Gz hE (Ac5 k N)) (Yp k N) hk];rfl
end
inductive Sh where
 |b|i (k:IntKind)|s
 |l (e:Sh)
 |st (fs:List Sh)
 deriving Inhabited
mutual
def Sh.size:Sh->Nat
 | .st fs=>Sh.sizes fs
 |_=>1
def Sh.sizes:List Sh->Nat
 |[]=>0
 |f::fs=>f.size+Sh.sizes fs
end
def Sh.agg:Sh->Bool
 | .st _=>true
 |_=>false
mutual
def Sh.okC:Sh->List PV->Prop
 | .b,cs=>∃x,cs=[.b x]
 | .i k,cs=>∃n,cs=[.i k n]∧k.min<=n∧n<=k.max
 | .s,cs=>∃x,cs=[.s x]∧x.length<=maxLen
 | .l e,cs=>∃xs,cs=[.l e.size xs]∧xs.length<=maxLen∧∀x,x∈xs->if e.agg then∃ds,x= .a ds∧e.okC ds else x.scal=true∧e.okC [x]
 | .st fs,cs=>Sh.okCs fs cs
def Sh.okCs:List Sh->List PV->Prop
 |[],cs=>cs=[]
 |f::fs,cs=>∃a b,cs=a++b∧f.okC a∧Sh.okCs fs b
end
def Sh.ok (sh:Sh) (p:PV):Prop:=if sh.agg then∃ds,p= .a ds∧sh.okC ds else p.scal=true∧sh.okC [p]
mutual
def Sh.okC_len:∀(sh:Sh) (cs:List PV),sh.okC cs->cs.length=sh.size
 | .b,cs,h=>by simp only[Sh.okC] at h;obtain⟨x,rfl⟩:=h;rfl
 | .i k,cs,h=>by simp only[Sh.okC] at h;obtain⟨n,rfl,_⟩:=h;rfl
 | .s,cs,h=>by simp only[Sh.okC] at h;obtain⟨x,rfl,_⟩:=h;rfl
 | .l e,cs,h=>by simp only[Sh.okC] at h;obtain⟨x,rfl,_⟩:=h;rfl
 | .st fs,cs,h=>by simp only[Sh.okC] at h;simp only[Sh.size];exact Sh.okCs_len fs cs h
def Sh.okCs_len:∀(fs:List Sh) (cs:List PV),Sh.okCs fs cs->cs.length=Sh.sizes fs
 |[],cs,h=>by simp only[Sh.okCs] at h;subst h;rfl
 |f::fs,cs,h=>by simp only[Sh.okCs] at h;obtain⟨a,b,rfl,h1,h2⟩:=h;rw[Cv,Sh.okC_len f a h1,Sh.okCs_len fs b h2];rfl
end
def H6 (P:Program) (f:TypeId->Option Sh):List Field->Nat->Option (List Sh)
 |[],_=>some []
 |x::fs,off=>if x.offset=off then match f x.type with
  |some sh=>if P.cellsOf x.type=sh.size then(H6 P f fs (off+sh.size)).map (sh::·) else none
  |none=>none
  else none
def Vj (P:Program):Nat->TypeId->Option Sh
 |0,_=>none
 |d+1,t=>match P.underlying t with
  |some .bool=>some .b
  |some (.int k)=>some (.i k)
  |some .string=>some .s
  |some (.slice e)=>match Vj P d e with
   |some sh=>if P.cellsOf e=sh.size then some (.l sh) else none
   |none=>none
  |some (.struct fs)=>match H6 P (Vj P d) fs.toList 0 with
   |some shs=>if P.cellsOf t=Sh.sizes shs then some (.st shs) else none
   |none=>none
  |some (.array n e)=>match Vj P d e with
   |some sh=>if P.cellsOf e=sh.size then(if P.cellsOf t=n*sh.size then some (.st (List.replicate n sh)) else none) else none
   |none=>none
  |_=>none
def M3 {α β:Type} {f:α->Option β}:∀{l:List α} {ys:List β},l.mapM f=some ys->ys.length=l.length∧∀(i:Nat) (x:α) (y:β),l[i]? =some x->ys[i]? =some y->f x=some y
 |[],ys,h=>by simp at h;subst h;exact⟨rfl,fun i x y hx=>by simp at hx⟩
 |x::l,ys,h=>by
  simp only[F0,Jm,Bg,Np,Bh] at h;obtain⟨y,hy,r,hr,rfl⟩:=h;obtain⟨h1,h2⟩:=M3 hr;refine⟨by simp[h1],fun i a b ha hb=> ?_⟩;cases i with
  |zero=>simp at ha hb;subst ha;subst hb;exact hy
  |succ i=>exact h2 i a b (by simpa using ha) (by simpa using hb)
def I2 (agg:Bool) (cs:List PV):PV:=if agg then .a cs else cs.headD .u
abbrev Kp:Nat->Option Nat:=fun _=>none
def Pb (M:Vw) (pcs:List PV) (cs:List Value):Prop:=pcs.length=cs.length∧∀(j:Nat) (p:PV) (v:Value),pcs[j]? =some p->cs[j]? =some v->One v∧Rep M p v
def Pb.append {M:Vw} {p q:List PV} {c d:List Value} (h:Pb M p c) (h':Pb M q d):Pb M (p++q) (c++d):=by
 refine⟨by simp[h.1,h'.1],fun j x v hx hv=> ?_⟩;rw[List.getElem?_append] at hx hv;rw[h.1] at hx;split at hx
 .rename_i hj;rw[if_pos hj] at hv;exact h.2 j x v hx hv
 .rename_i hj;rw[if_neg hj] at hv;exact h'.2 _ x v hx hv
def Pb.one {M:Vw} {p:PV} {v:Value} (h1:One v) (h:Rep M p v):Pb M [p] [v]:=
 ⟨rfl,fun j q u hq hu=>by cases j with
  |zero=>simp at hq hu;subst hq;subst hu;exact⟨h1,h⟩
  |succ j=>simp at hq⟩
def M0 {e:Sh} (he:e.agg=false) {cs:List PV} (h:e.okC cs):∃p,cs=[p]∧p.scal=true:=by
 cases e with
 |b=>simp only[Sh.okC] at h;obtain⟨x,rfl⟩:=h;exact⟨_,rfl,rfl⟩
 |i k=>simp only[Sh.okC] at h;obtain⟨n,rfl,_⟩:=h;exact⟨_,rfl,rfl⟩
 |s=>simp only[Sh.okC] at h;obtain⟨n,rfl,_⟩:=h;exact⟨_,rfl,rfl⟩
 |l e=>simp only[Sh.okC] at h;obtain⟨n,rfl,_⟩:=h;exact⟨_,rfl,rfl⟩
 |st fs=>simp[Sh.agg] at he
def M1 {e:Sh} {cs:List PV} (h:e.okC cs):(I2 e.agg cs).cells=cs:=by
 cases he:e.agg with
 |true=>rfl
 |false=>
  obtain⟨p,rfl,hp⟩:=M0 he h;exact PV.scal_cells hp
def cells?_get {w:World} {base:Nat} {a:Addr} {n:Nat} {cs:List Value} (h:w.cells? base a n=some cs):cs.length=n∧∀j v,cs[j]? =some v->w.cell? (a.add j)=some v:=by
 unfold World.cells? at h;split at h
 .obtain⟨h1,h2⟩:=M3 h;simp only[Q6] at h1;refine⟨h1,fun j v hv=> ?_⟩;have hj:j<n:=by rw[<-h1];exact(Bs.1 hv).1
  exact h2 j j v (Cm hj) hv
 .cases h
def Md {H:Type} {enc:TypeId×Value->H} {P:Program} {w:World} {base:Nat} {spare:Nat->Bool} {held:Bool}:∀(fuel d:Nat) (t:TypeId) (sh:Sh) (cs:List Value) (x:DataW H×List MemPlace),Vj P d t=some sh->DataW.trod enc P w base spare held fuel t cs=some x->
  ∃pcs,sh.okC pcs∧Pb (Ck w Kp) pcs cs
 |0,d,t,sh,cs,x,hs,h=>by simp[DataW.trod] at h
 |fuel+1,0,t,sh,cs,x,hs,h=>by simp[Vj] at hs
 |fuel+1,d+1,t,sh,cs,x,hs,h=>by
  simp only[Vj] at hs;split at hs
  .rename_i hu;injection hs with hs;subst hs;simp only[DataW.trod,hu] at h;split at h<;>first|(rename_i heq;simp at heq;done)|(cases h;done)|skip
   exact⟨_,⟨_,rfl⟩,Pb.one rfl (.b _)⟩
  .rename_i k hu;injection hs with hs;subst hs;simp only[DataW.trod,hu] at h;split at h<;>first|(rename_i heq;simp at heq;done)|(cases h;done)|skip
   rename_i k1 k2 n heq;injection heq with heq;injection heq with heq;subst heq;split at h
   .rename_i hc;obtain⟨rfl,hwf⟩:=hc;simp only[Lit.wf,Bp,decide_eq_true_eq] at hwf;exact⟨_,⟨_,rfl,hwf⟩,Pb.one rfl (.i _ _)⟩
   .cases h
  .rename_i hu;injection hs with hs;subst hs;simp only[DataW.trod,hu] at h;split at h<;>first|(rename_i heq;simp at heq;done)|(cases h;done)|skip
   rename_i s heq;split at h
   .rename_i hc;refine⟨_,⟨s.data.toList,rfl,?_⟩,Pb.one rfl (.s _ _ rfl)⟩;rw[Cb];exact hc
   .cases h
  ·-- a slice
   rename_i e hu;split at hs
   .rename_i she hse;split at hs
    .rename_i hsz;injection hs with hs;subst hs;simp only[DataW.trod,hu] at h;split at h<;>first|(rename_i heq;simp at heq;done)|(cases h;done)|skip
     .exact⟨_,⟨[],rfl,Ej _,fun x hx=>by simp at hx⟩,Pb.one rfl (Rep.lnil _ _ _ _)⟩
     .rename_i e' a len cap heq;injection heq with heq;injection heq with heq;subst heq;split at h
      .rename_i hc;obtain⟨elems,hel,_⟩:=Bg.1 h;obtain⟨hl,hget⟩:=M3 hel;simp only[Q6] at hl;have each:∀i,i<len->∃ecs pcs,w.cells? base (a.add (i*P.cellsOf e)) (P.cellsOf e)=some ecs∧she.okC pcs∧Pb (Ck w Kp) pcs ecs:=by intro i hi;have hx:elems[i]? =some (elems[i]'(by omega)):=B1 (by omega);have:=hget i i _ (Cm hi) hx;obtain⟨ecs,h1,h2⟩:=Bg.1 this;obtain⟨pcs,h3,h4⟩:=Md fuel d e she ecs _ hse h2;exact⟨ecs,pcs,h1,h3,h4⟩
       have pick:∃f:Nat->List PV×List Value,∀i,i<len->w.cells? base (a.add (i*P.cellsOf e)) (P.cellsOf e)=some (f i).2∧she.okC (f i).1∧Pb (Ck w Kp) (f i).1 (f i).2:=by
        have:∀i,∃y:List PV×List Value,i<len->w.cells? base (a.add (i*P.cellsOf e)) (P.cellsOf e)=some y.2∧she.okC y.1∧Pb (Ck w Kp) y.1 y.2:=by
         intro i;by_cases hi:i<len
         .obtain⟨ecs,pcs,h1,h2,h3⟩:=each i hi;exact⟨(pcs,ecs),fun _=>⟨h1,h2,h3⟩⟩
         .exact⟨default,fun h=>absurd h hi⟩
        exact⟨fun i=>(this i).choose,fun i hi=>(this i).choose_spec hi⟩
       obtain⟨f,hf⟩:=pick;have hsz':P.cellsOf e=she.size:=hsz;have hxs:∀(i:Nat) (x:PV),((List.range len).map fun i=>I2 she.agg (f i).1)[i]? =some x->i<len∧x=I2 she.agg (f i).1∧x.cells=(f i).1:=by
        intro i x hx;simp only[Cd,Bl] at hx;obtain⟨k,hk,rfl⟩:=hx;have hi:i<len:=by have:=(Bs.1 hk).1;simpa using this
        rw[Cm hi] at hk;injection hk with hk;subst hk;exact⟨hi,rfl,M1 (hf i hi).2.1⟩
       have hlen:((List.range len).map fun i=>I2 she.agg (f i).1).length=len:=by simp
       refine⟨[.l she.size ((List.range len).map fun i=>I2 she.agg (f i).1)],⟨_,rfl,by rw[hlen];omega,fun x hx=> ?_⟩,Pb.one rfl ?_⟩
       .obtain⟨i,hi⟩:=H0 hx;obtain⟨h1,h2,h3⟩:=hxs i x hi;cases he:she.agg with
        |true=>
         simp only[if_true];exact⟨(f i).1,by rw[h2,he];rfl,(hf i h1).2.1⟩
        |false=>
         simp only[Br,if_false];obtain⟨p,hp,hps⟩:=M0 he (hf i h1).2.1;have:x=p:=by rw[h2,he,hp];rfl
         subst this;exact⟨hps,by rw[<-hp];exact(hf i h1).2.1⟩
       .have:=Rep.l (M:=Ck w Kp) she.size ((List.range len).map fun i=>I2 she.agg (f i).1) (some a) cap a (fun i j=>(f i).2.getD j undef) (by rw[hlen];exact hc.2.1) (fun _=>rfl)
         (fun i x hx=>by obtain⟨h1,h2,h3⟩:=hxs i x hx;rw[h3];exact Sh.okC_len _ _ (hf i h1).2.1) ?_ ?_ ?_
        .rw[hlen] at this;exact this
        all_goals
         intro i x j c hx hcj;obtain⟨h1,h2,h3⟩:=hxs i x hx;obtain⟨g1,g2,g3⟩:=hf i h1;rw[h3] at hcj;obtain⟨c1,c2⟩:=cells?_get g1;have hj:j<(f i).2.length:=by rw[<-g3.1];exact(Bs.1 hcj).1
         have hv:(f i).2[j]? =some ((f i).2[j]):=B1 hj;have hd:(f i).2.getD j undef=(f i).2[j]:=by rw[Cw,hv];rfl
        .rw[hd];refine Df ?_ (fun lim hl=>by cases hl);rw[<-hsz',<-Addr.add_add];exact c2 j _ hv
        .rw[hd];exact(g3.2 j c _ hcj hv).1
        .rw[hd];exact(g3.2 j c _ hcj hv).2
      .cases h
    .cases hs
   .cases hs
  ·-- a struct
   rename_i fs hu;split at hs
   .rename_i shs hshs;split at hs
    .rename_i hsz;injection hs with hs;subst hs;have h':∃ys,cs.length=P.cellsOf t∧(fs.toList.mapM fun f=>DataW.trod enc P w base spare held fuel f.type ((cs.drop f.offset).take (P.cellsOf f.type)))=some ys:=by
      simp only[DataW.trod,hu] at h;by_cases hl:cs.length=P.cellsOf t
      .rw[if_pos hl] at h;obtain⟨ys,hy,_⟩:=Bl.1 h;exact⟨ys,hl,hy⟩
      .rw[if_neg hl] at h;cases h
     obtain⟨ys,hlen,hys⟩:=h';have go:∀(l:List Field) (off:Nat) (shs:List Sh) (ys:List (DataW H×List MemPlace)),H6 P (Vj P d) l off=some shs->(l.mapM fun f=>DataW.trod enc P w base spare held fuel f.type ((cs.drop f.offset).take (P.cellsOf f.type)))=some ys->cs.length=off+Sh.sizes shs->
       ∃pcs,Sh.okCs shs pcs∧Pb (Ck w Kp) pcs (cs.drop off):=by
      intro l
      induction l with
      |nil=>
       intro off shs ys h1 h2 h3;simp only[H6,Bh] at h1;subst h1;refine⟨[],rfl,?_⟩;have:cs.drop off=[]:=List.drop_eq_nil_of_le (by simp only[Sh.sizes] at h3;omega);rw[this];exact⟨rfl,fun j p v hp=>by simp at hp⟩
      |cons fl l ih=>
       intro off shs ys h1 h2 h3;simp only[H6] at h1;split at h1
       .rename_i hoff;subst hoff;split at h1
        .rename_i sh hsh;split at h1
         .rename_i hsize;obtain⟨rest,hrest,rfl⟩:=Bl.1 h1;simp only[F0,Jm,Bg,Np,Bh] at h2;obtain⟨y,hy,r,hr,rfl⟩:=h2;obtain⟨pcs,p1,p2⟩:=Md fuel d fl.type sh _ _ hsh hy;simp only[Sh.sizes] at h3;obtain⟨qcs,q1,q2⟩:=ih (fl.offset+sh.size) rest r hrest hr (by omega);refine⟨pcs++qcs,⟨pcs,qcs,rfl,p1,q1⟩,?_⟩;have e:cs.drop fl.offset=(cs.drop fl.offset).take (P.cellsOf fl.type)++cs.drop (fl.offset+sh.size):=by rw[hsize,<-List.drop_drop,List.take_append_drop]
          rw[e];exact p2.append q2
         .cases h1
        .cases h1
       .cases h1
     obtain⟨pcs,p1,p2⟩:=go fs.toList 0 shs ys hshs hys (by omega);exact⟨pcs,p1,by simpa using p2⟩
    .cases hs
   .cases hs
  ·-- an array
   rename_i n e hu;split at hs
   .rename_i sh hse;split at hs
    .rename_i hsz;split at hs
     .rename_i hsz2;injection hs with hs;subst hs;have h':∃ys,cs.length=P.cellsOf t∧((List.range n).mapM fun i=>DataW.trod enc P w base spare held fuel e ((cs.drop (i*P.cellsOf e)).take (P.cellsOf e)))=some ys:=by
       simp only[DataW.trod,hu] at h;by_cases hl:cs.length=P.cellsOf t
       .rw[if_pos hl] at h;obtain⟨ys,hy,_⟩:=Bl.1 h;exact⟨ys,hl,hy⟩
       .rw[if_neg hl] at h;cases h
      obtain⟨ys,hlen,hys⟩:=h';have go:∀(m off:Nat) (ys:List (DataW H×List MemPlace)),((List.range' off m).mapM fun i=>DataW.trod enc P w base spare held fuel e ((cs.drop (i*P.cellsOf e)).take (P.cellsOf e)))=some ys->cs.length=off*sh.size+m*sh.size->
        ∃pcs,Sh.okCs (List.replicate m sh) pcs∧Pb (Ck w Kp) pcs (cs.drop (off*sh.size)):=by
       intro m
       induction m with
       |zero=>
        intro off ys h2 h3;refine⟨[],rfl,?_⟩;have:cs.drop (off*sh.size)=[]:=List.drop_eq_nil_of_le (by omega);rw[this];exact⟨rfl,fun j p v hp=>by simp at hp⟩
       |succ m ih=>
        intro off ys h2 h3;simp only[List.range'_succ,F0,Jm,Bg,Np,Bh] at h2;obtain⟨y,hy,r,hr,rfl⟩:=h2;obtain⟨pcs,p1,p2⟩:=Md fuel d e sh _ _ hse hy;have e1:(off+1)*sh.size=off*sh.size+sh.size:=by rw[Ch,Ek]
        have e2:(m+1)*sh.size=m*sh.size+sh.size:=by rw[Ch,Ek]
        obtain⟨qcs,q1,q2⟩:=ih (off+1) r hr (by omega);refine⟨pcs++qcs,⟨pcs,qcs,rfl,p1,q1⟩,?_⟩;rw[hsz] at p2;have e3:cs.drop (off*sh.size)=(cs.drop (off*sh.size)).take sh.size++cs.drop ((off+1)*sh.size):=by rw[e1,<-List.drop_drop,List.take_append_drop]
        rw[e3];exact p2.append q2
      rw[List.range_eq_range'] at hys;obtain⟨pcs,p1,p2⟩:=go n 0 ys hys (by omega);refine⟨pcs,?_,by simpa using p2⟩;simpa only[Sh.okC] using p1
     .cases hs
    .cases hs
   .cases hs
  .cases hs
open Go Go.RowKit Go.ChangeShapes Go.WideShapes
section
variable {H:Type} {enc:TypeId×Value->H} {P:Program} {sig:Nat->Option Nat} {tab:Nat->Option FT} {ext:Fns->Fns}
def Vk (hM:Gq ext) (hT:Tab P sig tab) (hE:∀fn,Contract P sig fn->Contract P sig (ext fn)) {f n:Nat} {ft:FT} {vs rs:List PV} (hf:tab f=some ft) (hmu:Lp (sig f)=none) (hfa:Pj (sig f)=none) (h:sem tab ext f n vs=some rs) {w:World} {O:Nat->Option Nat} {args:Array Value} (hg:Given w O n vs args):
  Calls P f args w fun e w'=>∃v,e= .returned v∧dm P (sig f) w O rs v w':=by
 obtain⟨k,hk⟩:=(Mh hM).1 h;cases k with
 |zero=>simp[K5] at hk
 |succ k=>
  rw[K5] at hk;simp only[hf] at hk;split at hk
  .rename_i hc;obtain⟨o,ho,hk⟩:=Bg.1 hk;split at hk
   .injection hk with hk;subst hk;obtain⟨func,Hn,hfn,hn,hp,hlt,hnf,t0,hx,hs⟩:=hT.1 f ft hf;rw[<-hs,E4] at ho;unfold Uq at hp;rw[hmu,hfa] at hp;simp only[Af1,Bool.or_self,Br,if_false,Dd] at hp;exact Pn (Vz hT hE k) hmu hfn hx ho (by rw[hc.2,<-hp,D6 hlt,hnf]) (by rw[hp,hc.1];exact hg) (fun e he=>by rw[hfa] at he;cases he)
   .cases hk
  .cases hk
def Oks:List Sh->List PV->Prop
 |[],[]=>True
 |sh::ss,p::ps=>sh.ok p∧Oks ss ps
 |_,_=>False
def Oks.len:∀{ss:List Sh} {ps:List PV},Oks ss ps->ps.length=ss.length
 |[],[],_=>rfl
 |_::_,_::_,h=>by simp[Oks.len h.2]
 |[],_::_,h=>h.elim
 |_::_,[],h=>h.elim
def Ow (P:Program) (ts:List TypeId):Option (List Sh):=ts.mapM (Vj P 30)
def Zm {w:World} {base b0:Nat} {spare:Nat->Bool} {held:Bool} {t:TypeId} {v:Value} {d:DataW H} {ps:List MemPlace} {sh:Sh} {n:Nat} (hs:Vj P n t=some sh) (hok:Value.okWide P w .any base t v) (h:DataW.Trod enc P w b0 spare held t v d ps):
  ∃p,sh.ok p∧Rep (Ck w Kp) p v:=by
 obtain⟨fuel,hf⟩:=h;obtain⟨pcs,h1,h2⟩:=Md fuel n t sh _ _ hs hf;have single:sh.agg=false->v.cells= #[v]->∃p,sh.ok p∧Rep (Ck w Kp) p v:=by intro ha hv;obtain⟨p,rfl,hp⟩:=M0 ha h1;rw[hv] at h2;refine⟨p,?_,(h2.2 0 p v rfl rfl).2⟩;unfold Sh.ok;rw[ha];simp only[Br,if_false];exact⟨hp,h1⟩
 cases n with
 |zero=>simp[Vj] at hs
 |succ n=>
  simp only[Vj] at hs;split at hs
  .rename_i hu;injection hs with hs;subst hs;obtain⟨b,rfl⟩:=okWide_bool hu hok;exact single rfl rfl
  .rename_i k hu;injection hs with hs;subst hs;obtain⟨b,rfl⟩:=okWide_int hu hok;exact single rfl rfl
  .rename_i hu;injection hs with hs;subst hs;obtain⟨b,rfl⟩:=okWide_string hu hok;exact single rfl rfl
  .rename_i e hu;split at hs
   .split at hs
    .injection hs with hs;subst hs;obtain⟨a,l,c,rfl⟩:=okWide_slice hu hok;exact single rfl rfl
    .cases hs
   .cases hs
  .rename_i fs hu;split at hs
   .split at hs
    .injection hs with hs;subst hs;simp only[Value.okWide,hu] at hok;obtain⟨cs,rfl,_,_⟩:=hok;refine⟨.a pcs,?_,?_⟩
     .unfold Sh.ok;simp only[Sh.agg,if_true];exact⟨pcs,rfl,h1⟩
     .have hl:pcs.length=cs.toList.length:=h2.1;refine Rep.a pcs cs (by rw[hl,Cb]) (fun u hu=> ?_) (fun j c u hc hu=>(h2.2 j c u hc (by show cs.toList[j]? =some u;rw[Bt];exact hu)).2);obtain⟨j,hj⟩:=H0 hu;have hj1:=(Bs.1 hj).1;exact(h2.2 j _ u (B1 (by omega)) hj).1
    .cases hs
   .cases hs
  .rename_i n e hu;split at hs
   .split at hs
    .split at hs
     .injection hs with hs;subst hs;simp only[Value.okWide,hu] at hok;obtain⟨cs,rfl,_,_⟩:=hok;refine⟨.a pcs,?_,?_⟩
      .unfold Sh.ok;simp only[Sh.agg,if_true];exact⟨pcs,rfl,h1⟩
      .have hl:pcs.length=cs.toList.length:=h2.1;refine Rep.a pcs cs (by rw[hl,Cb]) (fun u hu=> ?_) (fun j c u hc hu=>(h2.2 j c u hc (by show cs.toList[j]? =some u;rw[Bt];exact hu)).2);obtain⟨j,hj⟩:=H0 hu;have hj1:=(Bs.1 hj).1;exact(h2.2 j _ u (B1 (by omega)) hj).1
     .cases hs
    .cases hs
   .cases hs
  .cases hs
def Rf {w:World} {base b0:Nat} {spare:Nat->Bool} {held:Bool}:∀{ts:List TypeId} {shs:List Sh} {vs:List Value} {ds:List (DataW H)} {ps:List MemPlace},Ow P ts=some shs->(∀(j:Nat) t v,ts[j]? =some t->vs[j]? =some v->Value.okWide P w .any base t v)->
  DataW.TrodAll enc P w b0 spare held ts vs ds ps->∃qs,Oks shs qs∧qs.length=vs.length∧∀(j:Nat) (p:PV) (v:Value),qs[j]? =some p->vs[j]? =some v->Rep (Ck w Kp) p v
 |[],shs,vs,ds,ps,hs,hok,h=>by simp only[Ow,List.mapM_nil,Np,Bh] at hs;subst hs;obtain⟨rfl,rfl,rfl⟩:=trodAll_nil h;exact⟨[],trivial,rfl,fun j p v hp=>by simp at hp⟩
 |t::ts,shs,vs,ds,ps,hs,hok,h=>by
  simp only[Ow,F0,Jm,Bg,Np,Bh] at hs;obtain⟨sh,hsh,rest,hrest,rfl⟩:=hs;obtain⟨v,vs',d,ds',p,q,rfl,rfl,rfl,h1,h2⟩:=trodAll_cons h;obtain⟨x,x1,x2⟩:=Zm hsh (hok 0 t v rfl rfl) h1;obtain⟨qs,q1,q2,q3⟩:=Rf hrest (fun j t' v' ht hv=>hok (j+1) t' v' (by simpa using ht) (by simpa using hv)) h2;refine⟨x::qs,⟨x1,q1⟩,by simp[q2],fun j p' v' hp hv=> ?_⟩;cases j with
  |zero=>simp at hp hv;subst hp;subst hv;exact x2
  |succ j=>exact q3 j p' v' (by simpa using hp) (by simpa using hv)
def Sy (hl:laidOutB P=true) {W W':World} (hb:Below W.heap.size W W'):∀{ts:List TypeId} {vs:List Value} {ds:List (DataW H)} {ps:List MemPlace},(ts.all fun t=>P.readableRec t && decide (t<P.types.size))=true->DataW.TrodAll enc P W 0 (fun _=>true) true ts vs ds ps->
  DataW.TrodAll enc P W' 0 (fun b=>decide (b<W.heap.size)) true ts vs ds ps
 |[],vs,ds,ps,_,h=>by obtain⟨rfl,rfl,rfl⟩:=trodAll_nil h;exact trodAll_mk0
 |t::ts,vs,ds,ps,hr,h=>by simp only[List.all_cons,Bp,decide_eq_true_eq] at hr;obtain⟨v,vs',d,ds',p,q,rfl,rfl,rfl,h1,h2⟩:=trodAll_cons h;refine trodAll_cons_mk (Below.trod hl hr.1.1 hr.1.2 h1 hb ?_) (Sy hl hb (by simpa using hr.2) h2);obtain⟨m,hm⟩:=h1;exact DataW.trod_lt m _ _ _ hm
def law_calls (hM:Gq ext) (hT:Tab P sig tab) (hE:∀fn,Contract P sig fn->Contract P sig (ext fn)) {f:Nat} {ft:FT} (hf:tab f=some ft) (hsig:sig f=none) {ts:List TypeId} {shs:List Sh} (hs:Ow P ts=some shs)
  (law:∀qs,Oks shs qs->sem tab ext f shs.length qs=some [.b true]) {W:World} {base b0:Nat} {spare:Nat->Bool} {held:Bool} {args:Array Value} {ds:List (DataW H)} {ps:List MemPlace}
  (hok:∀(j:Nat) t v,ts[j]? =some t->args[j]? =some v->Value.okWide P W .any base t v) (h:DataW.TrodAll enc P W b0 spare held ts args.toList ds ps):
  Calls P f args W fun e W'=>e= .returned (.bool true)∧Below W.heap.size W W':=by
 obtain⟨qs,q1,q2,q3⟩:=Rf hs (fun j t v ht hv=>hok j t v ht (by simpa using hv)) h;have hlen:=q1.len;refine(Vk hM hT hE hf (by rw[hsig];rfl) (by rw[hsig];rfl) (law qs q1) (O:=Kp) ⟨fun _ _=>rfl,by rw[q2,Cb],fun j p v _ hp hv=>q3 j p v hp (by simpa using hv),fun j p v hj hp _=> ?_⟩).mono fun e w' ⟨v,he,hb⟩=> ?_
 .have:=(Bs.1 hp).1;omega
 .subst he;rw[hsig] at hb;obtain⟨hbel,O',_,_,hres⟩:=hb;have hr:Rep (Ck w' O') (.b true) v:=hres;exact⟨by rw[hr.bool],hbel.to⟩
end
open Go Go.RowKit
inductive XK where
 |countS|indexS|cmpS
 deriving DecidableEq
def XK.entry:XK->Array Value->Sem Value
 | .countS=>Extern.BytealgCount.count
 | .indexS=>Extern.BytealgIndexByte.indexByte
 | .cmpS=>Extern.BytealgCompare.compare
def Zd (f:List UInt8->UInt8->Int):List PV->Option (List PV)
 |[.s x,.i .u8 c]=>some [.i .i64 (f x c.toNat.toUInt8)]
 |_=>none
def j7 (f:List UInt8->List UInt8->Int):List PV->Option (List PV)
 |[.s x,.s y]=>some [.i .i64 (f x y)]
 |_=>none
def XK.run:XK->List PV->Option (List PV)
 | .countS=>Zd fun x c=>(Lib.countByte x c:Int)
 | .indexS=>Zd Lib.indexByte
 | .cmpS=>j7 Lib.compareBytes
def Hv {f:List UInt8->UInt8->Int} {vs rs:List PV} (h:Zd f vs=some rs):∃x c,vs=[.s x,.i .u8 c]∧rs=[.i .i64 (f x c.toNat.toUInt8)]:=by
 unfold Zd at h;split at h
 .rename_i x c;injection h with h;exact⟨x,c,rfl,h.symm⟩
 .cases h
def Ld {f:List UInt8->List UInt8->Int} {vs rs:List PV} (h:j7 f vs=some rs):∃x y,vs=[.s x,.s y]∧rs=[.i .i64 (f x y)]:=by
 unfold j7 at h;split at h
 .rename_i x c;injection h with h;exact⟨x,c,rfl,h.symm⟩
 .cases h
def lkX:List (Nat×XK)->Nat->Option XK
 |[],_=>none
 |(k,t)::r,f=>if k=f then some t else lkX r f
def T1 (xs:List (Nat×XK)):Fns->Fns:=fun _ f n args=>match lkX xs f with
 |some k=>if n=args.length then k.run args else none
 |none=>none
def Tt (xs:List (Nat×XK)):Gq (T1 xs):=fun _ _ _ _ _ _ _ h=>h
def XOK (P : Program) (f : Nat) (k : XK) : Prop := ∃ func, P.funcs[f]? = some func ∧ (func.name == "runtime.NumGoroutine") = false ∧ func.body.isNone = true ∧ Extern.findNext func = none ∧ Extern.find func = some k.entry
def Ad8 (P:Program):List (Nat×XK)->Prop
 |[]=>True
 |p::r=>XOK P p.1 p.2∧Ad8 P r
def ig {P:Program}:∀{xs:List (Nat×XK)} {f:Nat} {k:XK},Ad8 P xs->lkX xs f=some k->XOK P f k
 |[],_,_,_,h=>by simp[lkX] at h
 |(j,t)::r,f,k,hx,h=>by
  simp only[lkX] at h;split at h
  .rename_i e;injection h with h;subst h;subst e;exact hx.1
  .exact ig hx.2 h
def It {w:World} {O:Nat->Option Nat} {n:Nat} {vs:List PV} {args:Array Value} (hg:Given w O n vs args) (hn:n=vs.length) {j:Nat} {p:PV} (hp:vs[j]? =some p):∃v,args[j]? =some v∧Rep (Ck w O) p v:=by have hj:=(Bs.1 hp).1;have hs:=hg.size;obtain⟨v,hv⟩:∃v,args[j]? =some v:=⟨args[j]'(by omega),Dk (by omega)⟩;exact⟨v,hv,hg.val j p v (by omega) hp hv⟩
def Mc {args:Array Value} {a b:Value} (hs:args.size=2) (ha:args[0]? =some a) (hb:args[1]? =some b):args= #[a,b]:=by
 obtain⟨l⟩:=args
 match l,hs with
 |[x,y],_=>simp at ha hb;simp[ha,hb]
def R9 {sig:Nat->Option Nat}:∀{xs:List (Nat×XK)},(xs.all fun p=>(sig p.1).isNone)=true->∀f k,lkX xs f=some k->sig f=none
 |[],_,f,k,h=>by simp[lkX] at h
 |(j,t)::r,h,f,k,hk=>by
  simp only[List.all_cons,Bp,Cl] at h;simp only[lkX] at hk;split at hk
  .rename_i e;subst e;exact h.1
  .exact R9 h.2 f k hk
def XK.run_len {k:XK} {vs rs:List PV} (h:k.run vs=some rs):vs.length=2:=by
 cases k with
 |countS=>obtain⟨x,c,rfl,_⟩:=Hv (by simpa only[XK.run] using h);rfl
 |indexS=>obtain⟨x,c,rfl,_⟩:=Hv (by simpa only[XK.run] using h);rfl
 |cmpS=>obtain⟨x,c,rfl,_⟩:=Ld h;rfl
def bg {P:Program} {sig:Nat->Option Nat} {xs:List (Nat×XK)} (hx:Ad8 P xs) (hsig:∀f k,lkX xs f=some k->sig f=none) (fn:Fns) (hC:Contract P sig fn):Contract P sig (T1 xs fn):=by
 refine⟨fun f n vs rs h=> ?_,hC.bld⟩
 .simp only[T1] at h;split at h
  .rename_i k hk;split at h
   .rename_i hn;refine⟨fun _ w O args hg=> ?_,fun hT=>by rw[hn,XK.run_len h] at hT;simp[TAG] at hT⟩;obtain⟨func,h1,h2,h3,h4,h5⟩:=ig hx hk;have hrun:=fun a=>run_callFunc_extern h1 h2 h3 h4 h5 a w;have fin:∀(z:Int) (a:Array Value),args=a->(k.entry a).run P w= .ok (.int .i64 z) w->E2 P f args w (dm P (sig f) w O [.i .i64 z]):=by
     intro z a ha hr;subst ha;refine .inl ⟨.int .i64 z,w,?_,Blw.refl _ _,O,fun _ _=>rfl,hg.out,?_⟩
     .rw[hrun,hr];rfl
     .rw[hsig f k hk];exact Rep.i .i64 z
    cases k with
    |countS=>
     obtain⟨x,c,rfl,rfl⟩:=Hv (by simpa only[XK.run] using h);obtain⟨a,ha,ra⟩:=It hg hn (j:=0) rfl;obtain⟨b,hb,rb⟩:=It hg hn (j:=1) rfl;have e:=Mc (by rw[hg.size];rfl) ha hb;obtain⟨s,rfl,rfl⟩:=ra.str;have:=rb.int;subst this;exact fin _ _ e (Lib.run_countString s c w)
    |indexS=>
     obtain⟨x,c,rfl,rfl⟩:=Hv (by simpa only[XK.run] using h);obtain⟨a,ha,ra⟩:=It hg hn (j:=0) rfl;obtain⟨b,hb,rb⟩:=It hg hn (j:=1) rfl;have e:=Mc (by rw[hg.size];rfl) ha hb;obtain⟨s,rfl,rfl⟩:=ra.str;have:=rb.int;subst this;exact fin _ _ e (Lib.run_indexByteString s c w)
    |cmpS=>
     obtain⟨x,y,rfl,rfl⟩:=Ld h;obtain⟨a,ha,ra⟩:=It hg hn (j:=0) rfl;obtain⟨b,hb,rb⟩:=It hg hn (j:=1) rfl;have e:=Mc (by rw[hg.size];rfl) ha hb;obtain⟨s,rfl,rfl⟩:=ra.str;obtain⟨t,rfl,rfl⟩:=rb.str;exact fin _ _ e (Lib.run_compareString s t w)
   .cases h
  .cases h
open Go
def Dv (j:Nat) (p:PV):Option PV:=p.cells[j]?
def N6 (off n:Nat) (p:PV):Option PV:=if off+n<=p.cells.length then some (.a ((p.cells.drop off).take n)) else none
def Ts (n:Nat):PV->Option PV
 | .a cs=>if cs.length=n then some (.a cs) else none
 |_=>none
def Kj (p:PV):Option PV:=if p.scal then some p else none
def brE (J:List PV) (x y:E):PV->Option PV
 | .b true=>x.ev J
 | .b false=>y.ev J
 |_=>none
def brT (fn:Fns) (N:Nat) (t e:T) (J:List PV):PV->Option Out
 | .b true=>t.ev fn N J
 | .b false=>e.ev fn N J
 |_=>none
def goT (fn:Fns) (N:Nat) (k:T) (J:List PV):Option Out:=k.ev fn N J
def aft (fn:Fns) (N:Nat) (id:Nat) (k:T) (J:List PV):Out->Option Out
 | .yld j vs=>if j=id then k.ev fn N (J++vs) else some (.yld j vs)
 | .ret vs=>some (.ret vs)
def cj (fn:Fns) (J:List PV) (fl:Bool) (f:Nat) (ar:List E) (m:Nat):PV->Option (List PV)
 | .b true=>(E.evs J ar).bind fun vs=>results fl m J (fn f vs.length vs)
 | .b false=>some (J++List.replicate m .u)
 |_=>none
section
variable {J:List PV}
def At6 (n:Nat):(E.v n).ev J=J[n]? :=by simp only[E.ev]
def At7 (x:PV):(E.c x).ev J=some x:=by simp only[E.ev]
def Ax8 (op:BinOp) (x y:E):(E.bin op x y).ev J=(x.ev J).bind fun p=>(y.ev J).bind fun q=>X.bin op p q:=by simp only[E.ev]
def Ap8 (op:UnOp) (x:E):(E.un op x).ev J=(x.ev J).bind (X.un op):=by simp only[E.ev]
def Ax3 (g x y:E):(E.ite g x y).ev J=(g.ev J).bind (brE J x y):=by simp only[E.ev];rfl
def ot (j:Nat) (x:E):(E.proj j x).ev J=(x.ev J).bind (Dv j):=by simp only[E.ev];rfl
def Aw6 (o n:Nat) (x:E):(E.sub o n x).ev J=(x.ev J).bind (N6 o n):=by simp only[E.ev];rfl
def Ay1 (xs:List E):(E.agg xs).ev J=(E.evs J xs).map .a:=by simp only[E.ev]
def Ax5 (n:Nat) (x:E):(E.fit n x).ev J=(x.ev J).bind (Ts n):=by simp only[E.ev];congr 1;funext p;cases p<;>rfl
def om (x:E):(E.scal x).ev J=(x.ev J).bind Kj:=by simp only[E.ev];rfl
def Ax4 (sz:Nat) (x i:E):(E.idx sz x i).ev J=(x.ev J).bind fun p=>(i.ev J).bind fun q=>Kn sz p q:=by simp only[E.ev]
def ev_len (x:E):(E.len x).ev J=(x.ev J).bind F2:=by simp only[E.ev]
def oh (x:E):(E.slen x).ev J=(x.ev J).bind Jk:=by simp only[E.ev]
def ol (x i:E):(E.sidx x i).ev J=(x.ev J).bind fun p=>(i.ev J).bind fun q=>J9 p q:=by simp only[E.ev]
def Aw7 (x lo hi:E):(E.ssl x lo hi).ev J=(x.ev J).bind fun p=>(lo.ev J).bind fun q=>(hi.ev J).bind fun r=>U6 p q r:=by simp only[E.ev]
def Ax1 (sz:Nat) (x lo hi:E):(E.lsl sz x lo hi).ev J=(x.ev J).bind fun p=>(lo.ev J).bind fun q=>(hi.ev J).bind fun r=>Jg sz p q r:=by simp only[E.ev]
def Ay0 (sz:Nat) (x y:E):(E.app sz x y).ev J=(x.ev J).bind fun p=>(y.ev J).bind fun q=>Hg sz p q:=by simp only[E.ev]
def Ax2 (sz:Nat) (xs:List E):(E.lit sz xs).ev J=(E.evs J xs).bind (I4 sz):=by simp only[E.ev]
def Ax0 (sz:Nat) (n z:E):(E.rep sz n z).ev J=(n.ev J).bind fun p=>(z.ev J).bind fun q=>Oy sz p q:=by simp only[E.ev]
def Aw8 (sz:Nat) (x i:E) (o:Nat) (vs:List E):(E.set sz x i o vs).ev J=(x.ev J).bind fun p=>(i.ev J).bind fun q=>(E.evs J vs).bind fun r=>P3 sz o r p q:=by simp only[E.ev]
def o3 (k:IntKind) (x:E):(E.conv k x).ev J=(x.ev J).bind (Sv k):=by simp only[E.ev]
def Ax9 (x:E):(E.b2s x).ev J=(x.ev J).bind Q2:=by simp only[E.ev]
def Aw9 (x:E):(E.s2b x).ev J=(x.ev J).bind Sm:=by simp only[E.ev]
def Ax6 (n g:Bool) (ts:List Sc) (x y:E):(E.eqs n g ts x y).ev J=(x.ev J).bind fun p=>(y.ev J).bind fun q=>I6 n g ts p q:=by simp only[E.ev]
def Ax7 (g:Nat) (xs:List E):(E.clo g xs).ev J=(E.evs J xs).map (.f g):=by simp only[E.ev]
def Ar0 (x y:E):(E.mn x y).ev J=(x.ev J).bind fun p=>(y.ev J).bind fun q=>lf p q:=by simp only[E.ev]
def Ap9 (x y:E):(E.mx x y).ev J=(x.ev J).bind fun p=>(y.ev J).bind fun q=>lw p q:=by simp only[E.ev]
def o2 (x k z:E):(E.mget x k z).ev J=(x.ev J).bind fun p=>(k.ev J).bind fun q=>(z.ev J).bind fun r=>Xy p q r:=by simp only[E.ev]
def o0 (x k v:E):(E.mset x k v).ev J=(x.ev J).bind fun p=>(k.ev J).bind fun q=>(v.ev J).bind fun r=>Xw p q r:=by simp only[E.ev]
def og:E.evs J []=some []:=by simp only[E.evs]
def bh (x:E) (xs:List E):E.evs J (x::xs)=(x.ev J).bind fun p=>(E.evs J xs).map fun ps=>p::ps:=by simp only[E.evs]
def dq (x y:E):brE J x y (.b true)=x.ev J:=rfl
def Yv (x y:E):brE J x y (.b false)=y.ev J:=rfl
def As6 (x y:E) (v:Bool):brE J x y (.b v)=if v=true then x.ev J else y.ev J:=by cases v<;>rfl
end
section
variable {fn:Fns} {N:Nat} {J:List PV}
def N2 {t t':T} (h:t=t'):∀(fn:Fns) (N:Nat) (J:List PV),T.ev fn N t J=T.ev fn N t' J:=by subst h;intro fn N J;exact Eq.refl _
def xc {t t':T} {q:Prop} (h:t=t') (r:q):(∀(fn:Fns) (N:Nat) (J:List PV),T.ev fn N t J=T.ev fn N t' J)∧q:=⟨N2 h,r⟩
def xd {a b:E} {q:Prop} (h:a=b) (r:q):(a=b)∧q:=⟨by subst h;exact Eq.refl _,r⟩
def xd0:(TAG=TAG)=True:=eq_self _
def jx (x:E) (k:T):(T.w (.chk x) k).ev fn N J=(x.ev J).bind fun _=>k.ev fn N J:=by simp only[T.ev,W.ev];cases x.ev J<;>rfl
def Y8 (fl:Bool) (f:Nat) (ar:List E) (m:Nat) (k:T):(T.w (.call none fl f ar m) k).ev fn N J=(((E.evs J ar).bind fun vs=>results fl m J (fn f vs.length vs))).bind (goT fn N k):=by simp only[T.ev,W.ev,D2];rfl
def U3 (g:E) (fl:Bool) (f:Nat) (ar:List E) (m:Nat) (k:T):(T.w (.call (some g) fl f ar m) k).ev fn N J=(W.ev fn J (.call (some g) fl f ar m)).bind (goT fn N k):=by simp only[T.ev];rfl
def jw (g:Option E) (fl:Bool) (c:E) (ar:List E) (m:Nat) (k:T):(T.w (.clo g fl c ar m) k).ev fn N J=(W.ev fn J (.clo g fl c ar m)).bind (goT fn N k):=by simp only[T.ev];rfl
def Av9 (k:T):goT fn N k J=k.ev fn N J:=rfl
def jv (c:E) (t e:T):(T.ite c t e).ev fn N J=(c.ev J).bind (brT fn N t e J):=by simp only[T.ev];rfl
def dk (t e:T):brT fn N t e J (.b true)=t.ev fn N J:=rfl
def Yq (t e:T):brT fn N t e J (.b false)=e.ev fn N J:=rfl
def As5 (t e:T) (v:Bool):brT fn N t e J (.b v)=if v=true then t.ev fn N J else e.ev fn N J:=by cases v<;>rfl
def jq (es:List E):(T.ret es).ev fn N J=(E.evs J es).map .ret:=by simp only[T.ev]
def jk (id:Nat) (es:List E):(T.yld id es).ev fn N J=(E.evs J es).map (.yld id):=by simp only[T.ev]
def jy (id:Nat) (b k:T):(T.blk id b k).ev fn N J=(b.ev fn N J).bind (aft fn N id k J):=by simp only[T.ev];rfl
def tj (id:Nat) (k:T) (vs:List PV):aft fn N id k J (.ret vs)=some (.ret vs):=rfl
def s9 (id j:Nat) (k:T) (vs:List PV):aft fn N id k J (.yld j vs)=if j=id then k.ev fn N (J++vs) else some (.yld j vs):=rfl
def tq (id:Nat) (k:T) (p:Prop) [Decidable p] (x y:Out):aft fn N id k J (if p then x else y)=if p then aft fn N id k J x else aft fn N id k J y:=by split<;>rfl
def U1 (g:E) (fl:Bool) (f:Nat) (ar:List E) (m:Nat):W.ev fn J (.call (some g) fl f ar m)=(g.ev J).bind (cj fn J fl f ar m):=by simp only[W.ev,D2];rfl
def Uj (fl:Bool) (f:Nat) (ar:List E) (m:Nat):cj fn J fl f ar m (.b true)=(E.evs J ar).bind fun vs=>results fl m J (fn f vs.length vs):=rfl
def Qt (fl:Bool) (f:Nat) (ar:List E) (m:Nat):cj fn J fl f ar m (.b false)=some (J++List.replicate m .u):=rfl
def pn (fl:Bool) (f:Nat) (ar:List E) (m:Nat) (v:Bool):cj fn J fl f ar m (.b v)=if v=true then((E.evs J ar).bind fun vs=>results fl m J (fn f vs.length vs)) else some (J++List.replicate m .u):=by cases v<;>rfl
def i9 (fl:Bool) (c:E) (ar:List E) (m:Nat):W.ev fn J (.clo none fl c ar m)=(c.ev J).bind fun q=>(E.evs J ar).bind fun vs=>match q with| .f f caps=>results fl m J (fn f vs.length (vs++caps))|_=>none:=by simp only[W.ev,D2];rfl
def al {α β:Type} (p:Prop) [Decidable p] (x y:Option α) (f:α->Option β):(if p then x else y).bind f=if p then x.bind f else y.bind f:=by split<;>rfl
def ah (p:Prop) [Decidable p] (x y:PV):(if p then some x else some y)=some (if p then x else y):=by split<;>rfl
def Xf (p:Prop) [Decidable p] (x y:Out):(if p then some x else some y)=some (if p then x else y):=by split<;>rfl
def Av8 (p:Prop) [Decidable p] (x y:Bool):(if p then PV.b x else PV.b y)=PV.b (if p then x else y):=by split<;>rfl
def Av7 (p:Prop) [Decidable p] (k:IntKind) (x y:Int):(if p then PV.i k x else PV.i k y)=PV.i k (if p then x else y):=by split<;>rfl
def Av6 (p:Prop) [Decidable p] (x y:List UInt8):(if p then PV.s x else PV.s y)=PV.s (if p then x else y):=by split<;>rfl
end
def w64 {x:Int} (h1: -9223372036854775808<=x) (h2:x<=9223372036854775807):IntKind.i64.wrap x=x:=IntWalk.i64_in x ⟨h1,h2⟩
def w8 {x:Int} (h1:0<=x) (h2:x<=255):IntKind.u8.wrap x=x:=IntWalk.u8_in x ⟨h1,h2⟩
def At3 {x:Int} (h1:0<=x) (h2:x<=18446744073709551615):IntKind.u64.wrap x=x:=by simp[IntKind.wrap,IntKind.bits,IntKind.signed];omega
def As3 {p:Prop} [Decidable p] (h:p):decide p=true:=decide_eq_true h
def As4 {p:Prop} [Decidable p] (h:¬p):decide p=false:=decide_eq_false h
def rp (k:IntKind) (x y:Int):X.bin .add (.i k x) (.i k y)=some (.i k (k.wrap (x+y))):=by simp[X.bin,Ex]
def rv (k:IntKind) (x y:Int):X.bin .sub (.i k x) (.i k y)=some (.i k (k.wrap (x - y))):=by simp[X.bin,Ex]
def rc (k:IntKind) (x y:Int):X.bin .mul (.i k x) (.i k y)=some (.i k (k.wrap (x*y))):=by simp[X.bin,Ex]
def ry (k:IntKind) (x y:Int):X.bin .quo (.i k x) (.i k y)=if y=0 then none else some (.i k (k.wrap (x.tdiv y))):=by simp[X.bin,Ex]
def rx (k:IntKind) (x y:Int):X.bin .rem (.i k x) (.i k y)=if y=0 then none else some (.i k (x.tmod y)):=by simp[X.bin,Ex]
def zj (k:IntKind) (x y:Int) (h:0<=x) (h':0<y):X.bin .quo (.i k x) (.i k y)=some (.i k (k.wrap (x / y))):=by rw[ry,if_neg (by omega),Int.tdiv_eq_ediv_of_nonneg h]
def y9 (k:IntKind) (x y:Int) (h:0<=x) (h':0<y):X.bin .rem (.i k x) (.i k y)=some (.i k (x % y)):=by rw[rx,if_neg (by omega),Int.tmod_eq_emod_of_nonneg h]
def rn (k:IntKind) (x y:Int):X.bin .eql (.i k x) (.i k y)=some (.b (decide (x=y))):=by simp[X.bin,Ex];rfl
def rz (k:IntKind) (x y:Int):X.bin .neq (.i k x) (.i k y)=some (.b (decide (x≠y))):=by simp[X.bin,Ex];by_cases h:x=y<;>simp[h]
def rf (k:IntKind) (x y:Int):X.bin .lss (.i k x) (.i k y)=some (.b (decide (x<y))):=by simp[X.bin,Ex]
def rh (k:IntKind) (x y:Int):X.bin .leq (.i k x) (.i k y)=some (.b (decide (x<=y))):=by simp[X.bin,Ex]
def rl (k:IntKind) (x y:Int):X.bin .gtr (.i k x) (.i k y)=some (.b (decide (y<x))):=by simp[X.bin,Ex]
def rm (k:IntKind) (x y:Int):X.bin .geq (.i k x) (.i k y)=some (.b (decide (y<=x))):=by simp[X.bin,Ex]
def db (x y:List UInt8) (h:x.length+y.length<=9223372036854775807):X.bin .add (.s x) (.s y)=some (.s (x++y)):=by simp only[X.bin,Mj];rw[if_neg];simp[IntKind.max,IntKind.bits,IntKind.signed];omega
def dz (x y:List UInt8):X.bin .eql (.s x) (.s y)=some (.b (decide (x=y))):=by simp only[X.bin,Mj];by_cases h:x=y<;>simp[h]
def dw (x y:List UInt8):X.bin .neq (.s x) (.s y)=some (.b (decide (x≠y))):=by simp only[X.bin,Mj];by_cases h:x=y<;>simp[h]
def dx (x y:List UInt8):X.bin .lss (.s x) (.s y)=some (.b (Op.bytesLess x y)):=rfl
def dy (x y:List UInt8):X.bin .gtr (.s x) (.s y)=some (.b (!(Op.bytesLess x y||x==y))):=rfl
def ux (x:Bool):X.un .not (.b x)=some (.b (!x)):=rfl
def kx (p:Prop) [Decidable p]:(!decide p)=decide (¬p):=by by_cases h:p<;>simp[h]
def ov (sz:Nat) (xs:List PV) (k:IntKind) (z:Int) (h:0<=z):Kn sz (.l sz xs) (.i k z)=xs[z.toNat]? :=by simp[Kn,h]
def Ap7 (sz:Nat) (xs:List PV):F2 (.l sz xs)=some (.i .i64 (xs.length:Int)):=rfl
def yn (x:List UInt8):Jk (.s x)=some (.i .i64 (x.length:Int)):=rfl
def yp (x:List UInt8) (k:IntKind) (n:Int) (h:0<=n):J9 (.s x) (.i k n)=(x[n.toNat]?).map fun c=> .i .u8 (c.toNat:Int):=by simp[J9,h]
def An5 (x:List UInt8) (k k':IntKind) (a b:Int) (h1:0<=a) (h2:a<=b) (h3:b<=(x.length:Int)):U6 (.s x) (.i k a) (.i k' b)=some (.s ((x.take b.toNat).drop a.toNat)):=by simp[U6,h1,h2,h3]
def ln (sz:Nat) (x:List PV) (k k':IntKind) (a b:Int) (h1:0<=a) (h2:a<=b) (h3:b<=(x.length:Int)):Jg sz (.l sz x) (.i k a) (.i k' b)=some (.l sz ((x.take b.toNat).drop a.toNat)):=by simp[Jg,h1,h2,h3]
def Ux (sz:Nat) (xs ys:List PV) (h:xs.length+ys.length<=1073741824):Hg sz (.l sz xs) (.l sz ys)=some (.l sz (xs++ys)):=by simp[Hg,LIM,h]
def Ac2 (sz:Nat) (xs:List PV) (y:PV) (h:xs.length+1<=1073741824):Hg sz (.l sz xs) (.l sz [y])=some (.l sz (xs++[y])):=Ux sz xs [y] h
def l0 (sz:Nat):I4 sz []=some (.l sz []):=rfl
def yr (x:List UInt8):Kj (.s x)=some (.s x):=rfl
def y1 (k:IntKind) (x:Int):Kj (.i k x)=some (.i k x):=rfl
def y2 (x:Bool):Kj (.b x)=some (.b x):=rfl
def y0 (sz:Nat) (x:List PV):Kj (.l sz x)=some (.l sz x):=rfl
def Ap5 (x:List UInt8):I4 1 [.s x]=some (.l 1 [.s x]):=rfl
def zk (x:List UInt8):Dv 0 (.s x)=some (.s x):=rfl
def zq (k:IntKind) (x:Int):Dv 0 (.i k x)=some (.i k x):=rfl
def zw (j:Nat) (cs:List PV):Dv j (.a cs)=cs[j]? :=rfl
def Ap3 (k:IntKind) (x y:Int) (h:x<=y):lf (.i k x) (.i k y)=some (.i k x):=by simp only[lf,if_true];rw[if_neg (by omega)]
def Ap4 (k:IntKind) (x y:Int) (h:y<x):lf (.i k x) (.i k y)=some (.i k y):=by simp only[lf,if_true];rw[if_pos h]
def Ap2 (k:IntKind) (x y:Int) (h:y<=x):lw (.i k x) (.i k y)=some (.i k x):=by simp only[lw,if_true];rw[if_neg (by omega)]
def Ap1 (k:IntKind) (x y:Int) (h:x<y):lw (.i k x) (.i k y)=some (.i k y):=by simp only[lw,if_true];rw[if_pos (by omega)]
def Az4 (k k':IntKind) (x:Int):Sv k (.i k' x)=some (.i k (k.wrap x)):=rfl
def uz (n:Nat):((n:Int)).toNat=n:=Q7 n
def Yc (x:List UInt8):Q2 (.l 1 (El x))=some (.s x):=by
 have:∀x:List UInt8,(x.map fun c=>PV.i .u8 (c.toNat:Int)).mapM byteOf? =some x:=by
  intro x
  induction x with
  |nil=>rfl
  |cons c r ih=>
   have hc:=c.toNat_lt;have h1:byteOf? (PV.i .u8 (c.toNat:Int))=some c:=by simp only[byteOf?];rw[if_pos (by omega)];simp
   simp[F0,h1,ih]
 simp[Q2,El,this]
def An9 (x:List UInt8) (h:x.length<=1073741824):Sm (.s x)=some (.l 1 (El x)):=by simp[Sm,LIM,h]
def Ap6 (k:IntKind) (x:Int):I4 1 [.i k x]=some (.l 1 [.i k x]):=rfl
def Ar1 (x y:Bool):I6 false false [.b] (.b x) (.b y)=some (.b (x==y)):=by simp[I6,PV.scal,Es,il]
def zm (x y:Bool):I6 true false [.b] (.b x) (.b y)=some (.b (!(x==y))):=by simp[I6,PV.scal,Es,il]
def oy (x y:PV):Ts 2 (.a [x,y])=some (.a [x,y]):=rfl
def Aw2 (x:Bool):PV.flat (.b x)=true:=rfl
def Aw1 (k:IntKind) (x:Int):PV.flat (.i k x)=true:=rfl
def Aw0 (x:List UInt8):PV.flat (.s x)=true:=rfl
def y8 (J:List PV) (x:PV):results false 1 J (some [x])=some (J++[x]):=rfl
def y7 (J:List PV) (x y:PV):results false 2 J (some [x,y])=some (J++[x,y]):=rfl
def y6 (J:List PV) (x y z:PV):results false 3 J (some [x,y,z])=some (J++[x,y,z]):=rfl
def y5 (J:List PV):results true 0 J (some [])=some (J++[]):=rfl
def y4 (J:List PV) (x:PV):results true 1 J (some [x])=if x.flat=true then some (J++[x]) else none:=by simp[results,PV.flat.flats]
def y3 (J:List PV) (x y:PV):results true 2 J (some [x,y])=if x.flat=true then(if y.flat=true then some (J++[x,y]) else none) else none:=by simp only[results,Bm,PV.flat.flats];by_cases h:x.flat=true<;>by_cases h':y.flat=true<;>simp[h,h']
end Go.X
namespace Go.X
open Go
def jr {o:Option T} {t:T} (h:o.map T.slim=some t):∃t0,o=some t0∧t0.slim=t:=Bl.1 h
def FOK (P:Program) (sig:Nat->Option Nat) (f:Nat) (ft:FT):Prop:=
 ∃ func H, P.funcs[f]? = some func ∧ (func.name == "runtime.NumGoroutine") = false ∧ Uq sig f func = ft.np ∧ func.params.size < TAG ∧ func.nfree = ft.nf ∧ ∃ t, Yh P sig f func H = some t ∧ t.slim = ft.t
def At0 (P:Program) (sig:Nat->Option Nat) (f a b:Nat) (H:Hints):Option T:=
 match P.funcs[f]? with
 |none=>none
 | some fu => if (fu.name == "runtime.NumGoroutine") = false ∧ Uq sig f fu = a ∧ fu.params.size < TAG ∧ fu.nfree = b then (Yh P sig f fu H).map T.slim else none
def fok {P:Program} {sig:Nat->Option Nat} {f a b:Nat} {t:T} (H:Hints) (h:At0 P sig f a b H=some t:=by kernel_rfl):FOK P sig f ⟨a,b,t⟩:=by
 unfold At0 at h;split at h
 .exact nomatch h
 .next fu hf=>
  split at h
  .next hc=>
   obtain⟨t0,h1,h2⟩:=jr h;exact⟨fu,H,hf,hc.1,hc.2.1,hc.2.2.1,hc.2.2.2,t0,h1,h2⟩
  .exact nomatch h
def lkF:List (Nat×FT)->Nat->Option FT
 |[],_=>none
 |(k,t)::r,f=>if k=f then some t else lkF r f
def Q5 (P:Program) (sig:Nat->Option Nat):List (Nat×FT)->Prop
 |[]=>True
 |p::r=>FOK P sig p.1 p.2∧Q5 P sig r
def tw (P:Program):List (Nat×Nat)->Prop
 |[]=>True
 |p::r=>(match Q1 (some p.2) with|some (T,k)=>I9 P p.1 T k|none=>True)∧tw P r
def Yz {P:Program}:∀{l:List (Nat×Nat)},tw P l->Af0 P (Xb l)
 |[],_=>fun f T k h=>by simp[Xb,Q1] at h
 |p::r,hl=>fun f T k h=>by
  simp only[Xb] at h;split at h
  .rename_i e;subst e;have:=hl.1;rw[h] at this;exact this
  .exact Yz hl.2 f T k h
def dv {P:Program}:tw P []:=trivial
def G9 {P:Program} {p:Nat×Nat} {r:List (Nat×Nat)} (h:Q1 (some p.2)=none) (hr:tw P r):tw P (p::r):=⟨by rw[h];trivial,hr⟩
def Q0 {P:Program} {p:Nat×Nat} {r:List (Nat×Nat)} {T k:Nat} (h:Q1 (some p.2)=some (T,k)) (hs:I9 P p.1 T k) (hr:tw P r):tw P (p::r):=⟨by rw[h];exact hs,hr⟩
def U4 {P : Program} {sig : Nat → Option Nat} : ∀ (l : List (Nat × FT)), Q5 P sig l → ∀ f ft, lkF l f = some ft → ∃ func H, P.funcs[f]? = some func ∧ (func.name == "runtime.NumGoroutine") = false ∧ Uq sig f func = ft.np ∧ func.params.size < TAG ∧ func.nfree = ft.nf ∧ ∃ t, Yh P sig f func H = some t ∧ t.slim = ft.t
 |[],_=>fun f ft h=>by simp[lkF] at h
 |(k,t)::r,hl=>fun f ft h=>by
  simp only[lkF] at h;split at h
  .rename_i e;injection h with h;subst h;subst e;exact hl.1
  .exact U4 r hl.2 f ft h
def uc {P:Program} {sig:Nat->Option Nat} (l:List (Nat×FT)) (h:Q5 P sig l) (hB:Af0 P sig):Tab P sig (lkF l):=⟨U4 l h,hB⟩
end Go.X
namespace Go.X
def P7 {α β:Type} (a:α) (f:α->Option β):(some a).bind f=f a:=by rw[Bm]
def P8 {α β:Type} (f:α->Option β):(none:Option α).bind f=none:=by rw[Option.bind_none]
def Sr {α β:Type} (a:α) (f:α->β):(some a).map f=some (f a):=by rw[B9]
def Ss {α β:Type} (f:α->β):(none:Option α).map f=none:=by rw[Option.map_none]
def Ml {α:Type} (a:α) (l m:List α):(a::l)++m=a::(l++m):=by rw[List.cons_append]
def Ob {α:Type} (m:List α):[]++m=m:=by rw[List.nil_append]
def S3 {α:Type} (a:α) (l:List α) (i:Nat):(a::l)[i+1]? =l[i]? :=by rw[Ds]
def S2 {α:Type} (a:α) (l:List α):(a::l)[0]? =some a:=by rw[C2]
def S1 {α:Type} (a:α) (l:List α):(a::l).length=l.length+1:=by rw[Fq]
def Vf {α:Type}:([]:List α).length=0:=by rw[Ac7]
def Sp {α:Type} (a:α) (n:Nat):List.replicate (n+1) a=a::List.replicate n a:=by rw[List.replicate_succ]
def Sn {α:Type} (a:α):List.replicate 0 a=[]:=by rw[List.replicate_zero]
def Vh {α β:Type} (f:α->β) (l:List α) (i:Nat):(l.map f)[i]? =l[i]?.map f:=by rw[Cd]
def Vg {α β:Type} (f:α->β) (l:List α):(l.map f).length=l.length:=by rw[List.length_map]
set_option linter.defProp false
def EV:=(And.intro @P7 (And.intro @Sr (And.intro @P8 (And.intro @Ss (And.intro @Ml (And.intro @Ob (And.intro @S3 (And.intro @S2 (And.intro @uq (And.intro @Bool.not_false (And.intro @S1 (And.intro @Vf (And.intro @Sp (And.intro @Sn (And.intro @Vh (And.intro @Vg (And.intro @Bool.if_true_left (And.intro @Bool.if_false_right (And.intro @Bool.decide_eq_true (And.intro @Int.natCast_add (And.intro @Int.cast_ofNat_Int (And.intro @Dn (And.intro @decide_eq_true_eq (And.intro @Br (And.intro @decide_true (And.intro @decide_false (And.intro @At6 (And.intro @At7 (And.intro @Ax8 (And.intro @Ap8 (And.intro @Ax3 (And.intro @ot (And.intro @Aw6 (And.intro @Ay1 (And.intro @Ax5 (And.intro @om (And.intro @Ax4 (And.intro @ev_len (And.intro @oh (And.intro @ol (And.intro @Aw7 (And.intro @Ax1 (And.intro @Ay0 (And.intro @Ax2 (And.intro @Ax0 (And.intro @Aw8 (And.intro @o3 (And.intro @Ax9 (And.intro @Aw9 (And.intro @Ax6 (And.intro @Ax7 (And.intro @Ar0 (And.intro @Ap9 (And.intro @o2 (And.intro @o0 (And.intro @og (And.intro @bh (And.intro @dq (And.intro @Yv (And.intro @As6 (And.intro @jx (And.intro @Y8 (And.intro @U3 (And.intro @U1 (And.intro @Uj (And.intro @Qt (And.intro @pn (And.intro @jw (And.intro @Av9 (And.intro @jv (And.intro @dk (And.intro @Yq (And.intro @As5 (And.intro @jq (And.intro @jk (And.intro @jy (And.intro @tj (And.intro @tq (And.intro @s9 (And.intro @w64 (And.intro @w8 (And.intro @At3 (And.intro @zj (And.intro @y9 (And.intro @As3 (And.intro @As4 (And.intro @rp (And.intro @rv (And.intro @rc (And.intro @rn (And.intro @rz (And.intro @rf (And.intro @rh (And.intro @rl (And.intro @rm (And.intro @db (And.intro @dz (And.intro @dw (And.intro @dx (And.intro @dy (And.intro @ux (And.intro @kx (And.intro @ov (And.intro @Ap7 (And.intro @yn (And.intro @yp (And.intro @An5 (And.intro @ln (And.intro @Ac2 (And.intro @Ux (And.intro @l0 (And.intro @Ap5 (And.intro @Ap6 (And.intro @Yc (And.intro @An9 (And.intro @yr (And.intro @y1 (And.intro @y2 (And.intro @y0 (And.intro @zk (And.intro @zq (And.intro @zw (And.intro @Ap3 (And.intro @Ap4 (And.intro @Ap2 (And.intro @Ap1 (And.intro @Ar1 (And.intro @zm (And.intro @oy (And.intro @Az4 (And.intro @uz (And.intro @Aw2 (And.intro @Aw1 (And.intro @Aw0 (And.intro @y8 (And.intro @y7 (And.intro @y6 (And.intro @y5 (And.intro @y4 (And.intro @y3 (And.intro @al (And.intro @ah (And.intro @Xf (And.intro @Av8 (And.intro @Av7 (And.intro @Av6 (And.intro @if_true.{1} (And.intro @if_false.{1} (And.intro @ne_eq.{1} (And.intro @not_true (And.intro @not_false_eq_true @Bool.true_eq_false)))))))))))))))))))))))))))))))))))))))))))))))))))))))))))))))))))))))))))))))))))))))))))))))))))))))))))))))))))))))))))))))))))))))))))))))))))))))
end Go.X
namespace Go.X
end Go.X
