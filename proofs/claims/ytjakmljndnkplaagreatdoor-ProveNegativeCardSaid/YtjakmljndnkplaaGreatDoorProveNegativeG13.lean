/- Stable sorting: the Xr. -/
import Derived.Test.YtjakmljndnkplaaGreatDoorProveNegativeG12
import Derived.Test.YtjakmljndnkplaaGreatDoorProveNegativeG11
import Derived.Test.YtjakmljndnkplaaGreatDoorProveNegativeG9
import Derived.Test.YtjakmljndnkplaaGreatDoorProveNegativeG8
open Bool renaming eq_false_or_eq_true->Bm,and_eq_true->Bp,false_eq_true->B5,or_eq_true->Ck,not_eq_true'->Cf,eq_iff_iff->D8,not_eq_false->Hr,true_and->N0
open Classical renaming not_not->Hp
open Int renaming toNat_natCast->Fq,lt_irrefl->Nt
open List renaming getElem?_eq_some_iff->Br,length_append->Bt,getElem?_eq_getElem->B0,mem_cons->Cj,mem_of_getElem?->Cq,append_assoc->Cv,length_take->Cw,length_cons->Cy,getElem?_append_right->Cz,pairwise_cons->Cd,mem_filter->Cg,getElem?_drop->Cl,mem_append->Cn,all_eq_true->Cr,length_pos_iff->C1,length_nil->C3,take_append_drop->C7,getElem?_map->C9,any_eq_true->Dj,mem_append_right->Dq,length_drop->Dy,nil_append->Dc,take_add_one->Dr,mem_append_left->D1,length_filter_le->D4,drop_drop->D6,drop_eq_getElem_cons->D9,mem_map->Ev,length_singleton->Ew,take_length->Eh,getElem?_of_mem->Ep,getElem_mem->Er,take_of_length_le->E5,length_map->E9,append_nil->Fj,suffix_iff_eq_drop->Fy,drop_zero->F6,flatMap_cons->Gj,isSuffixOf_iff_suffix->G6,map_cons->Hq,count_cons_of_ne->H1,length_set->Ik,mem_of_mem_take->Ih,count_cons_self->Il,mem_of_mem_drop->K4,getLast_eq_getElem->Lf,getElem?_set_self->M0,drop_of_length_le->M1,filter_cons->Oj,findIdx?_cons->Od,drop_set_of_lt->Wt,length_eq_zero_iff->Xb,foldl_cons->nd,length_mergeSort->yc,getElem_take->Af2,take_take->Bs5,take_left->Bs6,filterMap_cons->Ff5,map_mergeSort->Ik5,find?_eq_none->Ik6,count_eq_zero->Ik7
open Nat renaming le_refl->B7,mul_le_mul_right->C4,zero_le->Df,le_trans->Dt,add_zero->E4,min_eq_left->L8,add_sub_cancel->Ob
open Option renaming bind_some->B3,map_some->Cc
set_option maxHeartbeats 1000000
set_option linter.defProp false
set_option linter.unusedVariables false
set_option linter.unusedSimpArgs false
namespace Go.X.G
open Go Go.X
def Ab:=And.intro xe<|And.intro EVP EV
def Az:=And.intro EVC<|And.intro xe<|And.intro EVP EV
def Ay:=And.intro EVM<|And.intro EVC<|And.intro xe<|And.intro EVP EV
def w7 {α:Type} {le:α->α->Bool} (ht:TP le) {bs:Nat} {Y LY:List α} (h:Blk le bs Y LY) (hl:Y.length<=2*bs) (hb:bs<Y.length):Stab le (mrg le (Y.take bs) (Y.drop bs)) LY:=by have h1:=h.head;have h2:=(h.tail).all (by rw[Dy];omega);have:=Stab.mrg ht h1 h2;rwa[C7] at this
def Blk.pre {α:Type} {le:α->α->Bool} {bs k:Nat} {Y LY:List α} (h:Blk le bs Y LY):Blk le bs (Y.take (k*bs)) (LY.take (k*bs)):=by
 refine⟨by simp[h.len],fun j=> ?_⟩;rw[List.drop_take,List.drop_take,Bs5,Bs5];by_cases hj:j<k
 .have e:(j+1)*bs<=k*bs:=C4 _ hj;rw[Nat.succ_mul] at e;rw[L8 (by omega)];exact h.st j
 .have e:k*bs<=j*bs:=C4 _ (by omega);rw[show k*bs - j*bs=0 by omega,Nat.min_eq_right (by omega),List.take_zero,List.take_zero];exact W3 le
section
variable {g:Nat} {caps:List PV} {c:Rec->Rec->Int} {P:Rec->Prop}
def Ix8 (hC:Cmp g caps c P) (ht:TP (leC c)) (l:List Rec) (hP:∀y∈l,P y) (hs:l.length<=1000000) (N:Nat) (hN:l.length+2<N):
  ∃(X LX Y:List Rec) (q:Nat),Dc4.ev S N [B6 l,.i .i64 l.length,.f g caps]=some (.yld 0 [.i .i64 X.length,B6 (X++Y)])∧l=LX++Y∧X.length=q*20∧Y.length<20∧Blk (leC c) 20 X LX∧∀y∈X++Y,P y:=by
 have key:=Jy (fn:=S) (N:=N) (J:=[B6 l,.i .i64 l.length,.f g caps]) (id:=1) (init:=[.c (.i .i64 0),.c (.i .i64 20),.v 0]) (body:=Ac3) (α:=List Rec×List Rec×List Rec×Nat)
  (fun w=>[.i .i64 (w.1.length:Int),.i .i64 ((w.1.length:Int)+20),B6 (w.1++w.2.2.1)])
  (fun o=>∃(X LX Y:List Rec) (q:Nat),o= .yld 0 [.i .i64 X.length,B6 (X++Y)]∧l=LX++Y∧X.length=q*20∧Y.length<20∧Blk (leC c) 20 X LX∧∀y∈X++Y,P y)
  (fun w=>l=w.2.1++w.2.2.1∧w.1.length=w.2.2.2*20∧Blk (leC c) 20 w.1 w.2.1∧∀y∈w.1++w.2.2.1,P y) (fun w=>w.2.2.1.length) ([],[],l,0) ?_ ⟨rfl,by simp,Blk.nil _ _,by simpa using hP⟩ (by simp only;omega) ?_
 .obtain⟨o,h1,X,LX,Y,q,rfl,h2⟩:=key;exact⟨X,LX,Y,q,h1,h2⟩
 .simp(disch:=omega)only[EVT,Ay,simprocAttr]
  try simp
 .rintro⟨X,LX,Y,q⟩ ⟨h1,h2,h3,h4⟩;simp only at h1 h2 h3 h4;have hlen:=congrArg List.length h1;simp only[Bt] at hlen;have hXL:=h3.len;by_cases hge:20<=Y.length
  .left;have eY:Y.take 20++Y.drop 20=Y:=C7 _ _;have l1:(Y.take 20).length=20:=by rw[Cw];omega
   have l2:(Y.drop 20).length=Y.length - 20:=Dy;have eXY:X++Y.take 20++Y.drop 20=X++Y:=by rw[Cv,eY]
   obtain⟨R,k1,k2,k3⟩:=ep hC ht X (Y.take 20) (Y.drop 20) (X.length:Int) ((X.length:Int)+20) rfl (by omega) (by rw[eXY];exact h4) (by rw[eXY,Bt];omega);rw[eXY] at k3;refine⟨(X++R,LX++Y.take 20,Y.drop 20,q+1),?_,⟨by simp only;rw[h1,Cv,eY],by simp only[Bt];omega,Blk.app h2 h3 (Blk.one k1 k2 (by omega)),fun y hy=>h4 y ?_⟩,by simp only;omega⟩
   .have e1:((X++R).length:Int)=(X.length:Int)+20:=by simp only[Bt];omega
    have hge':(X.length:Int)+20<=(l.length:Int):=by omega
    simp only;rw[e1];generalize X++R++Y.drop 20=s1 at*;generalize X++Y=s0 at*;simp(disch:=omega)only[Vg,hge',k3,Ey,Jk,EVT,Ay,simprocAttr]
   .have:=k1.mem ht y;simp only[Cn] at hy;rcases hy with(hy|hy)|hy
    .simp[hy]
    .exact Dq _ (Ih (this.1 hy))
    .exact Dq _ (K4 hy)
  .right;have hge':¬(X.length:Int)+20<=(l.length:Int):=by omega
   refine⟨.yld 0 [.i .i64 X.length,B6 (X++Y)],?_,rfl,X,LX,Y,q,rfl,h1,h2,by omega,h3,h4⟩;simp only;generalize X++Y=s0 at*;simp(disch:=omega)only[Vg,hge',EVT,Ay,simprocAttr]
def Ix7 (hC:Cmp g caps c P) (ht:TP (leC c)) (l r:List Rec) (bs:Nat) (hbs:0<bs) (hbs2:bs<l.length) (hr:Blk (leC c) bs r l) (hP:∀y∈r,P y) (hs:l.length<=1000000) (w0:PV) (w3 w4 w5:PV) (N:Nat) (hN:l.length+2<N):
  ∃(X LX Y LY:List Rec) (q:Nat),Dz5.ev S N [w0,.i .i64 l.length,.f g caps,w3,w4,w5,.i .i64 bs,B6 r]=some (.yld 2 [.i .i64 X.length,B6 (X++Y)])∧l=LX++LY∧X.length=q*(2*bs)∧Y.length<2*bs∧Blk (leC c) (2*bs) X LX∧Blk (leC c) bs Y LY∧∀y∈X++Y,P y:=by
 have key:=Jy (fn:=S) (N:=N) (J:=[w0,.i .i64 l.length,.f g caps,w3,w4,w5,.i .i64 bs,B6 r]) (id:=3) (init:=[.c (.i .i64 0),.bin .mul (.c (.i .i64 2)) (.v 6),.v 7]) (body:=Ab4) (α:=(List Rec×List Rec)×(List Rec×List Rec)×Nat)
  (fun w=>[.i .i64 (w.1.1.length:Int),.i .i64 ((w.1.1.length:Int)+2*bs),B6 (w.1.1++w.2.1.1)])
  (fun o=>∃(X LX Y LY:List Rec) (q:Nat),o= .yld 2 [.i .i64 X.length,B6 (X++Y)]∧l=LX++LY∧X.length=q*(2*bs)∧Y.length<2*bs∧Blk (leC c) (2*bs) X LX∧Blk (leC c) bs Y LY∧∀y∈X++Y,P y)
  (fun w=>l=w.1.2++w.2.1.2∧w.1.1.length=w.2.2*(2*bs)∧Blk (leC c) (2*bs) w.1.1 w.1.2∧Blk (leC c) bs w.2.1.1 w.2.1.2∧∀y∈w.1.1++w.2.1.1,P y) (fun w=>w.2.1.1.length) (([],[]),(r,l),0) ?_ ⟨rfl,by simp,Blk.nil _ _,hr,by simpa using hP⟩ (by have:=hr.len;simp only;omega) ?_
 .obtain⟨o,h1,X,LX,Y,LY,q,rfl,h2⟩:=key;exact⟨X,LX,Y,LY,q,h1,h2⟩
 .simp(disch:=omega)only[EVT,Ay,simprocAttr];simp
 .rintro⟨⟨X,LX⟩,⟨Y,LY⟩,q⟩ ⟨h1,h2,h3,h4,h5⟩;simp only at h1 h2 h3 h4 h5;have hlen:=congrArg List.length h1;simp only[Bt] at hlen;have hXL:=h3.len;have hYL:=h4.len;by_cases hge:2*bs<=Y.length
  .left;have eY:Y.take (2*bs)++Y.drop (2*bs)=Y:=C7 _ _;have l1:(Y.take (2*bs)).length=2*bs:=by rw[Cw];omega
   have l2:(Y.drop (2*bs)).length=Y.length - 2*bs:=Dy;have hp:=h4.pre (k:=2);have hz:Blk (leC c) bs (Y.drop (2*bs)) (LY.drop (2*bs)):=by have:=h4.tail.tail;rwa[D6,D6,show bs+bs=2*bs by omega] at this
   have hst:=w7 ht hp (by omega) (by omega);have sA:((Y.take (2*bs)).take bs).Pairwise fun x y=>leC c x y=true:=hp.head.sorted;have sB:((Y.take (2*bs)).drop bs).Pairwise fun x y=>leC c x y=true:=(hp.tail.all (by rw[Dy];omega)).sorted;have lA:((Y.take (2*bs)).take bs).length=bs:=by rw[Cw];omega
   have lB:((Y.take (2*bs)).drop bs).length=bs:=by rw[Dy];omega
   have eAB:(Y.take (2*bs)).take bs++(Y.take (2*bs)).drop bs=Y.take (2*bs):=C7 _ _;generalize (Y.take (2*bs)).take bs=A at*;generalize (Y.take (2*bs)).drop bs=B at*;have eXY:X++A++B++Y.drop (2*bs)=X++Y:=by rw[Cv X,eAB,Cv,eY]
   have hm:=M6 hC ht (A.length+B.length) X A B (Y.drop (2*bs)) (X.length:Int) ((X.length:Int)+bs) ((X.length:Int)+2*bs) (B7 _) (by intro e;rw[e] at lA;simp at lA;omega) (by intro e;rw[e] at lB;simp at lB;omega) sA sB rfl (by omega) (by omega) (by rw[eXY,Bt];omega) (by rw[eXY];exact h5);rw[eXY] at hm;have lM:=Yt (leC c) A B;have eL:LY.take (2*bs)++LY.drop (2*bs)=LY:=C7 _ _;refine⟨((X++mrg (leC c) A B,LX++LY.take (2*bs)),(Y.drop (2*bs),LY.drop (2*bs)),q+1),?_,⟨by simp only;rw[h1,Cv,eL],by simp only[Bt];rw[Nat.succ_mul];omega,Blk.app h2 h3 (Blk.one hst (by rw[lM,Cw];omega) (by omega)),hz,fun y hy=>h5 y ?_⟩,by simp only;omega⟩
   .have e1:((X++mrg (leC c) A B).length:Int)=(X.length:Int)+2*bs:=by simp only[Bt];omega
    have hge':(X.length:Int)+2*(bs:Int)<=(l.length:Int):=by omega
    simp only;rw[e1];generalize X++mrg (leC c) A B++Y.drop (2*bs)=s1 at*;generalize X++Y=s0 at*;simp(disch:=omega)only[Vg,hge',hm,Ey,Jk,EVT,Ay,simprocAttr]
   .rw[<-eXY];simp only[Cn,mrg_mem] at hy ⊢
    grind
  .right;have hge':¬(X.length:Int)+2*(bs:Int)<=(l.length:Int):=by omega
   refine⟨.yld 2 [.i .i64 X.length,B6 (X++Y)],?_,rfl,X,LX,Y,LY,q,rfl,h1,h2,by omega,h3,h4,h5⟩;simp only;generalize X++Y=s0 at*;simp(disch:=omega)only[Vg,hge',EVT,Ay,simprocAttr]
def Ix9 (hC:Cmp g caps c P) (ht:TP (leC c)) (l r:List Rec) (bs:Nat) (hbs:0<bs) (hbs2:bs<l.length) (hr:Blk (leC c) bs r l) (hP:∀y∈r,P y) (hs:l.length<=1000000) (w0 w3 w4 w5:PV) (N:Nat) (hN:l.length+2<N):
  ∃r',Blk (leC c) (2*bs) r' l∧(∀y∈r',P y)∧mc.ev S N [w0,.i .i64 l.length,.f g caps,w3,w4,w5,.i .i64 bs,B6 r]=some (.yld 1 [.i .i64 ((2*bs:Nat):Int),B6 r']):=by
 obtain⟨X,LX,Y,LY,q,k,h1,h2,h3,h4,h5,h6⟩:=Ix7 hC ht l r bs hbs hbs2 hr hP hs w0 w3 w4 w5 N hN;have hlen:=congrArg List.length h1;simp only[Bt] at hlen;have hXL:=h4.len;have hYL:=h5.len;have hlt:(bs:Int)<(l.length:Int):=by omega
 have e2:((2*bs:Nat):Int)=(bs:Int)*2:=by omega
 rw[e2];by_cases hge:bs<Y.length
 .have eY:Y.take bs++Y.drop bs=Y:=C7 _ _;have hst:=w7 ht h5 (by omega) hge;have sA:=h5.head.sorted;have sB:=(h5.tail.all (by rw[Dy];omega)).sorted;have lA:(Y.take bs).length=bs:=by rw[Cw];omega
  have lB:(Y.drop bs).length=Y.length - bs:=Dy;generalize Y.take bs=A at*;generalize Y.drop bs=B at*;have eXY:X++A++B++[]=X++Y:=by rw[Fj,Cv,eY]
  have hm:=M6 hC ht (A.length+B.length) X A B [] (X.length:Int) ((X.length:Int)+bs) (l.length:Int) (B7 _) (by intro e;rw[e] at lA;simp at lA;omega) (by intro e;rw[e] at lB;simp at lB;omega) sA sB rfl (by omega) (by omega) (by rw[eXY,Bt];omega) (by rw[eXY];exact h6);rw[eXY,Fj] at hm;have lM:=Yt (leC c) A B;refine⟨X++mrg (leC c) A B,by rw[h1];exact Blk.app h2 h4 (Blk.one hst (by omega) (by omega)),fun y hy=>h6 y (by
   rw[<-eXY];simp only[Cn,mrg_mem] at hy ⊢
   grind),?_⟩
  have hge':(X.length:Int)+(bs:Int)<(l.length:Int):=by omega
  generalize X++mrg (leC c) A B=s1 at*;generalize X++Y=s0 at*;simp(disch:=omega)only[Vg,hlt,hge',k,hm,Ey,Jk,EVT,Ay,simprocAttr]
 .refine⟨X++Y,by rw[h1];exact Blk.app h2 h4 (Blk.one (h5.all (by omega)) hYL (by omega)),h6,?_⟩;have hge':¬(X.length:Int)+(bs:Int)<(l.length:Int):=by omega
  generalize X++Y=s0 at*;simp(disch:=omega)only[Vg,hlt,hge',k,EVT,Ay,simprocAttr]
def Cd8 (hC:Cmp g caps c P) (ht:TP (leC c)) (l:List Rec) (hP:∀y∈l,P y) (hs:l.length<=1000000):
  ∃r,Stab (leC c) r l∧r.length=l.length∧S Ar5 1048579 [B6 l,.i .i64 l.length,.f g caps]=some [B6 r]:=by
 obtain⟨N,hN⟩:∃N,N=l.length+3:=⟨_,rfl⟩;obtain⟨X,LX,Y,q,k0,h1,h2,h3,h4,h5⟩:=Ix8 hC ht l hP hs N (by omega);have hlen:=congrArg List.length h1;simp only[Bt] at hlen;have hXL:=h4.len;obtain⟨R,i1,i2,i3⟩:=ep hC ht X Y [] (X.length:Int) (l.length:Int) rfl (by omega) (by simpa using h5) (by simp;omega);simp only[Fj] at i3;have hB:Blk (leC c) 20 (X++R) l:=by rw[h1];exact Blk.app h2 h4 (Blk.one i1 i2 (by omega))
 have hP':∀y∈X++R,P y:=fun y hy=>h5 y (by
  have:=i1.mem ht y;simp only[Cn] at hy ⊢
  grind)
 have key:=Jy (fn:=S) (N:=N) (J:=[B6 l,.i .i64 l.length,.f g caps,.i .i64 X.length,B6 (X++Y),B6 (X++R)]) (id:=1) (init:=[.c (.i .i64 20),.v 5]) (body:=mc) (α:=Nat×List Rec)
  (fun w=>[.i .i64 (w.1:Int),B6 w.2])
  (fun o=>∃r,Stab (leC c) r l∧r.length=l.length∧o= .yld 0 [B6 r])
  (fun w=>0<w.1∧Blk (leC c) w.1 w.2 l∧∀y∈w.2,P y) (fun w=>l.length - w.1) (20,X++R) ?_ ⟨by simp,hB,hP'⟩ (by simp only;omega) ?_
 .obtain⟨o,k1,r,k2,k3,rfl⟩:=key;refine⟨r,k2,k3,?_⟩;refine Hy2 (N:=N) rfl ?_;have k4:Dz9.ev S N [B6 l,.i .i64 l.length,.f g caps,.i .i64 X.length,B6 (X++Y),B6 (X++R)]=_:=k1;clear k1;generalize X++Y=s0 at*;generalize X++R=s1 at*;simp(disch:=omega)only[Vg,k0,i3,k4,Ey,Jk,EVT,Ay,simprocAttr]
 .generalize X++Y=s0 at*;generalize X++R=s1 at*;simp(disch:=omega)only[EVT,Ay,simprocAttr]
 .rintro⟨bs,r⟩ ⟨g1,g2,g3⟩;simp only at g1 g2 g3;have hr:=g2.len;by_cases hlt:bs<l.length
  .left;obtain⟨r',k1,k2,k3⟩:=Ix9 hC ht l r bs g1 hlt g2 g3 hs (B6 l) (.i .i64 X.length) (B6 (X++Y)) (B6 (X++R)) N (by omega);exact⟨(2*bs,r'),k3,⟨by simp only;omega,k1,k2⟩,by simp only;omega⟩
  .right;have hlt':¬(bs:Int)<(l.length:Int):=by omega
   refine⟨.yld 0 [B6 r],?_,rfl,r,g2.all (by omega),hr,rfl⟩;generalize X++Y=s0 at*;generalize X++R=s1 at*;simp(disch:=omega)only[Vg,hlt',EVT,Ay,simprocAttr]
def T1 (hC:Cmp g caps c P) (ht:TP (leC c)) (l:List Rec) (hP:∀y∈l,P y) (hs:l.length<=1000000):
  ∃r,Stab (leC c) r l∧r.length=l.length∧S Eg1 1048578 [B6 l,.f g caps]=some [B6 r]:=by
 obtain⟨r,h1,h2,h3⟩:=Cd8 hC ht l hP hs;refine⟨r,h1,h2,?_⟩;refine Iz0 (N:=1) rfl ?_;simp(disch:=omega)only[Iq0,h3,Ey,Jk,EVT,Ay,simprocAttr]
end
def Ad8 (l:List Rec) (g:Nat) (caps:List PV) (eq2:Rec->Rec->Bool) (h:∀x∈l,∀y∈l,S g 2 (x.pv::y.pv::caps)=some [.b (eq2 x y)]) (hl:l.length<=1000000):S As7 1048578 [B6 l,.f g caps]=some [B6 (cpt eq2 l)]:=by
 refine Hc6 (N:=l.length+2) rfl ?_;by_cases h2:(l.length:Int)<2
 .have e:cpt eq2 l=l:=by
   match l,h2 with
   |[],_=>rfl
   |[x],_=>rfl
   |_::_::_,h=>simp at h;omega
  rw[e];simp(disch:=omega)only[R6,h2,EVT,Ay,simprocAttr]
 ·-- the inner Ix, from a place where two neighbours are equal
  have inner:∀k:Nat,1<=k->k<l.length->cpt eq2 (l.take (k+1))=l.take k->∃s:List Rec,s.length=l.length∧s.take (cpt eq2 l).length=cpt eq2 l∧Db0.ev S (l.length+2) [B6 l,.f g caps,.i .i64 (k:Int),B6 l,.b true]=some (.yld 2 [.i .i64 ((cpt eq2 l).length:Int),B6 s]):=by
   intro k hk1 hk hcp;have key:=Jy (fn:=S) (N:=l.length+2) (J:=[B6 l,.f g caps,.i .i64 (k:Int),B6 l,.b true]) (id:=3) (init:=[(.v 2),(.c (.i .i64 (1))),(.v 3)]) (body:=Ab7) (α:=Nat×Nat×List Rec)
    (fun a=>[.i .i64 (a.1:Int),.i .i64 (a.2.1:Int),B6 a.2.2])
    (fun o=>∃s:List Rec,s.length=l.length∧s.take (cpt eq2 l).length=cpt eq2 l∧o= .yld 2 [.i .i64 ((cpt eq2 l).length:Int),B6 s])
    (fun a=>1<=a.2.1∧k+a.2.1<=l.length∧a.1<k+a.2.1∧a.2.2.length=l.length∧a.2.2.take a.1=cpt eq2 (l.take (k+a.2.1))∧(cpt eq2 (l.take (k+a.2.1))).length=a.1∧a.2.2.drop (k+a.2.1 - 1)=l.drop (k+a.2.1 - 1))
    (fun a=>l.length - a.2.1) (k,1,l) (by simp(disch:=omega)only[EVT,Ay,simprocAttr])
    ⟨by simp,by simp;omega,by simp,rfl,by simp only;rw[hcp],by simp only;rw[hcp,Cw];omega,rfl⟩ (by simp only;omega) ?_
   .obtain⟨o,h3,s,h4,h5,rfl⟩:=key;exact⟨s,h4,h5,h3⟩
   .rintro⟨i,j,s⟩ ⟨a1,a2,a3,a4,a5,a6,a7⟩;simp only at a1 a2 a3 a4 a5 a6 a7;by_cases hj:k+j<l.length
    .left;have c1:s[k+j]? =l[k+j]? :=by have:=congrArg (fun q=>q[1]?) a7;simp only[Cl] at this;rwa[show k+j - 1+1=k+j by omega] at this
     have c0:s[k+j - 1]? =l[k+j - 1]? :=by have:=congrArg (fun q=>q[0]?) a7;simpa only[Cl,E4] using this
     have g1:l[k+j]? =some (l[k+j]'hj):=B0 hj;have g0:l[k+j - 1]? =some (l[k+j - 1]'(by omega)):=B0 (by omega);have tk:l.take (k+(j+1))=l.take (k+j)++[l[k+j]'hj]:=by rw[show k+(j+1)=(k+j)+1 by omega,Dr,g1];rfl
     have ne:l.take (k+j)≠[]:=by intro h;have:=congrArg List.length h;rw[Cw,C3] at this;omega
     have gl:(l.take (k+j)).getLast ne=l[k+j - 1]'(by omega):=by rw[Lf];simp only[Af2,Cw];congr 1;omega
     have cs:=Qb eq2 (l[k+j]'hj) (l.take (k+j)) ne;rw[<-tk,gl] at cs;have hc:=h (l[k+j]'hj) (Er _) (l[k+j - 1]'(by omega)) (Er _);generalize l[k+j]'hj=x at*;generalize l[k+j - 1]'(by omega)=y at*;have hjj:(j:Int)<(s.length:Int) - (k:Int):=by omega
     have i1:H6 16 (B6 s) (.i .i64 ((k:Int)+(j:Int)))=some x.pv:=by rw[L0 _ _ _ (by omega),show ((k:Int)+(j:Int)).toNat=k+j by omega,c1,g1];rfl
     have i0:H6 16 (B6 s) (.i .i64 ((k:Int)+((j:Int) - 1)))=some y.pv:=by rw[L0 _ _ _ (by omega),show ((k:Int)+((j:Int) - 1)).toNat=k+j - 1 by omega,c0,g0];rfl
     have ls:Jx 16 (B6 s) (.i .i64 (k:Int)) (.i .i64 (s.length:Int))=some (B6 (s.drop k)):=by rw[Jw _ _ _ _ _ (by omega) (by omega) (by omega)];simp
     have e1:(s.drop k)[j]? =some x:=by rw[Cl,c1,g1]
     have e0:(s.drop k)[j - 1]? =some y:=by rw[Cl,show k+(j - 1)=k+j - 1 by omega,c0,g0]
     have si:∃w,s[i]? =some w:=⟨_,B0 (by omega)⟩;obtain⟨w,si⟩:=si;have ej:((j:Int) - 1).toNat=j - 1:=by omega
     by_cases hxy:eq2 x y=true
     .refine⟨(i,j+1,s),?_,⟨by simp,by simp only;omega,by simp only;omega,a4,?_,?_,?_⟩,by simp only;omega⟩
      .simp(disch:=omega)only[R6,hjj,i1,i0,ls,e1,e0,ej,hc,hxy,EVT,Ay,simprocAttr]
      .simp only;rw[cs,a5];simp[hxy]
      .simp only;rw[cs,Bt,a6];simp[hxy]
      .simp only;rw[show k+(j+1) - 1=(k+j - 1)+1 by omega,<-D6,<-D6,a7]
     .refine⟨(i+1,j+1,s.set i x),?_,⟨by simp,by simp only;omega,by simp only;omega,by simpa using a4,?_,?_,?_⟩,by simp only;omega⟩
      .simp(disch:=omega)only[R6,hjj,i1,i0,ls,e1,e0,ej,si,hc,hxy,EVT,Ay,simprocAttr]
      .simp only;rw[cs,Dr,M0 (by omega),List.take_set_of_le (by omega),a5];simp[hxy]
      .simp only;rw[cs,Bt,a6];simp[hxy]
      .simp only;rw[show k+(j+1) - 1=(k+j - 1)+1 by omega,Wt (by omega),<-D6,<-D6,a7]
    .right;have ek:k+j=l.length:=by omega
     rw[ek,Eh] at a5 a6;have hjj:¬(j:Int)<(s.length:Int) - (k:Int):=by omega
     refine⟨.yld 2 [.i .i64 (i:Int),B6 s],?_,rfl,s,a4,by rw[a6];exact a5,by rw[a6]⟩;simp(disch:=omega)only[R6,hjj,EVT,Ay,simprocAttr]
  have key:Dd5.ev S (l.length+2) [B6 l,.f g caps]=some (if cpt eq2 l=l then .yld 0 [B6 l] else .ret [B6 (cpt eq2 l)]):=by
   have:=Jy (fn:=S) (N:=l.length+2) (J:=[B6 l,.f g caps]) (id:=1) (init:=[(.c (.i .i64 (1))),(.v 0)]) (body:=Ac8) (α:=Nat)
    (fun k=>[.i .i64 (k:Int),B6 l]) (fun o=>o=if cpt eq2 l=l then .yld 0 [B6 l] else .ret [B6 (cpt eq2 l)])
    (fun k=>1<=k∧k<=l.length∧cpt eq2 (l.take k)=l.take k) (fun k=>l.length - k) 1 (by simp(disch:=omega)only[EVT,Ay,simprocAttr])
    ⟨B7 1,by omega,by cases l with
     |nil=>simp at h2
     |cons x r=>rfl⟩ (by omega) ?_
   .obtain⟨o,h3,h4⟩:=this;rw[<-h4];exact h3
   .rintro k ⟨k1,k2,k3⟩;by_cases hk:k<l.length
    .have g1:l[k]? =some l[k]:=B0 hk;have g0:l[k - 1]? =some (l[k - 1]'(by omega)):=B0 (by omega);have tk:l.take (k+1)=l.take k++[l[k]]:=by rw[Dr,g1];rfl
     have ne:l.take k≠[]:=by intro h;have:=congrArg List.length h;rw[Cw,C3] at this;omega
     have gl:(l.take k).getLast ne=l[k - 1]'(by omega):=by rw[Lf];simp only[Af2,Cw];congr 1;omega
     have cs:=Qb eq2 l[k] (l.take k) ne;rw[<-tk,gl,k3] at cs;have hkk:(k:Int)<(l.length:Int):=by omega
     have i1:H6 16 (B6 l) (.i .i64 (k:Int))=some (l[k]).pv:=by rw[L0 _ _ _ (by omega),show ((k:Int)).toNat=k by omega,g1];rfl
     have i0:H6 16 (B6 l) (.i .i64 ((k:Int) - 1))=some (l[k - 1]'(by omega)).pv:=by rw[L0 _ _ _ (by omega),show ((k:Int) - 1).toNat=k - 1 by omega,g0];rfl
     have hc:=h l[k] (Er _) (l[k - 1]'(by omega)) (Er _);by_cases hxy:eq2 l[k] (l[k - 1]'(by omega))=true
     .right;have cs':cpt eq2 (l.take (k+1))=l.take k:=by rw[cs];simp[hxy]
      obtain⟨s,s1,s2,s3⟩:=inner k k1 hk cs';have hlt:cpt eq2 l≠l:=by
       intro h;have q:(cpt eq2 l).length<=(cpt eq2 (l.take (k+1))).length+(l.drop (k+1)).length:=by
        have:∀(b a:List Rec),a≠[]->(cpt eq2 (a++b)).length<=(cpt eq2 a).length+b.length:=by
         intro b
         induction b with
         |nil=>intro a _;simp
         |cons x r ih=>
          intro a ha;have h1:=ih (a++[x]) (by simp);rw[Qb _ _ _ ha] at h1;rw[show a++x::r=a++[x]++r by simp];refine Dt h1 ?_;rw[Bt];split<;>simp<;>omega
        have h3:=this (l.drop (k+1)) (l.take (k+1)) (by intro h;have:=congrArg List.length h;rw[Cw,C3] at this;omega);rwa[C7] at h3
       rw[h,cs',Cw,Dy] at q;omega
      have hlen:=lg eq2 l;refine⟨.ret [B6 (cpt eq2 l)],?_,rfl,by rw[if_neg hlt]⟩;generalize cpt eq2 l=fl at*;have ls:Jx 16 (B6 l) (.i .i64 (k:Int)) (.i .i64 (l.length:Int))=some (B6 (l.drop k)):=by rw[Jw _ _ _ _ _ (by omega) (by omega) (by omega)];simp
      have hsl1:Jx 16 (B6 s) (.i .i64 ((fl.length:Nat):Int)) (.i .i64 (s.length:Int))=some (B6 (s.drop fl.length)):=by rw[Jw _ _ _ _ _ (by omega) (by omega) (by omega)];simp
      have hsl2:Jx 16 (B6 s) (.i .i64 0) (.i .i64 ((fl.length:Nat):Int))=some (B6 fl):=by rw[Jw _ _ _ _ _ (by omega) (by omega) (by omega)];simp[s2]
      have hrep:Ov 16 (.i .i64 ((s.length:Int) - (fl.length:Int))) Af3=some (B6 (List.replicate (s.length - fl.length) zr)):=by rw[Am1 _ (by omega) (by omega)];congr 3;omega
      have happ:Jh 16 (B6 fl) (B6 (List.replicate (s.length - fl.length) zr))=some (B6 (fl++List.replicate (s.length - fl.length) zr)):=J4 _ _ (by simp;omega);have hsl3:Jx 16 (B6 (fl++List.replicate (s.length - fl.length) zr)) (.i .i64 0) (.i .i64 ((fl.length:Nat):Int))=some (B6 fl):=by rw[Jw _ _ _ _ _ (by omega) (by omega) (by simp;omega)];simp
      simp(disch:=omega)only[R6,hkk,i1,i0,hc,hxy,ls,s3,hsl1,hsl2,hrep,happ,hsl3,EVT,Ay,simprocAttr]
     .left;refine⟨k+1,?_,⟨by omega,by omega,?_⟩,by omega⟩
      .simp(disch:=omega)only[R6,hkk,i1,i0,hc,hxy,EVT,Ay,simprocAttr]
      .rw[cs,tk];simp[hxy]
    .right;have e:k=l.length:=by omega
     subst e;rw[Eh] at k3;refine⟨_,?_,?_,rfl⟩
     .rw[if_pos k3];simp(disch:=omega)only[R6,EVT,Ay,simprocAttr]
     .rw[if_pos k3];rfl
  by_cases hh:cpt eq2 l=l
  .rw[if_pos hh] at key;rw[hh];simp(disch:=omega)only[R6,h2,key,EVT,Ay,simprocAttr]
  .rw[if_neg hh] at key;simp(disch:=omega)only[R6,h2,key,EVT,Ay,simprocAttr]
def Ej5 (r:Rec) (h:r.wf):S Eh5 1 [r.pv]=some [.b (T5 r)]:=by
 refine Id8 (N:=1) rfl ?_;have g:r.name.length<=9223372036854775807:=h.name;have h1:=Dx r.name g;have h2:=Ek r.typ;have h3:=dy r.typ r.data h.data;unfold T5;by_cases k0:0<=r.ttl<;>by_cases k1:r.ttl<=2147483647
 all_goals rcases ch3 (vld r.name) (knw r.typ) (Gc r.typ r.data) with e0|⟨e0,e1⟩|⟨e0,e1,e2⟩|⟨e0,e1,e2⟩
 all_goals simp only[*] at h1 h2 h3
 all_goals simp(disch:=omega)only[Iv0,kz,Hj,h1,h2,h3,EVC,xe,EVP,EV,simprocAttr, *]
 all_goals simp
def Ff1 (x:Int):S sk 1 [.i .i64 x]=some [.b false]:=by refine Hv8 (N:=1) rfl ?_;simp(disch:=omega)only[Gn8,Az,simprocAttr]
def Ek9 (a b:Int):S tv 2 [.i .i64 a,.i .i64 b]=some [.i .i64 (Bq2 a b)]:=by
 refine Hy1 (N:=1) rfl ?_;have h1:=Ff1 a;have h2:=Ff1 b;unfold Bq2;by_cases k1:a<b
 .simp(disch:=omega)only[Ck1,h1,h2,k1,Az,simprocAttr]
 .by_cases k2:b<a
  .simp(disch:=omega)only[Ck1,h1,h2,k1,k2,Az,simprocAttr]
  .simp(disch:=omega)only[Ck1,h1,h2,k1,k2,Az,simprocAttr]
def Am6 (a b:Rec) (ha:a.wf) (hb:b.wf):S t7 2 [a.pv,b.pv]=some [.i .i64 (af a b)]:=by
 refine Hc4 (N:=1) rfl ?_;have g1:a.name.length<=9223372036854775807:=ha.name;have g2:b.name.length<=9223372036854775807:=hb.name;have h1:=J0 a.name b.name g1 g2;have h2:=Ek9 a.typ b.typ;have h3:=Ad7 a.typ a.data b.data ha.data hb.data;unfold af;by_cases k1:Ky a.name b.name=0
 .by_cases k2:Bq2 a.typ b.typ=0
  .rw[k1] at h1;rw[k2] at h2;simp(disch:=omega)only[Ck5,kz,Hj,h1,h2,h3,Az,simprocAttr];simp[k1,k2]
  .rw[k1] at h1;simp(disch:=omega)only[Ck5,h1,h2,k2,Az,simprocAttr];simp[k1,k2]
 .simp(disch:=omega)only[Ck5,h1,k1,Az,simprocAttr]
def Ad4 (a b:Rec) (ha:a.wf) (hb:b.wf):S Dv3 2 [a.pv,b.pv]=some [.i .i64 (Gd9 a b)]:=by
 refine Iy9 (N:=1) rfl ?_;have h1:=Am6 a b ha hb;have h2:=Ek9 a.ttl b.ttl;unfold Gd9;by_cases k1:af a b=0
 .rw[k1] at h1;simp(disch:=omega)only[Gm7,h1,h2,Az,simprocAttr];simp[k1]
 .simp(disch:=omega)only[Gm7,h1,k1,Az,simprocAttr]
def Hr8:Cmp Dv3 [] Gd9 Rec.wf:=⟨fun x y hx hy=>Ad4 x y hx hy⟩
def En1:leC Gd9=leR:=rfl
def Fk6 (a b:Rec) (ha:a.wf) (hb:b.wf):S t8 2 [a.pv,b.pv]=some [.b (eqF a b)]:=by refine Hc5 (N:=1) rfl ?_;have h1:=Am6 a b ha hb;simp(disch:=omega)only[Gr8,h1,Az,simprocAttr]
def Bx0 (l:List Rec) (hw:∀r∈l,r.wf) (hl:l.length<=1000000):S Dw9 1 [B6 l]=some [B6 (sortR l)]:=by refine Id6 (N:=1) rfl ?_;have h0:=P0 l hl;obtain⟨r,h1,h2,h3⟩:=T1 Hr8 (by rw[En1];exact Ht9) l hw hl;rw[En1] at h1;have hm:=h1.mem Ht9;have h4:=Ad8 r t8 [] eqF (fun x hx y hy=>Fk6 x y (hw x ((hm x).1 hx)) (hw y ((hm y).1 hy))) (by omega);rw[Ah7 h1] at h4;simp(disch:=omega)only[Iq9,h0,h3,h4,Ey,Jk,EVT,Ay,simprocAttr]
def Gd3 {z:Zone} {n b:List UInt8} {c:Rec} (hI:b=[]∨under n b=true):(if(Em z c && under n c.name && (decide (b=[])||decide ((lbl c.name).length<(lbl b).length)))=true then c.name else b)=[]∨under n (if(Em z c && under n c.name && (decide (b=[])||decide ((lbl c.name).length<(lbl b).length)))=true then c.name else b)=true:=by
 split
 .rename_i h;simp only[Bp] at h;exact .inr h.1.2
 .exact hI
def Bt3 (z:Zone) (n:List UInt8) (hz:z.wf) (hl:z.recs.length<=1000000) (hn:n.length<=9223372036854775807):S Dw5 2 [z.pv,.s n]=some [.s (cutN z n),.b (decide (cutN z n≠[]))]:=by
 refine Ic5 (N:=z.recs.length+1) rfl ?_;have g1:=hz.origin;unfold T6 at g1;have key:Fy8.ev S (z.recs.length+1) [z.pv,.s n]=some (.yld 0 [.s (yz z n [] z.recs)]):=by
  refine E7 z.recs (fun i (b:List UInt8)=>[.s b,.i .i64 (i:Int)]) (fun i b r=> .yld 0 [.s (yz z n b r)]) (fun i b=>b=[]∨under n b=true) [] rfl (.inl rfl) (by omega) (fun i b c r hd hi hc hI=> ?_) (fun b hI=> ?_)
  .left;have g2:=(hz.recs.2 c (Cq hc)).name;unfold T6 at g2;refine⟨if Em z c && under n c.name && (decide (b=[])||decide ((lbl c.name).length<(lbl b).length)) then c.name else b,?_,Gd3 hI,rfl⟩;by_cases h1:c.typ=2
   .by_cases h2:c.name=z.origin
    .simp(disch:=omega)only[g7,hc,h1,h2,Ay,simprocAttr];simp[Em,Gz,h2]
    .have k1:=Fl c.name z.origin g2 g1;have k2:=Fl n c.name hn g2;rcases Bm (under c.name z.origin) with h3|h3
     .rcases Bm (under n c.name) with h4|h4
      .by_cases h5:b=[]
       .rw[h3] at k1;rw[h4] at k2;simp(disch:=omega)only[g7,hc,h1,h2,h3,h4,h5,k1,k2,Ay,simprocAttr];simp[Em,Gz,h1,h2,h3,h4,h5]
       .have hb:=hI.resolve_left h5;have e:=xw h4 hb;rw[h3] at k1;rw[h4] at k2;by_cases h6:c.name.length<b.length
        .have h7:=e.1 h6;have h8:(c.name.length:Int)<(b.length:Int):=by omega
         simp(disch:=omega)only[g7,hc,h1,h2,h3,h4,h5,h8,k1,k2,Ay,simprocAttr];simp[Em,Gz,h1,h2,h3,h4,h5,h7]
        .have h7:¬(lbl c.name).length<(lbl b).length:=fun q=>h6 (e.2 q);have h8:¬(c.name.length:Int)<(b.length:Int):=by omega
         simp(disch:=omega)only[g7,hc,h1,h2,h3,h4,h5,h8,k1,k2,Ay,simprocAttr];simp[Em,Gz,h1,h2,h3,h4,h5,h7]
      .rw[h3] at k1;rw[h4] at k2;simp(disch:=omega)only[g7,hc,h1,h2,h3,h4,k1,k2,Ay,simprocAttr];simp[Em,Gz,h1,h2,h3,h4]
     .rw[h3] at k1;simp(disch:=omega)only[g7,hc,h1,h2,h3,k1,Ay,simprocAttr];simp[Em,Gz,h1,h2,h3]
   .simp(disch:=omega)only[g7,hc,h1,Ay,simprocAttr];simp[Em,h1]
  .simp(disch:=omega)only[g7,Ay,simprocAttr];simp[yz,Out.goes]
 rw[show yz z n [] z.recs=cutN z n from rfl] at key;simp(disch:=omega)only[g7,key,Ay,simprocAttr]
 try simp
def cutsN (z:Zone):List (List UInt8):=setN ((z.recs.filter (Em z)).map Rec.name)
def Zt (z:Zone) (x:List UInt8):x∈cutsN z↔∃r∈z.recs,Em z r=true∧r.name=x:=by unfold cutsN;rw[M9,Ev];simp only[Cg,and_assoc]
def Ez5 {l:List (List UInt8)} (h:∀x∈l,x.length<=9223372036854775807):∀x∈setN l,x.length<=9223372036854775807:=fun x hx=>h x ((M9 l x).1 hx)
def Af4 (z:Zone) (hz:z.wf) (hl:z.recs.length<=1000000):S tp 1 [z.pv]=some [C8 (cutsN z)]:=by
 refine Hb8 (N:=z.recs.length+1) rfl ?_;have g1:=hz.origin;unfold T6 at g1;have key:Dd3.ev S (z.recs.length+1) [z.pv]=some (.yld 0 [C8 ([]++(z.recs.filter (Em z)).map Rec.name)]):=by
  refine E7 z.recs (fun i (b:List (List UInt8))=>[C8 b,.i .i64 (i:Int)]) (fun i b r=> .yld 0 [C8 (b++(r.filter (Em z)).map Rec.name)]) (fun i b=>b.length<=i) [] rfl (Df _) (by omega) (fun i b c r hd hi hc hI=> ?_) (fun b hI=> ?_)
  .left;have g2:=(hz.recs.2 c (Cq hc)).name;unfold T6 at g2;refine⟨if Em z c then b++[c.name] else b,?_,by split<;>(try rw[Bt,Ew])<;>omega,by rcases Bm (Em z c) with q|q<;>simp[q]⟩;by_cases h1:c.typ=2
   .by_cases h2:c.name=z.origin
    .simp(disch:=omega)only[c5,hc,h1,h2,Ay,simprocAttr];simp[Em,Gz,h2]
    .have k1:=Fl c.name z.origin g2 g1;rcases Bm (under c.name z.origin) with h3|h3
     .rw[h3] at k1;simp(disch:=omega)only[c5,hc,h1,h2,h3,k1,Ay,simprocAttr];simp[Em,Gz,h1,h2,h3]
     .rw[h3] at k1;simp(disch:=omega)only[c5,hc,h1,h2,h3,k1,Ay,simprocAttr];simp[Em,Gz,h1,h2,h3]
   .simp(disch:=omega)only[c5,hc,h1,Ay,simprocAttr];simp[Em,h1]
  .simp(disch:=omega)only[c5,Ay,simprocAttr];simp[Out.goes]
 rw[Dc] at key;have hlen:((z.recs.filter (Em z)).map Rec.name).length<=1000000:=by rw[E9];exact Dt (D4 _ _) hl
 have hw:∀x∈(z.recs.filter (Em z)).map Rec.name,x.length<=9223372036854775807:=fun x hx=>by obtain⟨r,hr,rfl⟩:=Ev.1 hx;exact(hz.recs.2 r (Cg.1 hr).1).name
 have k1:=m7 _ hlen hw;have k2:=Rc (((z.recs.filter (Em z)).map Rec.name).mergeSort fun x y=> !decide (Ky y x<0)) (by rw[yc];exact hlen);rw[show cpt eqs (((z.recs.filter (Em z)).map Rec.name).mergeSort fun x y=> !decide (Ky y x<0))=cutsN z from rfl] at k2;generalize ((z.recs.filter (Em z)).map Rec.name).mergeSort (fun x y=> !decide (Ky y x<0))=so at*;generalize (z.recs.filter (Em z)).map Rec.name=un at*;simp(disch:=omega)only[c5,key,k1,k2,Ey,Jk,Ay,simprocAttr]
def Cl8 (l:List Rec) (hl:l.length<=1000000) (hw:∀r∈l,r.wf):S Ar1 1 [B6 l]=some [C8 (setN (l.map Rec.name))]:=by
 refine Hx3 (N:=l.length+1) rfl ?_;have key:Dc1.ev S (l.length+1) [B6 l]=some (.yld 0 [C8 ([]++l.map Rec.name)]):=by
  refine E7 l (fun i (b:List (List UInt8))=>[C8 b,.i .i64 (i:Int)]) (fun i b r=> .yld 0 [C8 (b++r.map Rec.name)]) (fun i b=>b.length<=i) [] rfl (Df _) (by omega) (fun i b c r hd hi hc hI=> ?_) (fun b hI=> ?_)
  .left;refine⟨b++[c.name],?_,by simp;omega,by simp⟩;simp(disch:=omega)only[Cj8,hc,Ay,simprocAttr]
  .simp(disch:=omega)only[Cj8,Ay,simprocAttr];simp[Out.goes]
 rw[Dc] at key;have hlen:(l.map Rec.name).length<=1000000:=by rw[E9];exact hl
 have hw:∀x∈l.map Rec.name,x.length<=9223372036854775807:=fun x hx=>by obtain⟨r,hr,rfl⟩:=Ev.1 hx;exact(hw r hr).name
 have k1:=m7 _ hlen hw;have k2:=Rc ((l.map Rec.name).mergeSort fun x y=> !decide (Ky y x<0)) (by rw[yc];exact hlen);rw[show cpt eqs ((l.map Rec.name).mergeSort fun x y=> !decide (Ky y x<0))=setN (l.map Rec.name) from rfl] at k2;generalize setN (l.map Rec.name)=se at*;generalize (l.map Rec.name).mergeSort (fun x y=> !decide (Ky y x<0))=so at*;generalize l.map Rec.name=un at*;simp(disch:=omega)only[Cj8,key,k1,k2,Ey,Jk,Ay,simprocAttr]
def Ej9 (c owner:List UInt8) (hc:c.length<=9223372036854775807) (ho:owner.length<=9223372036854775807):S s9 1 [.s c,.s owner]=some [.b (decide (c≠owner) && under owner c)]:=by
 refine Hx2 (N:=1) rfl ?_;have k1:=Fl owner c ho hc;by_cases h:c=owner
 .simp(disch:=omega)only[Fq7,h,Ay,simprocAttr];simp
 .simp(disch:=omega)only[Fq7,h,k1,Ay,simprocAttr];simp
def Bt2 (z:Zone) (acc:List (List UInt8)) (n:List UInt8) (p1 p2 p3 p4 p5 p6:PV) (N:Nat) (hu:under n z.origin=true) (ha:acc.length<=1000000) (hN:1000<N) (hp2:H6 1 p2 p4=some (.s n)):
  Ak8.ev S N [z.pv,p1,p2,C8 acc,p4,p5,p6]=some (.yld 2 [C8 (acc++upN z.origin n)]):=by
 obtain⟨v1,v2,_⟩:=Ct.1 hu;have hlb:=Nz n;have h0:jn ((lbl n).drop 0)=n:=j9 v1;have e0:upN z.origin n=(upN z.origin n).take ((lbl n).length - (lbl z.origin).length+1):=by rw[E5];simp[upN]
 have:=Iq (fn:=S) (N:=N) (J:=[z.pv,p1,p2,C8 acc,p4,p5,p6]) (id:=3) (init:=[(.v 3),(.proj 0 (.idx 1 (.v 2) (.v 4)))]) (body:=Ab6) ((lbl n).length - (lbl z.origin).length) (fun k=>[C8 (acc++(upN z.origin n).take k),.s (jn ((lbl n).drop k))])
  (fun _=> .yld 2 [C8 (acc++upN z.origin n)]) ?_ (by omega) (fun k hk=> ?_) ?_
 .exact this
 .rw[h0];simp(disch:=omega)only[hp2,Ay,simprocAttr];simp
 .left;obtain⟨q1,q2⟩:=Cq1 hu hk;have q3:¬jn ((lbl n).drop k)=z.origin:=fun h=>by have:=(c7 hu (Nat.le_of_lt hk)).1 h;omega
  have q4:=ez v1 k;have k1:=Qm (jn ((lbl n).drop k)) (by omega);rw[q1,q2] at k1;have q5:(upN z.origin n).take (k+1)=(upN z.origin n).take k++[jn ((lbl n).drop k)]:=by rw[Dr,Q6 (Nat.le_of_lt hk)];rfl
  rw[q5,<-Cv];have q6:(acc++(upN z.origin n).take k).length<=1000300:=by rw[Bt,Cw];omega
  generalize acc++(upN z.origin n).take k=a at*;refine⟨?_,rfl⟩;generalize jn ((lbl n).drop (k+1))=nx at*;generalize jn ((lbl n).drop k)=cu at*;simp(disch:=omega)only[Xn,q3,k1,Ay,simprocAttr]
 .have q3:=(c7 hu (B7 _)).2 rfl;have q5:(upN z.origin n)=(upN z.origin n).take ((lbl n).length - (lbl z.origin).length)++[jn ((lbl n).drop ((lbl n).length - (lbl z.origin).length))]:=by have:=Dr (l:=upN z.origin n) (i:=(lbl n).length - (lbl z.origin).length);rw[Q6 (B7 _)] at this;rw[<-e0] at this;exact this
  rw[q3] at q5 ⊢;have q6:(acc++(upN z.origin n).take ((lbl n).length - (lbl z.origin).length)).length<=1000300:=by rw[Bt,Cw];omega
  refine⟨?_,rfl⟩
  conv=>rhs;rw[q5,<-Cv]
  generalize acc++(upN z.origin n).take ((lbl n).length - (lbl z.origin).length)=a at*;simp(disch:=omega)only[Xn,Ay,simprocAttr]
def Et2 (z:Zone) (owner:List UInt8):((cutsN z).any fun c=>decide (c≠owner) && under owner c)=Oz z owner:=by
 rw[D8];unfold Oz;simp only[Dj,Bp,decide_eq_true_eq,Zt];constructor
 .rintro⟨x,⟨r,hr,h1,rfl⟩,h2,h3⟩;exact⟨r,hr,⟨h1,h2⟩,h3⟩
 .rintro⟨r,hr,⟨h1,h2⟩,h3⟩;exact⟨r.name,⟨r,hr,h1,rfl⟩,h2,h3⟩
def Kc (z:Zone) (n:List UInt8):Bool:=under n z.origin && !Oz z n
def Xd (z:Zone) (hz:z.wf) (hl:z.recs.length<=1000):S d7 1 [z.pv]=some [C8 (namesN z)]:=by
 refine Hb7 (N:=z.recs.length+1001) rfl ?_;have g1:=hz.origin;unfold T6 at g1;have k1:=Af4 z hz (by omega);have k2:=Cl8 z.recs (by omega) (fun r hr=>hz.recs.2 r hr);have hol:(setN (z.recs.map Rec.name)).length<=z.recs.length:=by have:=Sy (z.recs.map Rec.name);rwa[E9] at this
 have how:∀x∈setN (z.recs.map Rec.name),x.length<=9223372036854775807:=Ez5 fun x hx=>by obtain⟨r,hr,rfl⟩:=Ev.1 hx;exact(hz.recs.2 r hr).name
 have hcl:(cutsN z).length<=1000000:=by have:=Sy ((z.recs.filter (Em z)).map Rec.name);rw[E9] at this;have h2:=D4 (Em z) z.recs;show (setN ((z.recs.filter (Em z)).map Rec.name)).length<=1000000;omega
 have hcw:∀x∈cutsN z,x.length<=9223372036854775807:=fun x hx=>by obtain⟨r,hr,_,rfl⟩:=(Zt z x).1 hx;exact(hz.recs.2 r hr).name
 have hmem:∀x,x∈((setN (z.recs.map Rec.name)).filter (Kc z)).flatMap (upN z.origin)↔Fb6 z x:=by
  intro x;unfold Fb6 Kc;simp only[List.mem_flatMap,Cg,M9,Ev,Bp,Cf];constructor
  .rintro⟨o,⟨⟨r,hr,rfl⟩,h1,h2⟩,h3⟩;obtain⟨h4,h5⟩:=(On h1).1 h3;exact⟨r,hr,h1,h2,h4,h5⟩
  .rintro⟨r,hr,h1,h2,h4,h5⟩;exact⟨r.name,⟨⟨r,hr,rfl⟩,h1,h2⟩,(On h1).2 ⟨h4,h5⟩⟩
 generalize hO:setN (z.recs.map Rec.name)=O at*;have key:Dd2.ev S (z.recs.length+1001) [z.pv,C8 (cutsN z),C8 O]=some (.yld 0 [C8 ([]++(O.filter (Kc z)).flatMap (upN z.origin))]):=by
  refine E7 O (fun i (b:List (List UInt8))=>[C8 b,.i .i64 (i:Int)]) (fun i b r=> .yld 0 [C8 (b++(r.filter (Kc z)).flatMap (upN z.origin))]) (fun i b=>b.length<=256*i) [] rfl (Df _) (by omega) (fun i b c r hd hi hc hI=> ?_) (fun b hI=> ?_)
  .left;have g2:=how c (Cq hc);have k3:=Fl c z.origin g2 g1;have hid:=Et2 z c;rcases Bm (under c z.origin) with h1|h1
   .have k4:=N8 (cutsN z) s9 [.s c] _ hcl (fun x hx=>Ej9 x c (hcw x hx) g2);rw[hid] at k4;rw[h1] at k3;rcases Bm (Oz z c) with h2|h2
    .refine⟨b,?_,by omega,by simp[Kc,h1,h2]⟩;rw[h2] at k4;generalize cutsN z=cz at*;simp(disch:=omega)only[Xn,hc,k3,k4,Ay,simprocAttr]
    .have hu:=ix z.origin c;refine⟨b++upN z.origin c,?_,by rw[Bt];omega,by simp[Kc,h1,h2]⟩;rw[h2] at k4;have k5:∀p5 p6,Ak8.ev S (z.recs.length+1001) [z.pv,C8 (cutsN z),C8 O,C8 b,.i .i64 (i:Int),p5,p6]=some (.yld 2 [C8 (b++upN z.origin c)]):=fun p5 p6=>Bt2 z b c _ _ (C8 b) _ p5 p6 _ h1 (by omega) (by omega) (by rw[Qx _ _ _ (by omega)];simp[hc]);generalize b++upN z.origin c=b' at*;generalize cutsN z=cz at*;simp(disch:=omega)only[Xn,hc,k3,k4,k5,Ay,simprocAttr]
   .refine⟨b,?_,by omega,by simp[Kc,h1]⟩;rw[h1] at k3;generalize cutsN z=cz at*;simp(disch:=omega)only[Xn,hc,k3,Ay,simprocAttr]
  .generalize cutsN z=cz at*;simp(disch:=omega)only[Xn,Ay,simprocAttr];simp[Out.goes]
 rw[Dc] at key;have hxl:((O.filter (Kc z)).flatMap (upN z.origin)).length<=256*O.length:=by
  have:∀l:List (List UInt8),(l.flatMap (upN z.origin)).length<=256*l.length:=by
   intro l
   induction l with
   |nil=>simp
   |cons x r ih=>
    have:=ix z.origin x;rw[Gj,Bt,Cy];omega
  refine Dt (this _) ?_;have:=D4 (Kc z) O;omega
 have hxw:∀x∈(O.filter (Kc z)).flatMap (upN z.origin),x.length<=9223372036854775807:=fun x hx=>by obtain⟨r,hr,_,_,h4,_⟩:=(hmem x).1 hx;have:=H4 (Ct.1 h4).2.1;omega
 have he:setN ((O.filter (Kc z)).flatMap (upN z.origin))=namesN z:=Eg0 z _ hmem;generalize (O.filter (Kc z)).flatMap (upN z.origin)=un at*;have k6:=m7 un (by omega) hxw;have k7:=Rc (un.mergeSort fun x y=> !decide (Ky y x<0)) (by rw[yc];omega);rw[show cpt eqs (un.mergeSort fun x y=> !decide (Ky y x<0))=setN un from rfl,he] at k7;generalize un.mergeSort (fun x y=> !decide (Ky y x<0))=so at*;generalize namesN z=nz at*;generalize cutsN z=cz at*;simp(disch:=omega)only[Xn,k1,k2,key,k6,k7,Ey,Jk,Ay,simprocAttr]
abbrev ltC:List UInt8×Int->List UInt8×Int->Prop:=fun p q=>ltB p.1 q.1∨(p.1=q.1∧p.2<q.2)
def to_C:TO ltC:=Eq5.prod Gt6
def ltQ (a b:Ques):Prop:=ltC (a.name,a.typ) (b.name,b.typ)
def to_Q:TO ltQ where
 irr:=fun a=>to_C.irr _
 tr:=fun a b c=>to_C.tr _ _ _
 tri:=fun a b=>by
  rcases to_C.tri (a.name,a.typ) (b.name,b.typ) with h|h|h
  .exact .inl h
  .injection h with h1 h2;refine .inr (.inl ?_);cases a;cases b;simp only at h1 h2;rw[h1,h2]
  .exact .inr (.inr h)
def Aw6 (a b:Ques):Int:=if(Op.bytesLess a.name b.name||(decide (a.name=b.name) && decide (a.typ<b.typ)))=true then -1 else if a=b then 0 else 1
def It (a b:Ques):Aw6 a b<0↔ltQ a b:=by
 unfold Aw6 ltQ ltC;simp only;have e:(Op.bytesLess a.name b.name||(decide (a.name=b.name) && decide (a.typ<b.typ)))=true↔(ltB a.name b.name∨a.name=b.name∧a.typ<b.typ):=by simp only[Ck,Bp,decide_eq_true_eq,Z8]
 by_cases h:ltB a.name b.name∨a.name=b.name∧a.typ<b.typ
 .rw[if_pos (e.2 h)];simp[h]
 .rw[if_neg (fun q=>h (e.1 q))];simp only[h,iff_false];split<;>omega
def Aw5 (a b:Ques):S jp 2 [a.pv,b.pv]=some [.i .i64 (Aw6 a b)]:=by
 refine Iz3 (N:=1) rfl ?_;unfold Aw6;rcases Bm (Op.bytesLess a.name b.name) with h1|h1
 .simp(disch:=omega)only[Bt6,h1,Ay,simprocAttr];simp
 .by_cases h2:a.name=b.name
  .by_cases h3:a.typ<b.typ
   .rw[h2] at h1;simp(disch:=omega)only[Bt6,h1,h2,h3,Ay,simprocAttr];simp
   .rw[h2] at h1;by_cases h4:a=b
    .simp(disch:=omega)only[Bt6,h1,h2,h3,Ay,simprocAttr];simp[h4]
    .simp(disch:=omega)only[Bt6,h1,h2,h3,h4,Ay,simprocAttr];simp[h4]
  .have h4:¬a=b:=fun e=>h2 (by rw[e]);simp(disch:=omega)only[Bt6,h1,h2,h4,Ay,simprocAttr];simp[h4]
def Km (l:List Ques):PV:= .l 2 (l.map Ques.pv)
def Kn (l:List Ques):G2 (Km l)=some (.i .i64 (l.length:Int)):=by simp[Km,G2]
def Nc (l:List Ques) (k:IntKind) (z:Int) (h:0<=z):H6 2 (Km l) (.i k z)=(l[z.toNat]?).map Ques.pv:=by simp[Km,Wz _ _ _ _ h]
def Em2 (x:Ques):Kf 2 [x.pv]=some (Km [x]):=rfl
def Ej1 (l:List Ques) (x:Ques) (h:l.length+1<=1073741824):Jh 2 (Km l) (Km [x])=some (Km (l++[x])):=by have:=Ts 2 (l.map Ques.pv) [x.pv] (by simpa using h);simpa [Km] using this
def Am3:PV->PV->Int
 | .a [.s a,.i _ t],.a [.s b,.i _ u]=>Aw6 ⟨a,t⟩ ⟨b,u⟩
 |_,_=>0
def Fk5 (l:List Ques) (hl:l.length<=1000000):S Ak0 1048578 [Km l,.f jp []]=some [Km (l.mergeSort fun x y=> !decide (Aw6 y x<0))]:=by
 have hm:∀x∈l.map Ques.pv,∃a∈l,x=a.pv:=fun x hx=>by obtain⟨a,h1,h2⟩:=Ev.1 hx;exact⟨a,h1,h2.symm⟩
 have hc:∀a b:Ques,Am3 a.pv b.pv=Aw6 a b:=fun a b=>rfl;have h:=Al6 (tab:=tab) (xs:=Gz2) (ss:=il) (f:=Ak0) (s:=Fv8) Hj2 Hj7 (g:=jp) (caps:=[]) (l:=l.map Ques.pv) (by decide) (by simp;omega)
  (fun x hx=>by obtain⟨a,_,rfl⟩:=hm x hx;rfl) Am3
  (fun x hx y hy=>by obtain⟨a,ha,rfl⟩:=hm x hx;obtain⟨b,hb,rfl⟩:=hm y hy;exact Aw5 a b)
  (fun x hx=>by obtain⟨a,_,rfl⟩:=hm x hx;rw[hc,It];exact to_Q.irr a)
  (fun x hx y hy z hz h1 h2=>by obtain⟨a,_,rfl⟩:=hm x hx;obtain⟨b,_,rfl⟩:=hm y hy;obtain⟨c,_,rfl⟩:=hm z hz;rw[hc] at*;exact(It a c).2 (to_Q.tr _ _ _ ((It a b).1 h1) ((It b c).1 h2)))
  (fun x hx y hy z hz h1 h2=>by obtain⟨a,_,rfl⟩:=hm x hx;obtain⟨b,_,rfl⟩:=hm y hy;obtain⟨c,_,rfl⟩:=hm z hz;rw[hc] at*;exact fun h3=>to_Q.ntr (fun q=>h1 ((It a b).2 q)) (fun q=>h2 ((It b c).2 q)) ((It a c).1 h3))
  (fun x hx y hy h1 h2=>by
   obtain⟨a,_,rfl⟩:=hm x hx;obtain⟨b,_,rfl⟩:=hm y hy;rw[hc] at*;rcases to_Q.tri a b with q|q|q
   .exact absurd ((It a b).2 q) h1
   .rw[q]
   .exact absurd ((It b a).2 q) h2)
 have e:(l.map Ques.pv).mergeSort (fun x y=> !decide (Am3 y x<0))=(l.mergeSort fun x y=> !decide (Aw6 y x<0)).map Ques.pv:=(Ik5 (r:=fun x y=> !decide (Aw6 y x<0)) (s:=fun x y=> !decide (Am3 y x<0)) (f:=Ques.pv) fun a _ b _=>rfl).symm;rw[e] at h;exact h
def i9 (p:Option Ques) (n:Nat):List Ques->Bool
 |[]=>false
 |k::r=>if 64<(if p=some k then n+1 else 1) then true else i9 (some k) (if p=some k then n+1 else 1) r
def i8:∀(l:List Ques) (p:Ques) (n:Nat),(p::l).Pairwise (fun a b=>¬ltQ b a)->n<=64->(i9 (some p) n l=true↔(∃k,k≠p∧64<l.count k)∨64<n+l.count p)
 |[],p,n,_,hn=>by simp[i9];omega
 |k::r,p,n,hs,hn=>by
  obtain⟨h1,h2⟩:=Cd.1 hs;by_cases e:p=k
  .subst e;by_cases hg:64<n+1
   .simp only[i9,if_true,hg];refine⟨fun _=> .inr ?_,fun _=>trivial⟩;rw[Il];omega
   .simp only[i9,if_true,hg,if_false];rw[i8 r p (n+1) h2 (by omega),Il];constructor
    .rintro (⟨q,q1,q2⟩|q)
     .exact .inl ⟨q,q1,by rw[H1 (fun e=>q1 e.symm)];exact q2⟩
     .exact .inr (by omega)
    .rintro (⟨q,q1,q2⟩|q)
     .exact .inl ⟨q,q1,by rw[H1 (fun e=>q1 e.symm)] at q2;exact q2⟩
     .exact .inr (by omega)
  .have e':¬(some p=some k):=fun q=>e (by injection q);simp only[i9,if_neg e',show¬64<1 by omega,if_false];rw[i8 r k 1 h2 (by omega)];have hlt:ltQ p k:=by
    rcases to_Q.tri p k with q|q|q
    .exact q
    .exact absurd q e
    .exact absurd q (h1 k (.head _))
   have hno:∀y∈k::r,y≠p:=fun y hy q=>by
    subst q;rcases Cj.1 hy with q|hy
    .exact e q
    .exact(Cd.1 h2).1 y hy hlt
   have h0:(k::r).count p=0:=Ik7.2 fun hm=>hno p hm rfl;have h0r:r.count p=0:=Ik7.2 fun hm=>hno p (.tail _ hm) rfl;rw[h0];constructor
   .rintro (⟨q,q1,q2⟩|q)
    .refine .inl ⟨q,fun w=>by rw[w,h0r] at q2;omega,?_⟩;rw[H1 (fun w=>q1 w.symm)];exact q2
    .refine .inl ⟨k,fun w=>e w.symm,?_⟩;rw[Il];omega
   .rintro (⟨q,q1,q2⟩|q)
    .by_cases w:q=k
     .subst w;rw[Il] at q2;exact .inr (by omega)
     .rw[H1 (fun v=>w v.symm)] at q2;exact .inl ⟨q,w,q2⟩
    .omega
def Eb0 (l:List Ques) (hs:l.Pairwise (fun a b=>¬ltQ b a)):i9 none 0 l=true↔∃k,64<l.count k:=by
 cases l with
 |nil=>simp[i9]
 |cons k r=>
  have e:¬((none:Option Ques)=some k):=by simp
  simp only[i9,if_neg e,show¬64<1 by omega,if_false];rw[i8 r k 1 hs (by omega)];constructor
  .rintro (⟨q,q1,q2⟩|q)
   .exact⟨q,by rw[H1 (fun w=>q1 w.symm)];exact q2⟩
   .exact⟨k,by rw[Il];omega⟩
  .rintro⟨q,q2⟩;by_cases w:q=k
   .subst w;rw[Il] at q2;exact .inr (by omega)
   .rw[H1 (fun v=>w v.symm)] at q2;exact .inl ⟨q,w,q2⟩
def kyQ (r:Rec):Ques:=⟨r.name,r.typ⟩
def V6 (l:List Rec):Bool:=i9 none 0 ((l.map kyQ).mergeSort fun x y=> !decide (Aw6 y x<0))
def ln (n:List UInt8) (t:Int):∀l:List Rec,(l.map kyQ).count ⟨n,t⟩=(findR l n t).length
 |[]=>rfl
 |r::l=>by
  have ih:=ln n t l;unfold findR at ih ⊢;rw[Hq,Oj];by_cases h:isK n t r=true
  .rw[if_pos h];unfold isK at h;simp only[Bp,decide_eq_true_eq] at h;have:kyQ r=⟨n,t⟩:=by unfold kyQ;rw[h.1,h.2]
   rw[this,Il,ih,Cy]
  .rw[if_neg h];have:kyQ r≠⟨n,t⟩:=fun e=>h (by unfold kyQ at e;injection e with e1 e2;unfold isK;simp[e1,e2])
   rw[H1 this,ih]
def Gv6 (l:List Ques):(l.mergeSort fun x y=> !decide (Aw6 y x<0)).Pairwise (fun a b=>¬ltQ b a):=by
 have:=List.pairwise_mergeSort (le:=fun x y:Ques=> !decide (Aw6 y x<0)) (fun a b c h1 h2=>by
  simp only[Cf,decide_eq_false_iff_not,It] at h1 h2 ⊢;exact to_Q.ntr h2 h1) (fun a b=>by
  simp only[Ck,Cf,decide_eq_false_iff_not,It];rcases to_Q.tri a b with h|h|h
  .exact .inl (to_Q.asym h)
  .subst h;exact .inl (to_Q.irr a)
  .exact .inr (to_Q.asym h)) l
 refine this.imp fun {a b} h=> ?_;simpa only[Cf,decide_eq_false_iff_not,It] using h
def Bm9 (l:List Rec):V6 l= !(l.all fun r=>decide ((findR l r.name r.typ).length<=64)):=by
 rw[D8];unfold V6;rw[Eb0 _ (Gv6 _)];have hc:∀k,((l.map kyQ).mergeSort fun x y=> !decide (Aw6 y x<0)).count k=(l.map kyQ).count k:=fun k=>(List.mergeSort_perm _ _).count_eq k;simp only[hc,Cf,List.all_eq_false,decide_eq_true_eq];constructor
 .rintro⟨⟨n,t⟩,h⟩;rw[ln] at h;have hp:0<(findR l n t).length:=by omega
  obtain⟨x,hx⟩:=List.length_pos_iff_exists_mem.1 hp;obtain⟨h3,h4⟩:=Cg.1 hx;unfold isK at h4;simp only[Bp,decide_eq_true_eq] at h4;exact⟨x,h3,by rw[h4.1,h4.2];omega⟩
 .rintro⟨r,h1,h2⟩;exact⟨kyQ r,by show 64<(l.map kyQ).count ⟨r.name,r.typ⟩;rw[ln];omega⟩
def Bm8 (l:List Rec) (hl:l.length<=1000000):S Eh7 1 [B6 l]=some [.b (V6 l)]:=by
 obtain⟨N,hN⟩:∃N,N=l.length+1:=⟨_,rfl⟩;refine If1 (N:=N) rfl ?_;have k0:Fz5.ev S N [B6 l]=some (.yld 0 [Km (l.map kyQ)]):=by
  refine Gx l (fun i=>[Km ((l.take i).map kyQ),.i .i64 (i:Int)]) (fun i r=> .yld 0 [Km (l.map kyQ)]) rfl (by omega) (fun i c r hd hi hc=> ?_) ?_
  .left;refine⟨?_,rfl⟩;have e:(l.take (i+1)).map kyQ=(l.take i).map kyQ++[kyQ c]:=by rw[Dr,hc];simp
   have hsub:Lz 0 2 c.pv=some (kyQ c).pv:=rfl;have hlen:((l.take i).map kyQ).length<=1000000:=by rw[E9,Cw];omega
   rw[e];generalize (l.take i).map kyQ=a at*;simp(disch:=omega)only[g9,hc,hsub,Em2,Ej1,Kn,Nc,Ay,simprocAttr]
  .refine⟨?_,rfl⟩;have e:l.take l.length=l:=Eh;simp(disch:=omega)only[g9,e,Kn,Nc,Ay,simprocAttr]
 have hs:=Fk5 (l.map kyQ) (by simpa using hl);have hlen:((l.map kyQ).mergeSort fun x y=> !decide (Aw6 y x<0)).length=l.length:=by simp
 unfold V6;generalize ((l.map kyQ).mergeSort fun x y=> !decide (Aw6 y x<0))=ks at*;have k1:Fx7.ev S N [B6 l,Km (l.map kyQ),Km ks]=some (if i9 none 0 ks=true then .ret [.b true] else .yld 0 []):=by
  refine E7 ks (fun i (g:Nat)=>[.i .i64 (g:Int),.i .i64 (i:Int)]) (fun i g r=>if i9 (if i=0 then none else ks[i - 1]?) g r=true then .ret [.b true] else .yld 0 []) (fun i g=>g<=64) 0 ?_ (by omega) (by omega) (fun i g c r hd hi hc hg=> ?_) (fun g hg=> ?_)
  .simp(disch:=omega)only[Az,simprocAttr]
  .have hp:(if i=0 then none else ks[i - 1]?)=some c↔(0<i∧ks[i - 1]? =some c):=by
    by_cases h:i=0
    .simp[h]
    .simp[h];omega
   have hci:(if i+1=0 then none else ks[i+1 - 1]?)=some c:=by rw[if_neg (by omega),Ob,hc]
   have hsub:Lz 0 2 c.pv=some c.pv:=rfl;have eqq:∀x:Ques,Oy false true [.s,(.i .i64)] x.pv c.pv=some (.b (decide (x=c))):=fun x=>Ir2 false x c;by_cases hsame:0<i∧ks[i - 1]? =some c
   .have hp':=hp.2 hsame;have hi0:(0:Int)<(i:Int):=by omega
    have ei:((i:Int) - 1).toNat=i - 1:=by omega
    have ei2:(i:Int).toNat=i:=by omega
    by_cases hgt:64<g+1
    .right;have hgt':(64:Int)<(g:Int)+1:=by omega
     have er:i9 (if i=0 then none else ks[i - 1]?) g (c::r)=true:=by rw[hp'];simp[i9,hgt]
     rw[er];refine⟨?_,rfl⟩;simp(disch:=omega)only[g9,hc,hsame.2,hi0,ei,ei2,hgt',Kn,Nc,Ay,simprocAttr]
    .left;have hgt':¬(64:Int)<(g:Int)+1:=by omega
     refine⟨g+1,?_,by omega,?_⟩
     .simp(disch:=omega)only[g9,hc,hsame.2,hi0,ei,ei2,hgt',Kn,Nc,Ay,simprocAttr]
     .rw[hp',hci];simp[i9,hgt]
   .left;have hp':¬(if i=0 then none else ks[i - 1]?)=some c:=fun q=>hsame (hp.1 q);have ei:((i:Int) - 1).toNat=i - 1:=by omega
    have ei2:(i:Int).toNat=i:=by omega
    refine⟨1,?_,by omega,?_⟩
    .by_cases hi0:0<i
     .have hi0':(0:Int)<(i:Int):=by omega
      obtain⟨y,hy⟩:∃y,ks[i - 1]? =some y:=⟨_,B0 (by omega)⟩;have hyc:¬y=c:=fun q=>hsame ⟨hi0,by rw[hy,q]⟩;simp(disch:=omega)only[g9,hc,hy,hyc,hi0',ei,ei2,Kn,Nc,Ay,simprocAttr]
     .have hi0':¬(0:Int)<(i:Int):=by omega
      simp(disch:=omega)only[g9,hc,hi0',ei2,Kn,Nc,Ay,simprocAttr]
    .rw[hci];simp[i9,hp']
  .refine⟨?_,by simp[i9,Out.goes]⟩;have hlt:¬(ks.length:Int)<(ks.length:Int):=by omega
   simp(disch:=omega)only[g9,hlt,Kn,Nc,Ay,simprocAttr];simp[i9]
 have hrep:∃p,Ov 2 (.i .i64 (l.length:Int)) (Ques.pv ⟨[],0⟩)=some p:=by
  have h1:(l.length:Int)<=(LIM:Int):=by simp only[LIM];omega
  have h2:(Ques.pv ⟨[],0⟩).cells.length=2:=rfl;simp[Ov,h1,h2]
 obtain⟨p,hrep⟩:=hrep;rcases Bm (i9 none 0 ks) with h|h
 .rw[h,if_pos rfl] at k1;rw[h];simp(disch:=omega)only[g9,hrep,k0,hs,k1,Kn,Ey,Jk,Ay,simprocAttr]
 .rw[h,if_neg (by simp)] at k1;rw[h];simp(disch:=omega)only[g9,hrep,k0,hs,k1,Kn,Ey,Jk,Ay,simprocAttr]
def Bp7 (t:Int):S Ar3 1 [.i .i64 t]=some [.b (decide (t=6)||decide (t=5)||decide (t=39))]:=by
 refine Hx9 (N:=1) rfl ?_;by_cases h1:t=6
 .simp(disch:=omega)only[Ck0,h1,Az,simprocAttr];simp
 .by_cases h2:t=5
  .simp(disch:=omega)only[Ck0,h2,Az,simprocAttr];simp
  .simp(disch:=omega)only[Ck0,h1,h2,Az,simprocAttr];simp
def Ev5 (r:Rec) (t:Int):S t6 1 [r.pv,.i .i64 t]=some [.b (decide (r.typ=t))]:=by refine Hc0 (N:=1) rfl ?_;simp(disch:=omega)only[Gr5,Az,simprocAttr]
def M2 (g:List Rec) (t:Int) (hl:g.length<=1000000):S U0 2 [B6 g,.i .i64 t]=some [.b (H7 g t)]:=by refine Id2 (N:=1) rfl ?_;have h:=Hg g t6 [.i .i64 t] (fun r=>decide (r.typ=t)) hl (fun r _=>Ev5 r t);simp(disch:=omega)only[Iq8,h,Az,simprocAttr];rfl
def Lt (l:List Int):PV:= .l 1 (l.map (PV.i .i64))
def S6 (l:List Int):G2 (Lt l)=some (.i .i64 (l.length:Int)):=by simp[Lt,G2]
def kx (l:List Int) (k:IntKind) (z:Int) (h:0<=z):H6 1 (Lt l) (.i k z)=(l[z.toNat]?).map (PV.i .i64):=by simp[Lt,Wz _ _ _ _ h]
def ql (l:List Int):Dw 0 (Lt l)=some (Lt l):=rfl
def Cg6 (l:List Int):Jl (Lt l)=some (Lt l):=rfl
def Ek3 (l:List Int) (x:Int) (hl:l.length<=1000000):∃k:Int,(0<=k↔x∈l)∧S Ap6 2 [Lt l,.i .i64 x]=some [.i .i64 k]:=by
 have go:∀(i:Nat) (l:List Int),∃k:Int,k=(match l.findIdx? (·=x) with|some j=>((i+j:Nat):Int)|none=> -1)∧(0<=k↔x∈l):=by
  intro i l;refine⟨_,rfl,?_⟩;cases h:l.findIdx? (·=x) with
  |none=>
   rw[List.findIdx?_eq_none_iff] at h;simp only;constructor
   .intro h2;omega
   .intro h2;have:=h x h2;simp at this
  |some j=>
   simp only;constructor
   .intro _;rw[List.findIdx?_eq_some_iff_getElem] at h;obtain⟨h1,h2,_⟩:=h;simp at h2;rw[<-h2];exact Er _
   .intro _;omega
 obtain⟨k,hk,hk2⟩:=go 0 l;refine⟨k,hk2,?_⟩;refine Hv6 (N:=l.length+1) rfl ?_;have key:Db8.ev S (l.length+1) [Lt l,.i .i64 x]=some (match l.findIdx? (·=x) with|some j=> .ret [.i .i64 ((0+j:Nat):Int)]|none=> .yld 0 []):=by
  refine Gx l (fun i=>[.i .i64 (i:Int)]) (fun i r=>match r.findIdx? (·=x) with|some j=> .ret [.i .i64 ((i+j:Nat):Int)]|none=> .yld 0 []) rfl (by omega) (fun i c r hd hi hc=> ?_) ?_
  .by_cases h:x=c
   .right;subst h;simp(disch:=omega)only[oq,hc,S6,kx,Ay,simprocAttr];simp[Od,Out.goes]
   .left;have h':¬c=x:=fun e=>h e.symm;simp(disch:=omega)only[oq,hc,h,h',S6,kx,Ay,simprocAttr];refine⟨trivial,?_⟩;simp only[Od,h',decide_false,B5,if_false];cases r.findIdx? (·=x) with
    |none=>rfl
    |some j=>simp;omega
  .simp(disch:=omega)only[oq,S6,kx,Ay,simprocAttr];simp[Out.goes]
 rw[hk];cases h:l.findIdx? (·=x) with
 |none=>
  rw[h] at key;simp(disch:=omega)only[oq,key,S6,Ay,simprocAttr]
 |some j=>
  rw[h] at key;simp(disch:=omega)only[oq,key,S6,Ay,simprocAttr]
def xp (l:List Int) (x:Int) (hl:l.length<=1000000):S Ar2 2 [Lt l,.i .i64 x]=some [.b (decide (x∈l))]:=by refine Hx6 (N:=1) rfl ?_;obtain⟨k,h1,h2⟩:=Ek3 l x hl;simp(disch:=omega)only[Gp7,h2,Ay,simprocAttr];simp[h1]
def Bs9 (r:Rec) (ts:List Int) (hl:ts.length<=1000000):S tq 1 [r.pv,Lt ts]=some [.b (!decide (r.typ∈ts))]:=by refine Hx8 (N:=1) rfl ?_;have h:=xp ts r.typ hl;simp(disch:=omega)only[Gp8,ql,h,Az,simprocAttr]
def gr (g:List Rec) (ts:List Int) (hl:g.length<=1000000) (ht:ts.length<=1000000):S S1 2 [B6 g,Lt ts]=some [.b (Lb g ts)]:=by
 refine Hc1 (N:=1) rfl ?_;have h:=Hg g tq [Lt ts] (fun r=> !decide (r.typ∈ts)) hl (fun r _=>Bs9 r ts ht);have e:(!(g.any fun r=> !decide (r.typ∈ts)))=Lb g ts:=by unfold Lb;rw[List.not_any_eq_all_not];simp
 rw[<-e];generalize (g.any fun r=> !decide (r.typ∈ts))=b at*;simp(disch:=omega)only[Gr6,ql,Cg6,h,Az,simprocAttr]
def yg (g:List Rec) (hl:g.length<=1000000):S As6 1 [B6 g]=some [.b (Eq3 g)]:=by
 obtain⟨N,hN⟩:∃N,N=g.length+2:=⟨_,rfl⟩;refine Hc2 (N:=N) rfl ?_;have key:Dd4.ev S N [B6 g]=some (if Eq3 g=true then .yld 0 [] else .ret [.b false]):=by
  cases g with
  |nil=>
   refine Iq 0 (fun _=>[.i .i64 1]) (fun _=> .yld 0 []) ?_ (by omega) (fun i hi=>absurd hi (by omega)) ⟨?_,rfl⟩
   .simp(disch:=omega)only[Az,simprocAttr]
   .have hlt:¬(1:Int)<(([]:List Rec).length:Int):=by simp
    simp(disch:=omega)only[R5,hlt,Az,simprocAttr]
  |cons p r=>
   have hlr:(p::r).length=r.length+1:=rfl;have:=Gx (fn:=S) (N:=N) (J:=[B6 (p::r)]) (id:=1) (init:=[.c (.i .i64 1)]) (body:=Ac7) r (fun i=>[.i .i64 ((i:Int)+1)]) (fun i l=>if(match (p::r)[i]? with|some q=>c8 q l|none=>true)=true then .yld 0 [] else .ret [.b false]) ?_ (by omega) (fun i c l hd hi hc=> ?_) ?_
   .exact this
   .simp(disch:=omega)only[Az,simprocAttr]
    try rfl
   .obtain⟨q,hq⟩:∃q,(p::r)[i]? =some q:=⟨_,B0 (by rw[hlr];omega)⟩;have hc':(p::r)[i+1]? =some c:=by simpa using hc
    have e1:((i:Int)+1 - 1).toNat=i:=by omega
    have e2:((i:Int)+1).toNat=i+1:=by omega
    have hlt:(i:Int)+1<((p::r).length:Int):=by rw[hlr];omega
    have hsg:=Bp7 c.typ;rw[hq,hc'];generalize (p::r)=g' at*;have step:c8 q (c::l)=((!decide (c.typ=q.typ)||(!(decide (c.typ=6)||decide (c.typ=5)||decide (c.typ=39)) && (decide (c.typ=46)||decide (c.ttl=q.ttl)))) && c8 c l):=rfl;by_cases h1:c.typ=q.typ
    .rcases Bm (decide (c.typ=6)||decide (c.typ=5)||decide (c.typ=39)) with h2|h2
     .right;have er:c8 q (c::l)=false:=by rw[step,h2];simp[h1]
      rw[h2] at hsg;simp only[er,B5,if_false];refine⟨?_,rfl⟩;rw[h1] at hsg;simp(disch:=omega)only[R5,hlt,e1,e2,hq,hc',h1,hsg,Az,simprocAttr]
     .rw[h2] at hsg;rw[h2] at step;rw[h1] at hsg;by_cases h3:c.typ=46
      .left;have er:c8 q (c::l)=c8 c l:=by rw[step];simp[h3]
       have h3':q.typ=46:=by rw[<-h1];exact h3
       rw[h3'] at hsg;refine⟨?_,by simp only[er]⟩;simp(disch:=omega)only[R5,hlt,e1,e2,hq,hc',h1,h3',hsg,Az,simprocAttr]
       try simp
      .have h3':¬q.typ=46:=by rw[<-h1];exact h3
       by_cases h4:c.ttl=q.ttl
       .left;have er:c8 q (c::l)=c8 c l:=by rw[step];simp[h4]
        refine⟨?_,by simp only[er]⟩;simp(disch:=omega)only[R5,hlt,e1,e2,hq,hc',h1,h3',h4,hsg,Az,simprocAttr]
        try simp
       .right;have er:c8 q (c::l)=false:=by rw[step];simp[h1,h3',h4]
        simp only[er,B5,if_false];refine⟨?_,rfl⟩;simp(disch:=omega)only[R5,hlt,e1,e2,hq,hc',h1,h3',h4,hsg,Az,simprocAttr]
    .left;have er:c8 q (c::l)=c8 c l:=by rw[step];simp[h1]
     refine⟨?_,by simp only[er]⟩;simp(disch:=omega)only[R5,hlt,e1,e2,hq,hc',h1,Az,simprocAttr]
     try simp
   .have hlt:¬(r.length:Int)+1<((p::r).length:Int):=by rw[hlr];omega
    obtain⟨q,hq⟩:∃q,(p::r)[r.length]? =some q:=⟨_,B0 (by rw[hlr];omega)⟩;rw[hq];refine⟨?_,by simp[c8,Out.goes]⟩;generalize (p::r)=g' at*;simp(disch:=omega)only[R5,hlt,Az,simprocAttr];simp[c8]
 rcases Bm (Eq3 g) with h|h
 .rw[h,if_pos rfl] at key;rw[h];simp(disch:=omega)only[R5,key,Az,simprocAttr]
 .rw[h,if_neg (by simp)] at key;rw[h];simp(disch:=omega)only[R5,key,Az,simprocAttr]
def Ek4 (a b:List Rec) (ha:a.length<=1000000) (hb:b.length<=1000000):S Eh4 2 [B6 a,B6 b]=some [.b (decide (a=b))]:=by
 obtain⟨N,hN⟩:∃N,N=a.length+1:=⟨_,rfl⟩;refine Id7 (N:=N) rfl ?_;by_cases hl:a.length=b.length
 .have key:Fz4.ev S N [B6 a,B6 b]=some (if a.drop 0=b.drop 0 then .yld 0 [] else .ret [.b false]):=by
   refine Iq a.length (fun i=>[.i .i64 (i:Int)]) (fun i=>if a.drop i=b.drop i then .yld 0 [] else .ret [.b false]) rfl (by omega) (fun i hi=> ?_) ?_
   .have h1:a[i]? =some a[i]:=B0 hi;have h2:b[i]? =some b[i]:=B0 (by omega);have d1:a.drop i=a[i]::a.drop (i+1):=D9 hi;have d2:b.drop i=b[i]::b.drop (i+1):=D9 (by omega);rw[d1,d2];generalize a[i]=x at*;generalize b[i]'(by omega)=y at*;have hlt:(i:Int)<(a.length:Int):=by omega
    by_cases h:x=y
    .left;subst h;refine⟨?_,by simp⟩;simp(disch:=omega)only[Bx8,hlt,h1,h2,Az,simprocAttr]
     try simp
    .right;rw[if_neg (by simp[h])];refine⟨?_,rfl⟩;simp(disch:=omega)only[Bx8,hlt,h1,h2,h,Az,simprocAttr]
   .have hlt:¬(a.length:Int)<(a.length:Int):=by omega
    have e:a.drop a.length=b.drop a.length:=by rw[List.drop_length,hl,List.drop_length]
    rw[if_pos e];refine⟨?_,rfl⟩;simp(disch:=omega)only[Bx8,hlt,Az,simprocAttr]
  have hl':(a.length:Int)=(b.length:Int):=by omega
  rw[F6,F6] at key;by_cases h:a=b
  .rw[if_pos h] at key;have e:decide (a=b)=true:=by simp[h]
   rw[e];simp(disch:=omega)only[Bx8,hl',key,Az,simprocAttr]
  .rw[if_neg h] at key;have e:decide (a=b)=false:=by simp[h]
   rw[e];simp(disch:=omega)only[Bx8,hl',key,Az,simprocAttr]
 .have hl':¬(a.length:Int)=(b.length:Int):=by omega
  have e:decide (a=b)=false:=decide_eq_false fun q=>hl (by rw[q]);rw[e];simp(disch:=omega)only[Bx8,hl',Az,simprocAttr]
section
variable (o cut red:List UInt8) (g:List Rec) (x:Rec) (N:Nat)
def By6 (n:List UInt8):Bool:=decide (n[0]? =some 42)
def Ig8 (hx:g[0]? =some x) (hl:g.length<=1000000) (hn:x.name≠[]) (p4 p5 p6 p7 p8 p9 p10 p11 p12 p13:PV):
  Dr1.ev S N [.s o,B6 g,.s cut,.s red,p4,p5,p6,p7,p8,p9,p10,p11,p12,p13]=some (.ret [.b (!By6 x.name||(!H7 g 2 && !H7 g 39))]):=by
 have k2:=M2 g 2 hl;have k39:=M2 g 39 hl;obtain⟨c,hc⟩:∃c,x.name[0]? =some c:=⟨_,B0 (C1.2 hn)⟩;unfold By6;rw[hc];by_cases h1:c=42
 .have h1':(c.toNat:Int)=42:=by rw[h1];rfl
  rcases Bm (H7 g 2) with h2|h2
  .rw[h2] at k2;simp(disch:=omega)only[Fg0,hx,hc,h1',k2,Az,simprocAttr];simp[h1,h2]
  .rw[h2] at k2;simp(disch:=omega)only[Fg0,hx,hc,h1',k2,k39,Az,simprocAttr];simp[h1,h2]
 .have h1':¬(c.toNat:Int)=42:=fun q=>h1 (UInt8.toNat_inj.1 (show c.toNat=42 by omega));simp(disch:=omega)only[Fg0,hx,hc,h1',Az,simprocAttr];simp[h1]
def Ig7 (hx:g[0]? =some x) (hl:g.length<=1000000) (hn:x.name≠[]) (p4 p5 p6 p7 p8 p9 p10:PV):
  Bq9.ev S N [.s o,B6 g,.s cut,.s red,p4,p5,p6,p7,p8,p9,p10]=some (.ret [.b ((if(!decide (x.name=o) && H7 g 2)=true then Lb g [2,43,47,46,1,28] else !H7 g 43) && (!By6 x.name||(!H7 g 2 && !H7 g 39)))]):=by
 have k2:=M2 g 2 hl;have k43:=M2 g 43 hl;have kd:S S1 2 [B6 g,.l 1 [.i .i64 2,.i .i64 43,.i .i64 47,.i .i64 46,.i .i64 1,.i .i64 28]]=some [.b (Lb g [2,43,47,46,1,28])]:=gr g [2,43,47,46,1,28] hl (by decide);have hlit:Kf 1 [.i .i64 2,.i .i64 43,.i .i64 47,.i .i64 46,.i .i64 1,.i .i64 28]=some (.l 1 [.i .i64 2,.i .i64 43,.i .i64 47,.i .i64 46,.i .i64 1,.i .i64 28]):=rfl;have t:=fun p11 p12 p13=>Ig8 o cut red g x N hx hl hn p4 p5 p6 p7 p8 p9 p10 p11 p12 p13;have x7:=Ch Bq9.eq_1;have x6:=Ch Dn0.eq_1;have x5:=Ch Dn3.eq_1;have x4:=Ch Dn9.eq_1;have x3:=Ch Dp3.eq_1;by_cases h0:x.name=o
 .rcases Bm (H7 g 43) with h1|h1<;>rw[h1] at k43<;>simp(disch:=omega)only[x7,x6,x5,x4,x3,t,hx,h0,k43,hlit,Az,simprocAttr]<;>simp[h1]
 .rcases Bm (H7 g 2) with h2|h2
  .rw[h2] at k2;rcases Bm (Lb g [2,43,47,46,1,28]) with h3|h3<;>rw[h3] at kd<;>simp(disch:=omega)only[x7,x6,x5,x4,x3,t,hx,h0,k2,kd,hlit,Az,simprocAttr]<;>simp[h0,h2,h3]
  .rw[h2] at k2;rcases Bm (H7 g 43) with h1|h1<;>rw[h1] at k43<;>simp(disch:=omega)only[x7,x6,x5,x4,x3,t,hx,h0,k2,k43,hlit,Az,simprocAttr]<;>simp[h0,h1,h2]
def Hf1 (hx:g[0]? =some x) (hl:g.length<=1000000) (hn:x.name≠[]) (p4 p5 p6 p7:PV):
  mj.ev S N [.s o,B6 g,.s cut,.s red,p4,p5,p6,p7]=some (.ret [.b ((!H7 g 5||Lb g [5,46,47]) && decide (red=[]) && (decide (cut=[])||Lb g [1,28]) && ((if(!decide (x.name=o) && H7 g 2)=true then Lb g [2,43,47,46,1,28] else !H7 g 43) && (!By6 x.name||(!H7 g 2 && !H7 g 39))))]):=by
 have k5:=M2 g 5 hl;have kc:S S1 2 [B6 g,.l 1 [.i .i64 5,.i .i64 46,.i .i64 47]]=some [.b (Lb g [5,46,47])]:=gr g [5,46,47] hl (by decide);have ka:S S1 2 [B6 g,.l 1 [.i .i64 1,.i .i64 28]]=some [.b (Lb g [1,28])]:=gr g [1,28] hl (by decide);have hlit1:Kf 1 [.i .i64 5,.i .i64 46,.i .i64 47]=some (.l 1 [.i .i64 5,.i .i64 46,.i .i64 47]):=rfl;have hlit2:Kf 1 [.i .i64 1,.i .i64 28]=some (.l 1 [.i .i64 1,.i .i64 28]):=rfl;have t:=fun p8 p9 p10=>Ig7 o cut red g x N hx hl hn p4 p5 p6 p7 p8 p9 p10;generalize ((if(!decide (x.name=o) && H7 g 2)=true then Lb g [2,43,47,46,1,28] else !H7 g 43) && (!By6 x.name||(!H7 g 2 && !H7 g 39)))=B at*;have x13:=Ch mj.eq_1;have x12:=Ch Az6.eq_1;have x11:=Ch Az7.eq_1;have x10:=Ch Az8.eq_1;have x9:=Ch Dm8.eq_1;have x8:=Ch Dm9.eq_1;rcases Bm (H7 g 5) with h1|h1<;>rw[h1] at k5
 .rcases Bm (Lb g [5,46,47]) with h2|h2<;>rw[h2] at kc
  .by_cases h3:red=[]
   .replace h3:=eq_true h3;by_cases h4:cut=[]
    .replace h4:=eq_true h4;simp(disch:=omega)only[x13,x12,x11,x10,x9,x8,t,k5,kc,h3,h4,hlit1,hlit2,Az,simprocAttr]
     (clear x13 x12 x11 x10 x9 x8 t;simp[*])
    .rcases Bm (Lb g [1,28]) with h5|h5<;>rw[h5] at ka<;>simp(disch:=omega)only[x13,x12,x11,x10,x9,x8,t,k5,kc,ka,h3,h4,hlit1,hlit2,Az,simprocAttr]<;>(clear x13 x12 x11 x10 x9 x8 t;simp[*])
   .simp(disch:=omega)only[x13,x12,x11,x10,x9,x8,t,k5,kc,h3,hlit1,hlit2,Az,simprocAttr]
    (clear x13 x12 x11 x10 x9 x8 t;simp[*])
  .simp(disch:=omega)only[x13,x12,x11,k5,kc,hlit1,hlit2,Az,simprocAttr]
   (clear x13 x12 x11 x10 x9 x8 t;simp[*])
 .by_cases h3:red=[]
  .replace h3:=eq_true h3;by_cases h4:cut=[]
   .replace h4:=eq_true h4;simp(disch:=omega)only[x13,x12,x11,x10,x9,x8,t,k5,h3,h4,hlit1,hlit2,Az,simprocAttr]
    (clear x13 x12 x11 x10 x9 x8 t;simp[*])
   .rcases Bm (Lb g [1,28]) with h5|h5<;>rw[h5] at ka<;>simp(disch:=omega)only[x13,x12,x11,x10,x9,x8,t,k5,ka,h3,h4,hlit1,hlit2,Az,simprocAttr]<;>(clear x13 x12 x11 x10 x9 x8 t;simp[*])
  .simp(disch:=omega)only[x13,x12,x11,x10,x9,x8,t,k5,h3,hlit1,hlit2,Az,simprocAttr]
   (clear x13 x12 x11 x10 x9 x8 t;simp[*])
end
def Bx2 (o cut red:List UInt8) (g:List Rec) (hg:g≠[]) (hl:g.length<=1000000) (ho:o.length<=9223372036854775807) (hn:(nmG g).length<=9223372036854775807):
  S Eh2 4 [.s o,B6 g,.s cut,.s red]=some [.b (propG o g (decide (cut≠[])) (decide (red≠[])))]:=by
 obtain⟨x,r,rfl⟩:∃x r,g=x::r:=by
  cases g with
  |nil=>exact absurd rfl hg
  |cons x r=>exact⟨x,r,rfl⟩
 have hx:(x::r)[0]? =some x:=rfl;have hnm:nmG (x::r)=x.name:=rfl;rw[hnm] at hn;unfold propG;rw[hnm];generalize (x::r)=g at*;obtain⟨N,hN⟩:∃N,N=1:=⟨_,rfl⟩;refine Id3 (N:=N) rfl ?_;have hu:=Fl x.name o hn ho;have k6:=M2 g 6 hl;have k2:=M2 g 2 hl;have ku:=yg g hl;have xt:=Ch Ex5.eq_1;have x18:=Ch Ay7.eq_1;have x17:=Ch Ay9.eq_1;have x16:=Ch Az0.eq_1;have x15:=Ch Az2.eq_1;have x14:=Ch Az3.eq_1;have e1:decide (cut≠[])= !decide (cut=[]):=by simp
 have e2:decide (red≠[])= !decide (red=[]):=by simp
 rw[e1,e2,Bool.not_not,Bool.not_not];rcases Bm (under x.name o) with h0|h0<;>rw[h0] at hu
 .have hne:x.name≠[]:=yf (Ct.1 h0).1;have t:=fun p4 p5 p6 p7=>Hf1 o cut red g x N hx hl hne p4 p5 p6 p7;have eS:By6 x.name=decide (x.name[0]? =some 42):=rfl;rw[eS] at t;generalize hA:(!H7 g 5||Lb g [5,46,47])=A at*;generalize hB:(if(!decide (x.name=o) && H7 g 2)=true then Lb g [2,43,47,46,1,28] else !H7 g 43)=B at*;generalize hC:(!decide (x.name[0]? =some 42)||(!H7 g 2 && !H7 g 39))=C at*;generalize decide (red=[])=D at*;generalize (decide (cut=[])||Lb g [1,28])=E' at*;clear hB hC hA;rcases Bm (H7 g 6) with h6|h6<;>rw[h6] at k6
  .by_cases hno:x.name=o
   .replace hno:=eq_true hno;rcases Bm (Eq3 g) with h1|h1<;>rw[h1] at ku
    .rcases Bm (H7 g 2) with h2|h2<;>rw[h2] at k2
     .simp(disch:=omega)only[xt,x18,x17,x16,x15,x14,t,hx,hu,k6,hno,ku,k2,Az,simprocAttr]
      (clear xt x18 x17 x16 x15 x14 t;simp[*,Bool.and_assoc])
     .simp(disch:=omega)only[xt,x18,x17,x16,x15,x14,t,hx,hu,k6,hno,ku,k2,Az,simprocAttr]
      (clear xt x18 x17 x16 x15 x14 t;simp[*])
    .simp(disch:=omega)only[xt,x18,x17,x16,x15,x14,t,hx,hu,k6,hno,ku,Az,simprocAttr]
     (clear xt x18 x17 x16 x15 x14 t;simp[*])
   .simp(disch:=omega)only[xt,x18,x17,x16,x15,x14,t,hx,hu,k6,hno,Az,simprocAttr]
    (clear xt x18 x17 x16 x15 x14 t;simp[*])
  .by_cases hno:x.name=o
   .replace hno:=eq_true hno;simp(disch:=omega)only[xt,x18,x17,x16,x15,x14,t,hx,hu,k6,hno,Az,simprocAttr]
    (clear xt x18 x17 x16 x15 x14 t;simp[*])
   .rcases Bm (Eq3 g) with h1|h1<;>rw[h1] at ku
    .simp(disch:=omega)only[xt,x18,x17,x16,x15,x14,t,hx,hu,k6,hno,ku,Az,simprocAttr]
     (clear xt x18 x17 x16 x15 x14 t;simp[*,Bool.and_assoc])
    .simp(disch:=omega)only[xt,x18,x17,x16,x15,x14,t,hx,hu,k6,hno,ku,Az,simprocAttr]
     (clear xt x18 x17 x16 x15 x14 t;simp[*])
 .simp(disch:=omega)only[xt,x18,x17,x16,x15,x14,hx,hu,Az,simprocAttr]
  (clear xt x18 x17 x16 x15 x14;simp[*])
def Iz (gs:List (List Rec)):PV:= .l 1 (gs.map B6)
def S7 (l:List (List Rec)):G2 (Iz l)=some (.i .i64 (l.length:Int)):=by simp[Iz,G2]
def Gs (l:List (List Rec)) (k:IntKind) (z:Int) (h:0<=z):H6 1 (Iz l) (.i k z)=(l[z.toNat]?).map B6:=by simp[Iz,Wz _ _ _ _ h]
def Dy3 (x:List Rec):Kf 1 [B6 x]=some (Iz [x]):=rfl
def xk (l:List (List Rec)) (x:List Rec) (h:l.length+1<=1073741824):Jh 1 (Iz l) (Iz [x])=some (Iz (l++[x])):=by have:=Ts 1 (l.map B6) [B6 x] (by simpa using h);simpa [Iz] using this
def Gj2 {α:Type} (l:List α) (s i:Nat) (c:α) (h:l[i]? =some c) (hs:s<=i):sl l s (i+1)=sl l s i++[c]:=by unfold sl;have hi:=(Br.1 h).1;rw[Dr,h,List.drop_append_of_le_length (by rw[Cw];omega)];rfl
def Dg2 (l:List Rec) (hl:l.length<=1000000):S Eh3 1 [B6 l]=some [Iz (grp l)]:=by
 obtain⟨N,hN⟩:∃N,N=l.length+1:=⟨_,rfl⟩;refine Id5 (N:=N) rfl ?_;have key:Fz3.ev S N [B6 l]=some (.yld 0 [Iz ([]++bf (sl l 0 0) l)]):=by
  refine E7 l (fun i (g:List (List Rec)×Nat)=>[Iz g.1,.i .i64 (g.2:Int),.i .i64 (i:Int)]) (fun i g r=> .yld 0 [Iz (g.1++bf (sl l g.2 i) r)]) (fun i g=>g.2<=i∧g.1.length<=i) ([],0) ?_ (by simp) (by omega) (fun i g c r hd hi hc hI=> ?_) (fun g hI=> ?_)
  .rfl
  .left;obtain⟨out,st⟩:=g;obtain⟨hI1,hI2⟩:=hI;simp only at hI1 hI2 ⊢;have hlt:(i:Int)<(l.length:Int):=by omega
   have e1:((i:Int)+1).toNat=i+1:=by omega
   have e2:(i:Int).toNat=i:=by omega
   have e3:(st:Int).toNat=st:=by omega
   have hsl:=Gj2 l st i c hc hI1;have hsl2:List.drop st (List.take (i+1) l)=sl l st i++[c]:=hsl;have hsl3:sl l st st=[]:=by unfold sl;rw[List.drop_eq_nil_iff,Cw];omega
   have hsl4:sl l (i+1) (i+1)=[]:=by unfold sl;rw[List.drop_eq_nil_iff,Cw];omega
   have hr:r=l.drop (i+1):=by have:=congrArg List.tail hd;simpa using this.symm
   by_cases hc2:(match r with|[]=>true|y::_=> !decide (y.name=c.name))=true
   .refine⟨(out++[sl l st i++[c]],i+1),?_,⟨by simp,by simp;omega⟩,?_⟩
    .cases r with
     |nil=>
      have hend:(i:Int)+1=(l.length:Int):=by have:=congrArg List.length hr;simp at this;omega
      simp only;simp(disch:=omega)only[Cj0,hlt,hend.symm,e1,e2,e3,hc,hsl2,Dy3,xk,Az,simprocAttr]
      try (congr 3;omega)
     |cons y r'=>
      have hy:l[i+1]? =some y:=by have:=congrArg (fun q=>q[0]?) hr;simpa [Cl] using this.symm
      have hyl:=(Br.1 hy).1;have hend:¬(i:Int)+1=(l.length:Int):=by omega
      have hyc:¬y.name=c.name:=by simpa using hc2
      simp only;simp(disch:=omega)only[Cj0,hlt,hend,e1,e2,e3,hc,hy,hyc,hsl2,Dy3,xk,Az,simprocAttr]
      try congr 3
    .have eg:bf (sl l st i) (c::r)=(sl l st i++[c])::bf [] r:=by
      cases r with
      |nil=>rfl
      |cons y r'=>rw[bf,if_pos hc2]
     simp only[eg,hsl4];simp
   .refine⟨(out,st),?_,⟨by simp;omega,by simp;omega⟩,?_⟩
    .cases r with
     |nil=>simp at hc2
     |cons y r'=>
      have hy:l[i+1]? =some y:=by have:=congrArg (fun q=>q[0]?) hr;simpa [Cl] using this.symm
      have hyl:=(Br.1 hy).1;have hend:¬(i:Int)+1=(l.length:Int):=by omega
      have hyc:y.name=c.name:=by simpa using hc2
      simp only;simp(disch:=omega)only[Cj0,hlt,hend,e1,e2,e3,hc,hy,hyc,Az,simprocAttr]
      try rfl
    .have eg:bf (sl l st i) (c::r)=bf (sl l st i++[c]) r:=by
      cases r with
      |nil=>simp at hc2
      |cons y r'=>rw[bf,if_neg hc2]
     simp only[eg,hsl]
  .have hlt:¬(l.length:Int)<(l.length:Int):=by omega
   refine⟨?_,rfl⟩;simp(disch:=omega)only[Cj0,hlt,Az,simprocAttr];simp[bf]
 have e:[]++bf (sl l 0 0) l=grp l:=by simp[sl,grp]
 rw[e] at key;generalize grp l=gs at*;simp(disch:=omega)only[Cj0,key,Az,simprocAttr]
def Bn5 (o:List UInt8):List (List Rec)->List UInt8->List UInt8->Bool->Option Bool
 |[],_,_,soa=>some soa
 |g::gs,cut,red,soa=>
  if propG o g (decide (Fc (nmG g) cut≠[])) (decide (Fc (nmG g) red≠[]))=true then
   Bn5 o gs (if Fc (nmG g) cut=[]∧nmG g≠o∧H7 g 2=true then nmG g else Fc (nmG g) cut) (if H7 g 39=true then nmG g else Fc (nmG g) red) (soa||decide (nmG g=o))
  else none
def Dm5 (o:List UInt8):∀(gs:List (List Rec)) (cut red:List UInt8) (soa:Bool),Aw9 o gs cut red soa=decide (Bn5 o gs cut red soa=some true)
 |[],_,_,soa=>by simp[Aw9,Bn5]
 |g::gs,cut,red,soa=>by
  simp only[Aw9,Bn5];split
  .exact Dm5 o gs _ _ _
  .simp
def Ij2:Option Bool->Out
 |some b=> .yld 0 [.b b]
 |none=> .ret [.i .i64 13]
section
variable (z:Zone) (g:List Rec) (gs:List (List Rec)) (x:Rec) (N:Nat) (i:Nat) (cut red:List UInt8) (soa:Bool)
def Is4 (hi:gs[i]? =some g) (hx:g[0]? =some x) (hxl:x.name.length<=9223372036854775807) (hcl:cut.length<=9223372036854775807) (p1 p2 p3 p4 p5:PV):
  ∃p11,Z6.ev S N [z.pv,p1,p2,p3,p4,p5,Iz gs,.s cut,.s red,.b soa,.i .i64 (i:Int)]=Z7.ev S N [z.pv,p1,p2,p3,p4,p5,Iz gs,.s cut,.s red,.b soa,.i .i64 (i:Int),p11,.s (Fc x.name cut)]:=by
 have x17:=Ch Z6.eq_1;have x16:=Ch Az1.eq_1;have x0:=Ch Ds0.eq_1;have hu:=Fl x.name cut hxl hcl;have ei:(i:Int).toNat=i:=by omega
 by_cases h1:cut=[]
 .refine⟨.u,?_⟩;have e:Fc x.name cut=cut:=by unfold Fc;simp[h1]
  rw[e];replace h1:=eq_true h1;simp(disch:=omega)only[x17,x16,x0,h1,hi,hx,ei,Gs,Az,simprocAttr]
 .rcases Bm (under x.name cut) with h2|h2<;>rw[h2] at hu
  .refine⟨.b true,?_⟩;have e:Fc x.name cut=cut:=by unfold Fc;simp[h2]
   rw[e];simp(disch:=omega)only[x17,x16,x0,h1,hu,hi,hx,ei,Gs,Az,simprocAttr]
  .refine⟨.b false,?_⟩;have e:Fc x.name cut=[]:=by unfold Fc;simp[h1,h2]
   rw[e];simp(disch:=omega)only[x17,x16,x0,h1,hu,hi,hx,ei,Gs,Az,simprocAttr]
def Is3 (hi:gs[i]? =some g) (hx:g[0]? =some x) (hxl:x.name.length<=9223372036854775807) (hrl:red.length<=9223372036854775807) (p1 p2 p3 p4 p5 p11 p12:PV):
  ∃p13,Z7.ev S N [z.pv,p1,p2,p3,p4,p5,Iz gs,.s cut,.s red,.b soa,.i .i64 (i:Int),p11,p12]=mq.ev S N [z.pv,p1,p2,p3,p4,p5,Iz gs,.s cut,.s red,.b soa,.i .i64 (i:Int),p11,p12,p13,.s (Fc x.name red)]:=by
 have x15:=Ch Z7.eq_1;have x14:=Ch Az5.eq_1;have x1:=Ch Dr5.eq_1;have hu:=Fl x.name red hxl hrl;have ei:(i:Int).toNat=i:=by omega
 by_cases h1:red=[]
 .refine⟨.u,?_⟩;have e:Fc x.name red=red:=by unfold Fc;simp[h1]
  rw[e];replace h1:=eq_true h1;simp(disch:=omega)only[x15,x14,x1,h1,hi,hx,ei,Gs,Az,simprocAttr]
 .rcases Bm (under x.name red) with h2|h2<;>rw[h2] at hu
  .refine⟨.b true,?_⟩;have e:Fc x.name red=red:=by unfold Fc;simp[h2]
   rw[e];simp(disch:=omega)only[x15,x14,x1,h1,hu,hi,hx,ei,Gs,Az,simprocAttr]
  .refine⟨.b false,?_⟩;have e:Fc x.name red=[]:=by unfold Fc;simp[h1,h2]
   rw[e];simp(disch:=omega)only[x15,x14,x1,h1,hu,hi,hx,ei,Gs,Az,simprocAttr]
def Is2 (hi:gs[i]? =some g) (hx:g[0]? =some x) (hnm:nmG g=x.name) (hg:g≠[]) (hl:g.length<=1000000) (hil:i<=1000000) (hxl:x.name.length<=9223372036854775807) (hzl:z.origin.length<=9223372036854775807) (cu re:List UInt8) (p1 p2 p3 p4 p5 p7 p8 p11 p13:PV):
  mq.ev S N [z.pv,p1,p2,p3,p4,p5,Iz gs,p7,p8,.b soa,.i .i64 (i:Int),p11,.s cu,p13,.s re]=
   some (if propG z.origin g (decide (cu≠[])) (decide (re≠[]))=true then .yld 1 [.s (if cu=[]∧x.name≠z.origin∧H7 g 2=true then x.name else cu),.s (if H7 g 39=true then x.name else re),.b (soa||decide (x.name=z.origin)),.i .i64 ((i:Int)+1)] else .ret [.i .i64 13]):=by
 have hp:=Bx2 z.origin cu re g hg hl hzl (by rw[hnm];exact hxl);have k2:=M2 g 2 hl;have k39:=M2 g 39 hl;have ei:(i:Int).toNat=i:=by omega
 generalize propG z.origin g (decide (cu≠[])) (decide (re≠[]))=P at*;cases P
 .simp(disch:=omega)only[Xh,hp,hi,hx,ei,Gs,Az,simprocAttr]
  try simp
 .by_cases h1:cu=[]
  .by_cases h2:x.name=z.origin
   .rcases Bm (H7 g 39) with h3|h3<;>rw[h3] at k39
    .cases soa<;>(have h1':=eq_true h1;have h2':=eq_true h2;simp(disch:=omega)only[Xh,hp,hi,hx,ei,h1',h2',k39,Gs,Az,simprocAttr];simp[h2,h3])
    .cases soa<;>(have h1':=eq_true h1;have h2':=eq_true h2;simp(disch:=omega)only[Xh,hp,hi,hx,ei,h1',h2',k39,Gs,Az,simprocAttr];simp[h2,h3])
   .rcases Bm (H7 g 2) with h4|h4<;>rw[h4] at k2
    .rcases Bm (H7 g 39) with h3|h3<;>rw[h3] at k39
     .cases soa<;>(have h1':=eq_true h1;simp(disch:=omega)only[Xh,hp,hi,hx,ei,h1',h2,k2,k39,Gs,Az,simprocAttr];simp[h1,h2,h3,h4])
     .cases soa<;>(have h1':=eq_true h1;simp(disch:=omega)only[Xh,hp,hi,hx,ei,h1',h2,k2,k39,Gs,Az,simprocAttr];simp[h1,h2,h3,h4])
    .rcases Bm (H7 g 39) with h3|h3<;>rw[h3] at k39
     .cases soa<;>(have h1':=eq_true h1;simp(disch:=omega)only[Xh,hp,hi,hx,ei,h1',h2,k2,k39,Gs,Az,simprocAttr];simp[h2,h3,h4])
     .cases soa<;>(have h1':=eq_true h1;simp(disch:=omega)only[Xh,hp,hi,hx,ei,h1',h2,k2,k39,Gs,Az,simprocAttr];simp[h2,h3,h4])
  .by_cases h2:x.name=z.origin
   .rcases Bm (H7 g 39) with h3|h3<;>rw[h3] at k39
    .cases soa<;>(have h2':=eq_true h2;simp(disch:=omega)only[Xh,hp,hi,hx,ei,h1,h2',k39,Gs,Az,simprocAttr];simp[h1,h2,h3])
    .cases soa<;>(have h2':=eq_true h2;simp(disch:=omega)only[Xh,hp,hi,hx,ei,h1,h2',k39,Gs,Az,simprocAttr];simp[h1,h2,h3])
   .rcases Bm (H7 g 39) with h3|h3<;>rw[h3] at k39
    .cases soa<;>(simp(disch:=omega)only[Xh,hp,hi,hx,ei,h1,h2,k39,Gs,Az,simprocAttr];simp[h1,h2,h3])
    .cases soa<;>(simp(disch:=omega)only[Xh,hp,hi,hx,ei,h1,h2,k39,Gs,Az,simprocAttr];simp[h1,h2,h3])
end
def Bj8:∀(n:Nat) (l:List Rec),l.length<=n->(∀g∈grp l,g≠[]∧∀x∈g,x∈l)∧(grp l).length<=l.length
 |_,[],_=>by simp[grp,bf]
 |0,x::r,hn=>by simp at hn
 |n+1,x::r,hn=>by
  obtain⟨g,l',h1,h2,h3,h4,h5⟩:=W9 x r;have hlen:=congrArg List.length h1;have hg0:0<g.length:=C1.2 h2;simp only[Bt,Cy] at hlen hn;obtain⟨i1,i2⟩:=Bj8 n l' (by omega);rw[h5];refine⟨fun g' hg'=> ?_,by simp;omega⟩;rcases Cj.1 hg' with rfl|hg'
  .exact⟨h2,fun w hw=>by rw[h1];exact D1 _ hw⟩
  .obtain⟨j1,j2⟩:=i1 g' hg';exact⟨j1,fun w hw=>by rw[h1];exact Dq _ (j2 w hw)⟩
def Df1 (p:Prop) [Decidable p] (a b:List UInt8) (ha:a.length<=9223372036854775807) (hb:b.length<=9223372036854775807):(if p then a else b).length<=9223372036854775807:=by split<;>assumption
def Ip1 (z:Zone) (hz:z.wf) (hl:z.recs.length<=1000000) (N:Nat) (hN:z.recs.length+1<N) (p1 p2 p3 p4 p5:PV):
  Fb4.ev S N [z.pv,p1,p2,p3,p4,p5,Iz (grp z.recs)]=some (Ij2 (Bn5 z.origin (grp z.recs) [] [] false)):=by
 obtain⟨gf1,gf2⟩:=Bj8 z.recs.length z.recs (B7 _);have hgl:∀g∈grp z.recs,g.length<=1000000:=fun g hg=>by
  have:∀(n:Nat) (l:List Rec),l.length<=n->∀g∈grp l,g.length<=l.length:=by
   intro n
   induction n with
   |zero=>intro l hl g hg;cases l with
    |nil=>simp[grp,bf] at hg
    |cons x r=>simp at hl
   |succ n ih=>
    intro l hl g hg;cases l with
    |nil=>simp[grp,bf] at hg
    |cons x r=>
     obtain⟨g0,l',h1,h2,h3,h4,h5⟩:=W9 x r;have hlen:=congrArg List.length h1;have hg0:0<g0.length:=C1.2 h2;simp only[Bt,Cy] at hlen hl;rw[h5] at hg;rcases Cj.1 hg with rfl|hg
     .simp only[Cy];omega
     .have:=ih l' (by omega) g hg;simp only[Cy];omega
  exact Dt (this _ _ (B7 _) g hg) hl
 generalize grp z.recs=gs at*;have:=E7 (fn:=S) (N:=N) (J:=[z.pv,p1,p2,p3,p4,p5,Iz gs]) (id:=1) (init:=[.c (.s []),.c (.s []),.c (.b false),.c (.i .i64 0)]) (body:=gv) gs (fun i (a:List UInt8×List UInt8×Bool)=>[.s a.1,.s a.2.1,.b a.2.2,.i .i64 (i:Int)]) (fun i a r=>Ij2 (Bn5 z.origin r a.1 a.2.1 a.2.2)) (fun i a=>a.1.length<=9223372036854775807∧a.2.1.length<=9223372036854775807) ([],[],false) ?_ (by simp) (by omega) (fun i a g r hd hi hc hI=> ?_) (fun a hI=> ?_)
 .exact this
 .simp(disch:=omega)only[Az,simprocAttr]
  try rfl
 .obtain⟨cut,red,soa⟩:=a;obtain⟨hI1,hI2⟩:=hI;simp only at hI1 hI2 ⊢;have hgm:=Cq hc;obtain⟨hg,hgz⟩:=gf1 g hgm;obtain⟨x,hx,hxm⟩:∃x,g[0]? =some x∧x∈g:=by
   cases g with
   |nil=>exact absurd rfl hg
   |cons x r=>exact⟨x,rfl,.head _⟩
  have hnm:nmG g=x.name:=by
   cases g with
   |nil=>exact absurd rfl hg
   |cons y r=>simp at hx;rw[<-hx];rfl
  have hxl:x.name.length<=9223372036854775807:=(hz.recs.2 x (hgz x hxm)).name;have hzl:z.origin.length<=9223372036854775807:=hz.origin;obtain⟨p11,kA⟩:=Is4 z g gs x N i cut red soa hc hx hxl hI1 p1 p2 p3 p4 p5;have hku:(Fc x.name cut).length<=9223372036854775807:=by unfold Fc;split<;>simp[hI1]
  have hkr:(Fc x.name red).length<=9223372036854775807:=by unfold Fc;split<;>simp[hI2]
  obtain⟨p13,kB⟩:=Is3 z g gs x N i cut red soa hc hx hxl hI2 p1 p2 p3 p4 p5 p11 (.s (Fc x.name cut));have kC:=Is2 z g gs x N i soa hc hx hnm hg (hgl g hgm) (by omega) hxl hzl (Fc x.name cut) (Fc x.name red) p1 p2 p3 p4 p5 (.s cut) (.s red) p11 p13;have kall:=kA.trans (kB.trans kC);have hlt:(i:Int)<(gs.length:Int):=by omega
  have hb:gv.ev S N [z.pv,p1,p2,p3,p4,p5,Iz gs,.s cut,.s red,.b soa,.i .i64 (i:Int)]=Z6.ev S N [z.pv,p1,p2,p3,p4,p5,Iz gs,.s cut,.s red,.b soa,.i .i64 (i:Int)]:=by have xb:=Ch gv.eq_1;simp(disch:=omega)only[xb,hlt,S7,Az,simprocAttr]
  have hb2:=hb.trans kall;have estep:Bn5 z.origin (g::r) cut red soa=if propG z.origin g (decide (Fc x.name cut≠[])) (decide (Fc x.name red≠[]))=true then Bn5 z.origin r (if Fc x.name cut=[]∧x.name≠z.origin∧H7 g 2=true then x.name else Fc x.name cut) (if H7 g 39=true then x.name else Fc x.name red) (soa||decide (x.name=z.origin)) else none:=by simp only[Bn5,hnm]
  by_cases hP:propG z.origin g (decide (Fc x.name cut≠[])) (decide (Fc x.name red≠[]))=true
  .left;rw[if_pos hP] at hb2 estep;refine⟨(if Fc x.name cut=[]∧x.name≠z.origin∧H7 g 2=true then x.name else Fc x.name cut,if H7 g 39=true then x.name else Fc x.name red,soa||decide (x.name=z.origin)),hb2,⟨?_,?_⟩,?_⟩
   .exact Df1 _ _ _ hxl hku
   .exact Df1 _ _ _ hxl hkr
   .rw[estep]
  .right;rw[if_neg hP] at hb2 estep;rw[estep];exact⟨hb2,rfl⟩
 .have hlt:¬(gs.length:Int)<(gs.length:Int):=by omega
  have xb:=Ch gv.eq_1;refine⟨?_,rfl⟩;simp(disch:=omega)only[xb,hlt,S7,Az,simprocAttr];rfl
def Ad9 (z:Zone) (hz:z.wf):Jm z=if vld z.origin=false then 2 else if 2048<z.recs.length∨V6 z.recs=true then 9 else if z.recs.all T5=false then 5 else if z.recs≠sortR z.recs then 7 else if Bn5 z.origin (grp z.recs) [] [] false=some true then 0 else 13:=by
 unfold Jm;rcases Bm (vld z.origin) with h1|h1
 .have n1:¬vld z.origin=false:=by simp[h1]
  rw[if_neg n1,if_neg n1];by_cases h2:2048<z.recs.length
  .rw[if_pos h2,if_pos (.inl h2)]
  .rw[if_neg h2];have hcr:=Bm9 z.recs;rcases Bm (z.recs.all fun r=>decide ((findR z.recs r.name r.typ).length<=64)) with h3|h3
   .rw[h3] at hcr;have hn2:¬(2048<z.recs.length∨V6 z.recs=true):=by
     rintro (q|q)
     .exact h2 q
     .rw[hcr] at q;cases q
    have n3:¬(z.recs.all fun r=>decide ((findR z.recs r.name r.typ).length<=64))=false:=by simp only[h3];simp
    rw[if_neg n3,if_neg hn2];rcases Bm (z.recs.all T5) with h4|h4
    .have n4:¬z.recs.all T5=false:=by simp only[h4];simp
     rw[if_neg n4,if_neg n4];by_cases h5:z.recs=sortR z.recs
     .have n5:¬z.recs≠sortR z.recs:=by simpa using h5
      rw[if_neg n5,if_neg n5];have hv:∀r∈z.recs,T5 r=true:=Cr.1 h4;have hr:z.recs.Pairwise ltR:=by rw[h5];exact(Vl z.recs hv).1
      have hk:=Bq5 z (fun r h=>om (hv r h)) (Ch4 hr) z.recs.length [] z.recs [] [] false (B7 _) rfl (by simp) ⟨by simp,by simp,by simp,by simp⟩;rw[Dm5,decide_eq_true_eq] at hk;have hk2:=Cm2 z hv hr;have hk3:Bn5 z.origin (grp z.recs) [] [] false=some true↔(findR z.recs z.origin 6).length=1∧vk z.recs z.origin 2=true∧∀r∈z.recs,Um z r=true:=by rw[hk,<-hk2];simp
      by_cases h6:Bn5 z.origin (grp z.recs) [] [] false=some true
      .obtain⟨a,b,c⟩:=hk3.1 h6;have c':z.recs.all (Um z)=true:=Cr.2 c;have n7:¬((findR z.recs z.origin 6).length≠1∨vk z.recs z.origin 2=false):=by simp[a,b]
       have n8:¬z.recs.all (Um z)=false:=by simp only[c'];simp
       rw[if_pos h6,if_neg n7,if_neg n8]
      .rw[if_neg h6];by_cases h7:(findR z.recs z.origin 6).length≠1∨vk z.recs z.origin 2=false
       .rw[if_pos h7]
       .rw[if_neg h7];by_cases h8:z.recs.all (Um z)=false
        .rw[if_pos h8]
        .exfalso;simp only[not_or,ne_eq,Hp,Hr] at h7 h8;exact h6 (hk3.2 ⟨h7.1,h7.2,Cr.1 h8⟩)
     .rw[if_pos h5,if_pos h5]
    .rw[if_pos h4,if_pos h4]
   .rw[h3] at hcr;rw[if_pos h3,if_pos (.inr hcr)]
 .rw[if_pos h1,if_pos h1]
def yj (z:Zone) (hz:z.wf) (hl:z.recs.length<=1000000):S Dx2 1 [z.pv]=some [.i .i64 (Jm z)]:=by
 obtain⟨N,hN⟩:∃N,N=z.recs.length+2:=⟨_,rfl⟩;refine Ig4 (N:=N) rfl ?_;rw[Ad9 z hz];have hzl:z.origin.length<=9223372036854775807:=hz.origin;have k1:=Dx z.origin hzl;have k2:=Bm8 z.recs hl;have k3:=Hg z.recs Eh6 [] (fun r=> !T5 r) hl (fun r hr=>by refine Id9 (N:=1) rfl ?_;have:=Ej5 r (hz.recs.2 r hr);simp(disch:=omega)only[Iv1,this,Az,simprocAttr])
 have e3:(z.recs.any fun r=> !T5 r)= !z.recs.all T5:=by rw[List.not_all_eq_any_not]
 rw[e3] at k3;have k4:=Bx0 z.recs hz.recs.2 hl;have hsl:(sortR z.recs).length<=1000000:=by obtain⟨r,h1,h2,_⟩:=T1 Hr8 (by rw[En1];exact Ht9) z.recs hz.recs.2 hl;rw[En1] at h1;have:=lg eqF r;rw[Ah7 h1] at this;omega
 have k5:=Ek4 z.recs (sortR z.recs) hl hsl;have k6:=Dg2 z.recs hl;have k7:=fun p1 p2 p3 p4 p5=>Ip1 z hz hl N (by omega) p1 p2 p3 p4 p5;have xt:=Ch Ex6.eq_1;have x28:=Ch Ax7.eq_1;have x27:=Ch Ax8.eq_1;have x26:=Ch Ax9.eq_1;have x25:=Ch Ay0.eq_1;have x24:=Ch Ay1.eq_1;have x23:=Ch Ay2.eq_1;have x22:=Ch Ay3.eq_1;have x21:=Ch Ay4.eq_1;have x20:=Ch Ay5.eq_1;have x19:=Ch Ay6.eq_1;have x18:=Ch Ay8.eq_1;rcases Bm (vld z.origin) with h1|h1
 .have n1:¬vld z.origin=false:=by simp[h1]
  rw[if_neg n1];rw[h1] at k1;by_cases h2:2048<z.recs.length
  .rw[if_pos (.inl h2)];have h2':(2048:Int)<(z.recs.length:Int):=by omega
   simp(disch:=omega)only[xt,x28,x27,x26,k1,h2',Az,simprocAttr]
  .have h2':¬(2048:Int)<(z.recs.length:Int):=by omega
   rcases Bm (V6 z.recs) with h3|h3<;>rw[h3] at k2
   .rw[if_pos (.inr h3)];simp(disch:=omega)only[xt,x28,x27,x26,k1,k2,h2',Az,simprocAttr]
   .have n2:¬(2048<z.recs.length∨V6 z.recs=true):=by simp only[h2,h3];simp
    rw[if_neg n2];rcases Bm (z.recs.all T5) with h4|h4<;>rw[h4] at k3
    .have n4:¬z.recs.all T5=false:=by simp only[h4];simp
     rw[if_neg n4];by_cases h5:z.recs=sortR z.recs
     .have n5:¬z.recs≠sortR z.recs:=by simpa using h5
      rw[if_neg n5];have e5:decide (z.recs=sortR z.recs)=true:=decide_eq_true h5;rw[e5] at k5;clear h5 e5;generalize sortR z.recs=sr at*;cases h6:Bn5 z.origin (grp z.recs) [] [] false with
      |none=>
       rw[h6] at k7;simp only[Ij2] at k7;generalize grp z.recs=gs at*;rw[if_neg (by simp)];simp(disch:=omega)only[xt,x28,x27,x26,x25,x24,x23,x22,x21,x20,x19,x18,k1,k2,h2',k3,k4,k5,k6,k7,S7,Az,simprocAttr]
      |some b=>
       rw[h6] at k7;simp only[Ij2] at k7;generalize grp z.recs=gs at*;cases b
       .rw[if_neg (by simp)];simp(disch:=omega)only[xt,x28,x27,x26,x25,x24,x23,x22,x21,x20,x19,x18,k1,k2,h2',k3,k4,k5,k6,k7,S7,Az,simprocAttr]
       .rw[if_pos rfl];simp(disch:=omega)only[xt,x28,x27,x26,x25,x24,x23,x22,x21,x20,x19,x18,k1,k2,h2',k3,k4,k5,k6,k7,S7,Az,simprocAttr]
     .rw[if_pos h5];have e5:decide (z.recs=sortR z.recs)=false:=decide_eq_false h5;rw[e5] at k5;clear h5 e5;generalize sortR z.recs=sr at*;simp(disch:=omega)only[xt,x28,x27,x26,x25,x24,x23,x22,x21,k1,k2,h2',k3,k4,k5,Az,simprocAttr]
    .rw[if_pos h4];simp(disch:=omega)only[xt,x28,x27,x26,x25,x24,k1,k2,h2',k3,Az,simprocAttr]
     try simp
 .rw[if_pos h1];rw[h1] at k1;simp(disch:=omega)only[xt,x28,k1,Az,simprocAttr]
def Df7 (x:List UInt8):List (List UInt8)->List (List UInt8)
 |[]=>[x]
 |y::r=>if Ky y x<0 then y::Df7 x r else if y=x then y::r else x::y::r
def insN_mem (x z:List UInt8):∀(l:List (List UInt8)),z∈Df7 x l↔z=x∨z∈l
 |[]=>by simp[Df7]
 |y::r=>by
  have ih:=insN_mem x z r;simp only[Df7];split
  .simp only[Cj,ih];grind
  .split
   .rename_i h;subst h;simp only[Cj];grind
   .simp only[Cj]
def Zk (x:List UInt8):∀(l:List (List UInt8)),l.Pairwise ltN->(Df7 x l).Pairwise ltN
 |[],_=>by simp[Df7]
 |y::r,h=>by
  obtain⟨h1,h2⟩:=Cd.1 h;have ih:=Zk x r h2;simp only[Df7];by_cases c:Ky y x<0
  .rw[if_pos c];refine Cd.2 ⟨fun w hw=> ?_,ih⟩;rcases (insN_mem x w r).1 hw with rfl|hw
   .exact(Gq _ _).1 c
   .exact h1 w hw
  .rw[if_neg c];by_cases e:y=x
   .rw[if_pos e];exact h
   .rw[if_neg e];have hxy:ltN x y:=by
     rcases to_N.tri x y with q|q|q
     .exact q
     .exact absurd q.symm e
     .exact absurd ((Gq _ _).2 q) c
    refine Cd.2 ⟨fun w hw=> ?_,h⟩;rcases Cj.1 hw with rfl|hw
    .exact hxy
    .exact to_N.tr _ _ _ hxy (h1 w hw)
def Fx1 (l:List (List UInt8)):List (List UInt8):=l.foldl (fun a x=>Df7 x a) []
def rf (l:List (List UInt8)):Fx1 l=setN l:=by
 have:∀(l a:List (List UInt8)),a.Pairwise ltN->(l.foldl (fun a x=>Df7 x a) a).Pairwise ltN∧∀z,z∈l.foldl (fun a x=>Df7 x a) a↔z∈a∨z∈l:=by
  intro l
  induction l with
  |nil=>intro a h;exact⟨h,fun z=>by simp⟩
  |cons x r ih=>
   intro a h;obtain⟨h1,h2⟩:=ih (Df7 x a) (Zk x a h);refine⟨h1,fun z=> ?_⟩;rw[nd,h2,insN_mem,Cj]
   grind
 obtain⟨h1,h2⟩:=this l [] List.Pairwise.nil;exact Yv to_N _ _ h1 (K8 l) fun x=>by rw[M9];rw[Fx1,h2 x];simp
def exB (z:Zone) (x:List UInt8):Bool:=z.recs.any fun r=>under r.name z.origin && !Oz z r.name && under r.name x && under x z.origin
def L1 (z:Zone) (x:List UInt8):exB z x=true↔Fb6 z x:=by unfold exB Fb6;simp only[Dj,Bp,Cf,and_assoc]
def Nl (z:Zone) (x:List UInt8):decide (x∈namesN z)=exB z x:=by rw[D8,L1,<-P8];simp
def P9 (z:Zone) (hl:z.recs.length<=1000):(namesN z).length<=1000000:=by
 have h1:=Sy (Fk2 z);have h2:∀l:List Rec,(l.flatMap fun r=>upN z.origin r.name).length<=256*l.length:=by
  intro l
  induction l with
  |nil=>simp
  |cons x r ih=>
   have:=ix z.origin x.name;rw[Gj,Bt,Cy];omega
 have h3:=h2 (z.recs.filter fun r=>under r.name z.origin && !Oz z r.name);have h4:=D4 (fun r=>under r.name z.origin && !Oz z r.name) z.recs;show (setN (Fk2 z)).length<=1000000;unfold Fk2 at h1 ⊢;omega
def cr (z:Zone) (n:List UInt8) (hz:z.wf) (hl:z.recs.length<=1000):S Dw4 2 [z.pv,.s n]=some [.b (exB z n)]:=by refine Ic3 (N:=1) rfl ?_;have k1:=Xd z hz hl;have k2:=L6 (namesN z) n (P9 z hl);rw[Nl] at k2;generalize namesN z=nz at*;simp(disch:=omega)only[Iq7,k1,k2,Ay,simprocAttr]
def Bs0 (z:Zone) (n:List UInt8):Option (List UInt8):=(upN z.origin n).find? (exB z)
def encN (z:Zone) (n:List UInt8):List UInt8:=if under n z.origin=true then(Bs0 z n).getD [] else []
def ol {n:List UInt8} (h:vld n=true):n≠[]:=fun e=>by subst e;simp[vld,nm] at h
def Py {z:Zone} {n e:List UInt8} (hu:under n z.origin=true) (h:Bs0 z n=some e):under n e=true∧exB z e=true:=by unfold Bs0 at h;have h1:=List.mem_of_find?_eq_some h;have h2:=List.find?_some h;exact⟨((On hu).1 h1).1,h2⟩
def Og (z:Zone) (n:List UInt8) (hz:z.wf) (hl:z.recs.length<=1000) (hn:n.length<=9223372036854775807):S d6 2 [z.pv,.s n]=some [.s (encN z n),.b (decide (encN z n≠[]))]:=by
 refine Hb1 (N:=1000) rfl ?_;have g1:=hz.origin;unfold T6 at g1;have k0:=Fl n z.origin hn g1;unfold encN;rcases Bm (under n z.origin) with hu|hu
 .rw[if_pos hu];rw[hu] at k0;have k1:=Xd z hz hl;have hnl:=P9 z hl;have k2:∀x,S Yh 2 [C8 (namesN z),.s x]=some [.b (exB z x)]:=fun x=>by rw[<-Nl];exact L6 (namesN z) x hnl
  generalize namesN z=nz at*;obtain⟨v1,v2,_⟩:=Ct.1 hu;have hlb:=Nz n;have h0:jn ((lbl n).drop 0)=n:=j9 v1;let res:Option (List UInt8)->Out:=fun o=>match o with|some e=> .yld 0 [.s e]|none=> .ret [.s [],.b false]
  have key:Dd0.ev S 1000 [z.pv,.s n,.b true,C8 nz]=some (res (Bs0 z n)):=by
   have:=Iq (fn:=S) (N:=1000) (J:=[z.pv,.s n,.b true,C8 nz]) (id:=1) (init:=[(.v 1)]) (body:=Ac6) ((lbl n).length - (lbl z.origin).length)
    (fun k=>[.s (jn ((lbl n).drop k))]) (fun k=>res (((upN z.origin n).drop k).find? (exB z))) ?_ (by omega) (fun k hk=> ?_) ?_
   .exact this
   .rw[h0];simp(disch:=omega)only[Ay,simprocAttr]
   .have hup:(upN z.origin n)[k]? =some (jn ((lbl n).drop k)):=Q6 (Nat.le_of_lt hk);have hd:(upN z.origin n).drop k=jn ((lbl n).drop k)::(upN z.origin n).drop (k+1):=by obtain⟨h1,h2⟩:=Br.1 hup;rw[D9 h1,h2]
    obtain⟨q1,q2⟩:=Cq1 hu hk;have q3:¬jn ((lbl n).drop k)=z.origin:=fun h=>by have:=(c7 hu (Nat.le_of_lt hk)).1 h;omega
    have q4:=ez v1 k;have k1:=Qm (jn ((lbl n).drop k)) (by omega);rw[q1,q2] at k1;have k3:=k2 (jn ((lbl n).drop k));rw[hd];generalize jn ((lbl n).drop (k+1))=nx at*;generalize jn ((lbl n).drop k)=cu at*;rcases Bm (exB z cu) with h5|h5
    .right;rw[h5] at k3;rw[List.find?_cons_of_pos h5];refine⟨?_,rfl⟩;simp(disch:=omega)only[Xm,k3,Ay,simprocAttr];rfl
    .left;rw[h5] at k3;rw[List.find?_cons_of_neg (by simp[h5])];refine⟨?_,rfl⟩;simp(disch:=omega)only[Xm,k1,k3,q3,Ay,simprocAttr]
   .have hup:(upN z.origin n)[(lbl n).length - (lbl z.origin).length]? =some (jn ((lbl n).drop ((lbl n).length - (lbl z.origin).length))):=Q6 (B7 _);have hd:(upN z.origin n).drop ((lbl n).length - (lbl z.origin).length)=[jn ((lbl n).drop ((lbl n).length - (lbl z.origin).length))]:=by obtain⟨h1,h2⟩:=Br.1 hup;have h9:(upN z.origin n).drop ((lbl n).length - (lbl z.origin).length+1)=[]:=M1 (by simp[upN]);rw[D9 h1,h2,h9]
    have q3:=(c7 hu (B7 _)).2 rfl;rw[hd,q3];have k3:=k2 z.origin;rcases Bm (exB z z.origin) with h5|h5
    .rw[h5] at k3;rw[List.find?_cons_of_pos h5];refine⟨?_,rfl⟩;simp(disch:=omega)only[Xm,k3,Ay,simprocAttr];rfl
    .rw[h5] at k3;rw[List.find?_cons_of_neg (by simp[h5]),List.find?_nil];refine⟨?_,rfl⟩;simp(disch:=omega)only[Xm,k3,Ay,simprocAttr];rfl
  cases he:Bs0 z n with
  |none=>
   rw[he] at key;simp only[res] at key;simp(disch:=omega)only[Xm,k0,k1,key,Ay,simprocAttr];simp
  |some e=>
   rw[he] at key;simp only[res] at key;have h6:=ol (Ct.1 (Py hu he).1).2.1;simp(disch:=omega)only[Xm,k0,k1,key,Ay,simprocAttr];simp[h6]
 .rw[if_neg (by simp[hu])];rw[hu] at k0;simp(disch:=omega)only[Xm,k0,Ay,simprocAttr]
  try simp
def bestF (n:List UInt8):List UInt8->List (List UInt8)->List UInt8
 |b,[]=>b
 |b,x::r=>bestF n (if under n x && (decide (b=[])||decide ((lbl b).length<(lbl x).length)) then x else b) r
def Xx (n:List UInt8):∀(l:List (List UInt8)) (b:List UInt8),(b=[]∨under n b=true)->
  (bestF n b l=[]->b=[]∧∀x∈l,under n x=false)∧
  (bestF n b l≠[]->under n (bestF n b l)=true∧(bestF n b l=b∨bestF n b l∈l)∧(b≠[]->(lbl b).length<=(lbl (bestF n b l)).length)∧∀x∈l,under n x=true->(lbl x).length<=(lbl (bestF n b l)).length)
 |[],b,hb=>by simp only[bestF];refine⟨fun h=>⟨h,fun r hr=>by simp at hr⟩,fun h=>⟨hb.resolve_left h,.inl trivial,fun _=>B7 _,fun r hr=>by simp at hr⟩⟩
 |x::rs,b,hb=>by
  simp only[bestF];have hne:under n x=true->x≠[]:=fun h=>ol (Ct.1 h).2.1;by_cases hc:(under n x && (decide (b=[])||decide ((lbl b).length<(lbl x).length)))=true
  .rw[if_pos hc];simp only[Bp,Ck,decide_eq_true_eq] at hc;obtain⟨c2,c3⟩:=hc;obtain⟨h1,h2⟩:=Xx n rs x (.inr c2);refine⟨fun h=>absurd (h1 h).1 (hne c2),fun h=> ?_⟩;obtain⟨g1,g2,g3,g4⟩:=h2 h;refine⟨g1,.inr ?_,fun hb0=> ?_,fun y hy hy2=> ?_⟩
   .rcases g2 with g2|g2
    .rw[g2];exact .head _
    .exact .tail _ g2
   .have:=g3 (hne c2);rcases c3 with c3|c3
    .exact absurd c3 hb0
    .omega
   .rcases Cj.1 hy with rfl|hy
    .exact g3 (hne c2)
    .exact g4 y hy hy2
  .rw[if_neg hc];obtain⟨h1,h2⟩:=Xx n rs b hb;have hr:under n x=true->b≠[]∧(lbl x).length<=(lbl b).length:=by intro c2;simp only[c2,N0,Ck,decide_eq_true_eq,not_or,Nat.not_lt] at hc;exact hc
   refine⟨fun h=> ?_,fun h=> ?_⟩
   .obtain⟨g1,g2⟩:=h1 h;refine⟨g1,fun y hy=> ?_⟩;rcases Cj.1 hy with rfl|hy
    .rcases Bm (under n y) with h3|h3
     .exact absurd g1 (hr h3).1
     .exact h3
    .exact g2 y hy
   .obtain⟨g1,g2,g3,g4⟩:=h2 h;refine⟨g1,?_,g3,fun y hy hy2=> ?_⟩
    .rcases g2 with g2|g2
     .exact .inl g2
     .exact .inr (.tail _ g2)
    .rcases Cj.1 hy with rfl|hy
     .obtain⟨q1,q2⟩:=hr hy2;have:=g3 q1;omega
     .exact g4 y hy hy2
def Lm {a b c:List UInt8} (h1:under a b=true) (h2:under b c=true):under a c=true:=by obtain⟨v1,_,s1⟩:=Ct.1 h1;obtain⟨_,v3,s2⟩:=Ct.1 h2;exact Ct.2 ⟨v1,v3,s2.trans s1⟩
def Dt1 (z:Zone) (n:List UInt8):bestF n [] (namesN z)=encN z n:=by
 obtain⟨h1,h2⟩:=Xx n (namesN z) [] (.inl rfl);have hin:∀x,x∈namesN z↔exB z x=true:=fun x=>by rw[<-Nl];simp
 have hor:∀x,exB z x=true->under x z.origin=true:=fun x hx=>by obtain⟨_,_,_,_,_,h⟩:=(L1 z x).1 hx;exact h
 unfold encN;by_cases hb:bestF n [] (namesN z)=[]
 .have:=(h1 hb).2;rw[hb];rcases Bm (under n z.origin) with hu|hu
  .rw[if_pos hu];cases he:Bs0 z n with
   |none=>rfl
   |some e=>
    obtain⟨g1,g2⟩:=Py hu he;have:=this e ((hin e).2 g2);rw[g1] at this;cases this
  .rw[if_neg (by simp[hu])]
 .obtain⟨g1,g2,_,g4⟩:=h2 hb;have g3:exB z (bestF n [] (namesN z))=true:=(hin _).1 (g2.resolve_left hb);have hu:under n z.origin=true:=Lm g1 (hor _ g3);rw[if_pos hu];generalize bestF n [] (namesN z)=b at*;have hm:b∈upN z.origin n:=(On hu).2 ⟨g1,hor _ g3⟩;cases he:Bs0 z n with
  |none=>
   unfold Bs0 at he;rw[Ik6] at he;exact absurd g3 (he b hm)
  |some e=>
   obtain⟨q1,q2⟩:=Py hu he;have q3:=g4 e ((hin e).2 q2) q1;have q4:(lbl b).length<=(lbl e).length:=by
    unfold Bs0 at he;obtain⟨_,pa,pb,he2,he3⟩:=List.find?_eq_some_iff_append.1 he;obtain⟨v1,v2,vs⟩:=Ct.1 hu;have hbm:=hm;rw[he2] at hbm;rcases Cn.1 hbm with hbm|hbm
    .have:=he3 b hbm;rw[g3] at this;cases this
    .rcases Cj.1 hbm with rfl|hbm
     .exact B7 _
     .obtain⟨j,hj⟩:=Ep hbm;have e1:(upN z.origin n)[pa.length]? =some e:=by rw[he2,Cz (B7 _)];simp
      have e2:(upN z.origin n)[pa.length+1+j]? =some b:=by rw[he2,Cz (by omega),show pa.length+1+j - pa.length=j+1 by omega];simpa using hj
      have l2:=(Br.1 e2).1;rw[show (upN z.origin n).length=(lbl n).length - (lbl z.origin).length+1 by simp[upN]] at l2;rw[Q6 (by omega)] at e1 e2;injection e1 with e1;injection e2 with e2;rw[<-e1,<-e2,(Ll v1 _).2,(Ll v1 _).2,Dy,Dy];omega
   obtain⟨_,vb,sb⟩:=Ct.1 g1;obtain⟨_,ve,se⟩:=Ct.1 q1;rw[Fy] at sb se;show b=e;refine Nb vb ve ?_;rw[sb,se,Nat.le_antisymm q4 q3]
def c3 (s:List UInt8):List UInt8:=s.take 300
def F8 (o:List UInt8) (l:List Rec):PV.a [.s o,B6 l]=Zone.pv ⟨o,l⟩:=rfl
def Gt (z:Zone):(⟨z.origin,z.recs⟩:Zone)=z:=rfl
end Go.X.G
/- Names with another end; redirections; what records of a name say. -/
namespace Go.X
structure Res where
 kind:Int
 owner:List UInt8
 wild:Bool
 target:List UInt8
 recs:List Rec
 deriving DecidableEq
def Res.cells (x:Res):List PV:=[.i .i64 x.kind,.s x.owner,.b x.wild,.s x.target,B6 x.recs]
def Res.pv (x:Res):PV:= .a x.cells
def Cr7 (x:Res):Dw 0 x.pv=some (.i .i64 x.kind):=rfl
def Cr6 (x:Res):Dw 1 x.pv=some (.s x.owner):=rfl
def Cr5 (x:Res):Dw 2 x.pv=some (.b x.wild):=rfl
def Cr4 (x:Res):Dw 3 x.pv=some (.s x.target):=rfl
def Cr3 (x:Res):Dw 4 x.pv=some (B6 x.recs):=rfl
def Fs7 (x:Res):Lz 0 5 x.pv=some x.pv:=rfl
def Gy5 (x:Res):U6 5 x.pv=some x.pv:=rfl
def Ep9 (k:Int) (o:List UInt8) (w:Bool) (t:List UInt8) (l:List Rec):PV.a [.i .i64 k,.s o,.b w,.s t,B6 l]=Res.pv ⟨k,o,w,t,l⟩:=rfl
def pp (l:List Rec) (k:IntKind) (z:Int) (n:List UInt8) (x:Rec) (h0:0<=z) (h3:l[z.toNat]? =some x):
  M8 16 0 [.s n] (B6 l) (.i k z)=some (B6 (l.set z.toNat {x with name:=n})):=by
 have h4:(l.map Rec.pv)[z.toNat]? =some x.pv:=by rw[C9,h3];rfl
 simp only[M8,B6,h0,h4,and_self,if_true,B3];have h5:O2 x.pv 0 [.s n]=some (Rec.pv {x with name:=n}):=rfl;rw[h5];simp[List.map_set]
set_option linter.defProp false in
def EVR:=(And.intro @Cr7 (And.intro @Cr6 (And.intro @Cr5 (And.intro @Cr4 (And.intro @Cr3 (And.intro @Fs7 (And.intro @Gy5 @Ep9)))))))
end Go.X
namespace Go.X.G
open Go Go.X
def qb (n top to:List UInt8):List (List UInt8):=(lbl n).take ((lbl n).length - (lbl top).length)++lbl to
def replN (n top to:List UInt8):List UInt8×Int:=
 if vld n=true∧vld top=true∧vld to=true∧(lbl to)[0]? ≠some [42] then
  if under n top=true∧n≠top then
   if(flat (qb n top to)).length<=254 then(flat (qb n top to),0) else([],9)
  else([],1)
 else([],2)
def Pq {l:List (List UInt8)} (h:G9 true l=true) (h2:l[0]? ≠some [42]):G9 false l=true:=by
 cases l with
 |nil=>rfl
 |cons p r=>
  simp only[G9,Bp] at h ⊢;refine⟨⟨h.1.1,?_⟩,h.2⟩;have:p≠[42]:=fun e=>h2 (by rw[e];rfl);simp[this]
def Bz5 {n top to:List UInt8} (hu:under n top=true) (hne:n≠top) (ht:vld to=true) (hs:(lbl to)[0]? ≠some [42]):G9 true (qb n top to)=true∧qb n top to≠[]∧(lbl n).take ((lbl n).length - (lbl top).length)≠[]:=by
 obtain⟨vn,vt,sf⟩:=Ct.1 hu;have hlt:(lbl top).length<(lbl n).length:=by
  have:=sf.length_le;rcases Nat.lt_or_ge (lbl top).length (lbl n).length with h|h
  .exact h
  .exact absurd (I2 hu h) hne
 have h1:(lbl n).take ((lbl n).length - (lbl top).length)≠[]:=by intro e;have:=congrArg List.length e;rw[Cw,C3] at this;omega
 have h2:G9 true ((lbl n).take ((lbl n).length - (lbl top).length))=true:=by have:=M4 vn;rw[<-C7 ((lbl n).length - (lbl top).length) (lbl n),Mc,Bp] at this;exact this.1
 refine⟨?_,by unfold qb;simp[h1],h1⟩;unfold qb;rw[Mc,h2,List.isEmpty_eq_false_iff.2 h1];simp[Pq (M4 ht) hs]
def mr (s t:List UInt8) (hs:s.length<=9223372036854775807) (h:t.isSuffixOf s=true):S Ap9 2 [.s s,.s t]=some [.s (s.take (s.length - t.length))]:=by
 have hle:t.length<=s.length:=(G6.1 h).length_le;have k1:=T4 s t hs;rw[h] at k1;have k2:S Ap5 2 [.s s,.s t]=some [.s (s.take (s.length - t.length))]:=by
  refine Hv4 (N:=1) rfl ?_;have h6:By7 (.s s) (.i .i64 0) (.i .i64 ((s.length:Int) - (t.length:Int)))=some (.s (s.take (s.length - t.length))):=by
   rw[Hj3 _ _ _ _ _ (by omega) (by omega) (by omega)];have:((s.length:Int) - (t.length:Int)).toNat=s.length - t.length:=by omega
   rw[this];simp
  simp(disch:=omega)only[Gn6,k1,h6,Ay,simprocAttr]
 refine Hx0 (N:=1) rfl ?_;simp(disch:=omega)only[Gp5,k2,Ay,simprocAttr]
def yl (n top to:List UInt8) (hn:n.length<=9223372036854775807) (ht:top.length<=9223372036854775807) (hto:to.length<=9223372036854775807):S As4 3 [.s n,.s top,.s to]=some [.s (replN n top to).1,.i .i64 (replN n top to).2]:=by
 refine Hb4 (N:=1) rfl ?_;have k1:=Dx n hn;have k2:=Dx top ht;have k3:=Dx to hto;unfold replN;rcases Bm (vld n) with v1|v1
 .rcases Bm (vld top) with v2|v2
  .rcases Bm (vld to) with v3|v3
   .rw[v1] at k1;rw[v2] at k2;rw[v3] at k3;have hp:=R8 v3;have hsf:=Uc v3;obtain⟨c,hc⟩:∃c,to[0]? =some c:=⟨_,B0 hp⟩;rw[hc] at hsf;by_cases hs:c=42
    .rw[if_neg (by rw[hs] at hsf;simp[hsf.1 rfl])];subst hs;simp(disch:=omega)only[Oh,k1,k2,k3,hc,Ay,simprocAttr]
     try simp
    .have hs':(lbl to)[0]? ≠some [42]:=fun e=>hs (by have:=hsf.2 e;simpa using this);have hcc:¬(c.toNat:Int)=42:=fun e=>hs (by apply UInt8.toNat.inj;have:(42:UInt8).toNat=42:=rfl;omega)
     rw[if_pos ⟨v1,v2,v3,hs'⟩];have tl:=H4 v2;have k4:=lj n top hn (by omega);rw[c9 v1 v2] at k4;by_cases he:n=top
     .rw[if_neg (by simp[he])];simp(disch:=omega)only[Oh,k1,k2,k3,hc,hcc,he,Ay,simprocAttr]
     .rcases Bm (under n top) with hu|hu
      .rw[hu] at k4;rw[if_pos ⟨hu,he⟩];obtain⟨q1,q2,q3⟩:=Bz5 hu he v3 hs';have nl:=H4 v1;have tol:=H4 v3;have hnr:n≠[46]:=by rintro rfl;have:=(Ct.1 hu).2.2.length_le;rw[Jz] at this;exact he (Nb v1 v2 (by rw[Jz];exact(Xb.1 (by simpa using this)).symm))
       have hnf:n=flat (lbl n):=by have:=Ol v1;unfold jn at this;rwa[if_neg (fun h=>hnr ((Y6 v1).1 h))] at this
       have hsp:lbl n=(lbl n).take ((lbl n).length - (lbl top).length)++lbl top:=by
        have:=(Ct.1 hu).2.2;rw[Fy] at this
        conv=>lhs;rw[<-C7 ((lbl n).length - (lbl top).length) (lbl n)]
        rw[<-this]
       have hhead:∃hd,hd=flat ((lbl n).take ((lbl n).length - (lbl top).length))∧hd.length<=254∧∀p3 p4 p5 p6,Ax6.ev S 1 [.s n,.s top,.s to,p3,p4,p5,p6]=some (.yld 0 [.s hd]):=by
        refine⟨_,rfl,?_,fun p3 p4 p5 p6=> ?_⟩
        .have:(flat (lbl n)).length<=254:=by rw[<-hnf];exact nl
         rw[hsp,Ng,Bt] at this;omega
        .by_cases hr:top=[46]
         .subst hr;rw[Jz,Fj] at hsp;rw[Jz,<-hsp,<-hnf];simp(disch:=omega)only[Oh,Ay,simprocAttr]
         .have htf:top=flat (lbl top):=by have:=Ol v2;unfold jn at this;rwa[if_neg (fun h=>hr ((Y6 v2).1 h))] at this
          have hna:n=flat ((lbl n).take ((lbl n).length - (lbl top).length))++top:=by
           conv=>lhs;rw[hnf,hsp,Ng]
           rw[<-htf]
          have hsuf:top.isSuffixOf n=true:=G6.2 ⟨_,hna.symm⟩;have k5:=mr n top hn hsuf;have htk:n.take (n.length - top.length)=flat ((lbl n).take ((lbl n).length - (lbl top).length)):=by
           conv=>lhs;rw[hna]
           rw[Bt,Ob,Bs6]
          rw[htk] at k5;generalize flat ((lbl n).take ((lbl n).length - (lbl top).length))=hd at*;simp(disch:=omega)only[Oh,k5,hr,Ay,simprocAttr]
       obtain⟨hd,hd1,hd2,hd3⟩:=hhead;have hfin:flat (qb n top to)=if to=[46] then hd else hd++to:=by
        unfold qb;rw[Ng,<-hd1];by_cases hr:to=[46]
        .rw[if_pos hr,hr,Jz];simp[flat]
        .rw[if_neg hr];have:=Ol v3;unfold jn at this;rw[if_neg (fun h=>hr ((Y6 v3).1 h))] at this;rw[<-this]
       rw[hfin];by_cases hr:to=[46]
       .rw[if_pos hr];subst hr;have h1:¬(255:Int)<=(hd.length:Int):=by omega
        rw[if_pos hd2];simp(disch:=omega)only[Oh,k1,k2,k3,k4,hc,hcc,he,hd3,h1,Ay,simprocAttr]
       .rw[if_neg hr];by_cases hlen:(hd++to).length<=254
        .rw[if_pos hlen];have h1:¬(255:Int)<=((hd++to).length:Int):=by omega
         simp(disch:=first|omega|(rw[Bt] at*;omega))only[Oh,k1,k2,k3,k4,hc,hcc,he,hd3,hr,h1,Ay,simprocAttr]
        .rw[if_neg hlen];have h1:(255:Int)<=((hd++to).length:Int):=by omega
         simp(disch:=first|omega|(rw[Bt] at*;omega))only[Oh,k1,k2,k3,k4,hc,hcc,he,hd3,hr,h1,Ay,simprocAttr]
      .rw[hu] at k4;rw[if_neg (by simp[hu])];simp(disch:=omega)only[Oh,k1,k2,k3,k4,hc,hcc,he,Ay,simprocAttr]
   .rw[if_neg (by simp[v3])];rw[v1] at k1;rw[v2] at k2;rw[v3] at k3;simp(disch:=omega)only[Oh,k1,k2,k3,Ay,simprocAttr]
  .rw[if_neg (by simp[v2])];rw[v1] at k1;rw[v2] at k2;simp(disch:=omega)only[Oh,k1,k2,Ay,simprocAttr]
 .rw[if_neg (by simp[v1])];rw[v1] at k1;simp(disch:=omega)only[Oh,k1,Ay,simprocAttr]
end Go.X.G
namespace Go.X.G
open Go Go.X
def J2 (z:Zone) (n:List UInt8) (t:Int) (hl:z.recs.length<=1000000):S Rk 3 [z.pv,.s n,.i .i64 t]=some [B6 (findR z.recs n t)]:=by refine Hk8 (N:=1) rfl ?_;have k1:=Bx1 z.recs n t hl;simp(disch:=omega)only[Gn4,k1,Ay,simprocAttr]
abbrev Gm5:Res:=⟨0,[],false,[],[]⟩
def ib (s:List UInt8):List UInt8:=if s[0]? =some 42 then [] else s
def dnB (z:Zone) (u:List UInt8):Bool:=decide (0<(findR z.recs u 39).length)
def Cl2 (z:Zone) (n:List UInt8):Option (List UInt8):=((upN z.origin n).drop 1).find? (dnB z)
def Sf (z:Zone) (n u:List UInt8):Res:=
 match findR z.recs u 39 with
 |r::_=>⟨3,u,false,ib (replN n u r.data.host).1,[r]⟩
 |[]=>Gm5
def jj (z:Zone) (n:List UInt8):Option Res:=(Cl2 z n).map (Sf z n)
def N4:Option Res->List PV
 |some x=>[x.pv,.b true]
 |none=>[Gm5.pv,.b false]
def Qz {z:Zone} (hz:z.wf) {n:List UInt8} {t:Int} {r:Rec} (h:r∈findR z.recs n t):r.wf:=hz.recs.2 r (Cg.1 h).1
def Hl (z:Zone) (n:List UInt8) (t:Int):(findR z.recs n t).length<=z.recs.length:=D4 _ _
def c42 (c:UInt8):(c.toNat:Int)=42↔c=42:=by
 constructor
 .intro h;apply UInt8.toNat.inj;have:(42:UInt8).toNat=42:=rfl;omega
 .rintro rfl;rfl
def Ff6 (z:Zone) (n:List UInt8) (hz:z.wf) (hl:z.recs.length<=1000000) (hu:under n z.origin=true) (N:Nat) (hN:1000<N):
  Fy7.ev S N [z.pv,.s n]=some (match jj z n with|some x=> .ret [x.pv,.b true]|none=> .yld 0 [.i .i64 0,.s [],.b false,.s [],B6 []]):=by
 obtain⟨v1,v2,_⟩:=Ct.1 hu;have hlb:=Nz n;have nl:=H4 v1;have h0:jn ((lbl n).drop 0)=n:=j9 v1;let res:Option (List UInt8)->Out:=fun o=>match o.map (Sf z n) with|some x=> .ret [x.pv,.b true]|none=> .yld 0 [.i .i64 0,.s [],.b false,.s [],B6 []]
 have:=Iq (fn:=S) (N:=N) (J:=[z.pv,.s n]) (id:=1) (init:=[(.v 1),(.c (.i .i64 (0))),(.c (.s [])),(.c (.b false)),(.c (.s [])),(.c (.l 16 []))]) (body:=Dt3) ((lbl n).length - (lbl z.origin).length)
  (fun k=>[.s (jn ((lbl n).drop k)),.i .i64 0,.s [],.b false,.s [],B6 []]) (fun k=>res (((upN z.origin n).drop (k+1)).find? (dnB z))) ?_ (by omega) (fun k hk=> ?_) ?_
 .exact this
 .rw[h0];simp(disch:=omega)only[Ay,simprocAttr]
 .have hup:(upN z.origin n)[k+1]? =some (jn ((lbl n).drop (k+1))):=Q6 hk;have hd:(upN z.origin n).drop (k+1)=jn ((lbl n).drop (k+1))::(upN z.origin n).drop (k+1+1):=by obtain⟨h1,h2⟩:=Br.1 hup;rw[D9 h1,h2]
  obtain⟨q1,q2⟩:=Cq1 hu hk;have q3:¬jn ((lbl n).drop k)=z.origin:=fun h=>by have:=(c7 hu (Nat.le_of_lt hk)).1 h;omega
  have q4:=ez v1 k;have q5:=ez v1 (k+1);have k1:=Qm (jn ((lbl n).drop k)) (by omega);rw[q1,q2] at k1;have k2:=J2 z (jn ((lbl n).drop (k+1))) 39 hl;rw[hd];generalize jn ((lbl n).drop (k+1))=nx at*;generalize jn ((lbl n).drop k)=cu at*;cases hf:findR z.recs nx 39 with
  |nil=>
   left;have h5:dnB z nx=false:=by unfold dnB;rw[hf];rfl
   rw[hf] at k2;rw[List.find?_cons_of_neg (by simp[h5])];refine⟨?_,rfl⟩;simp(disch:=omega)only[yr,k1,k2,q3,EVM,EVC,EVR,Ab,simprocAttr]
   try rfl
  |cons r rest=>
   right;have h5:dnB z nx=true:=by unfold dnB;rw[hf];simp
   have hrw:=Qz hz (n:=nx) (t:=39) (r:=r) (by rw[hf];exact .head _);have hll:=Hl z nx 39;have hh:=hrw.data.host;unfold T6 at hh;have k3:=yl n nx r.data.host (by omega) (by omega) hh;rw[hf] at k2 hll;rw[List.find?_cons_of_pos h5];have e:res (some nx)= .ret [(Res.mk 3 nx false (ib (replN n nx r.data.host).1) [r]).pv,.b true]:=by simp only[res,Cc,Sf,hf]
   rw[e];refine⟨?_,rfl⟩;have hpos:(0:Int)<((r::rest).length:Int):=by simp only[Cy];omega
   have hls:Jx 16 (B6 (r::rest)) (.i .i64 0) (.i .i64 1)=some (B6 [r]):=by rw[Jw _ _ _ _ _ (by omega) (by omega) (by omega)];rfl
   have hix:H6 16 (B6 (r::rest)) (.i .i64 0)=some r.pv:=by rw[L0 _ _ _ (by omega)];rfl
   unfold ib;generalize replN n nx r.data.host=rp at*;obtain⟨to,er⟩:=rp;generalize (r::rest)=ll at*;cases to with
   |nil=>
    simp(disch:=omega)only[yr,k1,k2,k3,q3,hpos,hls,hix,EVM,EVC,EVR,Ab,simprocAttr]
    try simp
   |cons c tr=>
    by_cases hc:c=42
    .subst hc;simp(disch:=omega)only[yr,k1,k2,k3,q3,hpos,hls,hix,EVM,EVC,EVR,Ab,simprocAttr]
     try simp
    .have hc2:¬(c.toNat:Int)=42:=fun h=>hc ((c42 c).1 h);simp(disch:=omega)only[yr,k1,k2,k3,q3,hpos,hls,hix,hc2,EVM,EVC,EVR,Ab,simprocAttr]
     try simp[hc]
 .have q3:=(c7 hu (B7 _)).2 rfl;have h9:(upN z.origin n).drop ((lbl n).length - (lbl z.origin).length+1)=[]:=M1 (by simp[upN]);rw[h9,q3,List.find?_nil];refine⟨?_,rfl⟩;simp(disch:=omega)only[yr,EVM,EVC,EVR,Ab,simprocAttr]
  try rfl
def nr (z:Zone) (n:List UInt8) (hz:z.wf) (hl:z.recs.length<=1000000) (hu:under n z.origin=true):S Eg9 2 [z.pv,.s n]=some (N4 (jj z n)):=by
 refine Ic4 (N:=1001) rfl ?_;have key:=Ff6 z n hz hl hu 1001 (by omega);cases h:jj z n with
 |none=>
  rw[h] at key;simp(disch:=omega)only[yr,key,N4,EVM,EVC,EVR,Ab,simprocAttr]
 |some x=>
  rw[h] at key;simp(disch:=omega)only[yr,key,N4,EVM,EVC,EVR,Ab,simprocAttr]
def allR (z:Zone) (n:List UInt8):List Rec:=z.recs.filter fun r=>decide (r.name=n)
def Gm2 (t:Int):Bool:=decide (t=5)||decide (t=47)||decide (t=46)||decide (t=255)
def typedR (l:List Rec) (t:Int):List Rec:=if t=255 then l else l.filter fun r=>decide (r.typ=t)
def Fk3 (l:List Rec) (t:Int):Option Rec:=if Gm2 t=true then none else l.find? fun r=>decide (r.typ=5)
def saysM (l:List Rec) (t:Int):Res:=
 match Fk3 l t with
 |some c=>⟨2,[],false,c.data.host,[c]⟩
 |none=>if typedR l t=[] then ⟨5,[],false,[],[]⟩ else ⟨1,[],false,[],typedR l t⟩
def An2 (z:Zone) (n:List UInt8) (hl:z.recs.length<=1000000):S Dw2 2 [z.pv,.s n]=some [B6 (allR z n)]:=by
 refine Ic1 (N:=z.recs.length+1) rfl ?_;have key:Fy6.ev S (z.recs.length+1) [z.pv,.s n]=some (.yld 0 [B6 ([]++allR z n)]):=by
  refine E7 z.recs (fun i (b:List Rec)=>[B6 b,.i .i64 (i:Int)]) (fun i b r=> .yld 0 [B6 (b++r.filter fun r=>decide (r.name=n))]) (fun i b=>b.length<=i) [] rfl (Df _) (by omega) (fun i b c r hd hi hc hI=> ?_) (fun b hI=> ?_)
  .left;by_cases h:c.name=n
   .refine⟨b++[c],?_,by simp;omega,by simp[h]⟩;simp(disch:=omega)only[Ew1,hc,h,EVM,EVC,EVR,Ab,simprocAttr]
    try simp[<-h]
   .refine⟨b,?_,by omega,by simp[h]⟩;simp(disch:=omega)only[Ew1,hc,h,EVM,EVC,EVR,Ab,simprocAttr]
  .simp(disch:=omega)only[Ew1,EVM,EVC,EVR,Ab,simprocAttr]
   try simp[Out.goes]
 rw[Dc] at key;generalize allR z n=ar at*;simp(disch:=omega)only[Ew1,key,EVM,EVC,EVR,Ab,simprocAttr]
def Cq2 (r:Rec) (t:Int):S s8 1 [r.pv,.i .i64 t]=some [.b (decide (r.typ≠t))]:=by
 refine Hw9 (N:=1) rfl ?_;simp(disch:=omega)only[Gp4,EVM,EVC,EVR,Ab,simprocAttr]
 try simp
def Ag7 (l:List Rec) (t:Int) (hl:l.length<=1000000):S tn 2 [B6 l,.i .i64 t]=some [B6 (typedR l t)]:=by
 refine Hb3 (N:=1) rfl ?_;unfold typedR;by_cases h:t=255
 .rw[if_pos h];simp(disch:=omega)only[Fv3,h,EVM,EVC,EVR,Ab,simprocAttr]
 .rw[if_neg h];have k1:=P0 l hl;have k2:=Vd l s8 [.i .i64 t] _ hl (fun r _=>Cq2 r t);have e:(l.filter fun x=> !decide (x.typ≠t))=l.filter fun r=>decide (r.typ=t):=by congr 1;funext x;simp
  rw[e] at k2;generalize (l.filter fun r=>decide (r.typ=t))=fl at*;simp(disch:=omega)only[Fv3,h,k1,k2,Ey,Jk,EVT,EVM,EVC,EVR,Ab,simprocAttr]
def Dl4 (t:Int):S As3 1 [.i .i64 t]=some [.b (Gm2 t)]:=by
 refine Hb2 (N:=1) rfl ?_;unfold Gm2;by_cases h1:t=5
 .subst h1;simp(disch:=omega)only[oc,EVM,EVC,EVR,Ab,simprocAttr];try simp
 .by_cases h2:t=47
  .subst h2;simp(disch:=omega)only[oc,EVM,EVC,EVR,Ab,simprocAttr];try simp
  .by_cases h3:t=46
   .subst h3;simp(disch:=omega)only[oc,EVM,EVC,EVR,Ab,simprocAttr];try simp
   .by_cases h4:t=255
    .subst h4;simp(disch:=omega)only[oc,EVM,EVC,EVR,Ab,simprocAttr];try simp
    .simp(disch:=omega)only[oc,h1,h2,h3,h4,EVM,EVC,EVR,Ab,simprocAttr];try simp[h1,h2,h3,h4]
def Uv (l:List Rec) (t:Int):(typedR l t).length<=l.length:=by
 unfold typedR;split
 .exact B7 _
 .exact D4 _ _
def Cg9 (l:List Rec) (t:Int) (hl:l.length<=1000000):S Dw3 2 [B6 l,.i .i64 t]=some [(saysM l t).pv]:=by
 refine Ic2 (N:=1) rfl ?_;have k1:=Ag7 l 5 hl;have k2:=Ag7 l t hl;have k3:=Dl4 t;have hh:(typedR l 5).head? =l.find? fun r=>decide (r.typ=5):=by unfold typedR;rw[if_neg (by omega),List.head?_filter]
 have hl2:=Uv l 5;have hl3:=Uv l t;have tail:∀a b,T.ev S 1 Dn8 [B6 l,.i .i64 t,a,b]=some (.ret [(if typedR l t=[] then(⟨5,[],false,[],[]⟩:Res) else ⟨1,[],false,[],typedR l t⟩).pv]):=by
  intro a b;by_cases h:typedR l t=[]
  .rw[if_pos h];rw[h] at k2;simp(disch:=omega)only[Bt9,k2,EVM,EVC,EVR,Ab,simprocAttr]
   try rfl
  .rw[if_neg h];have hp:(0:Int)<((typedR l t).length:Int):=by have:=C1.2 h;omega
   generalize typedR l t=tl at*;simp(disch:=omega)only[Bt9,k2,hp,EVM,EVC,EVR,Ab,simprocAttr]
 unfold saysM Fk3;cases hf:typedR l 5 with
 |nil=>
  rw[hf] at k1 hh;have e:(if Gm2 t=true then none else l.find? fun r=>decide (r.typ=5))=none:=by rw[<-hh];simp
  rw[e];simp(disch:=omega)only[↓tail,Bt9,k1,EVM,EVC,EVR,Ab,simprocAttr]
 |cons c r=>
  rw[hf] at k1 hh hl2;rw[List.head?_cons] at hh;rw[<-hh];have hp:(0:Int)<((c::r).length:Int):=by simp only[Cy];omega
  rcases Bm (Gm2 t) with hd|hd
  .rw[hd] at k3;simp only[hd,if_true];simp(disch:=omega)only[↓tail,Bt9,k1,k3,hp,EVM,EVC,EVR,Ab,simprocAttr]
  .rw[hd] at k3;simp only[hd,B5,if_false];have hls:Jx 16 (B6 (c::r)) (.i .i64 0) (.i .i64 1)=some (B6 [c]):=by rw[Jw _ _ _ _ _ (by omega) (by omega) (by omega)];rfl
   have hix:H6 16 (B6 (c::r)) (.i .i64 0)=some c.pv:=by rw[L0 _ _ _ (by omega)];rfl
   generalize (c::r)=ll at*;simp(disch:=omega)only[Bt9,k1,k3,hp,hls,hix,EVM,EVC,EVR,Ab,simprocAttr]
def anB (x y:Int):Int:=IntKind.u64.wrap ((BitVec.ofInt IntKind.u64.bits x &&& ~~~ BitVec.ofInt IntKind.u64.bits y).toNat:Int)
def adB (x y:Int):Int:=IntKind.u64.wrap ((BitVec.ofInt IntKind.u64.bits x &&& BitVec.ofInt IntKind.u64.bits y).toNat:Int)
def orB (x y:Int):Int:=IntKind.u64.wrap ((BitVec.ofInt IntKind.u64.bits x|||BitVec.ofInt IntKind.u64.bits y).toNat:Int)
def Ht1 (x y:Int):X.bin .andNot (.i .u64 x) (.i .u64 y)=some (.i .u64 (anB x y)):=by rw[D2];rfl
def Ht4 (x y:Int):X.bin .and (.i .u64 x) (.i .u64 y)=some (.i .u64 (adB x y)):=by rw[mw];rfl
def Hf7 (x y:Int):X.bin .or (.i .u64 x) (.i .u64 y)=some (.i .u64 (orB x y)):=by rw[Fd7];rfl
def dm (l:List Int) (hk:∀t∈l,knw t=true) (hl:l.length<=1000000):S Ys 1 [J7 l]=some [.i .u64 (l.foldl bitO 0)]:=by refine Hb9 (N:=1) rfl ?_;have h:=Ej8 l hk hl;generalize l.foldl bitO 0=v at*;simp(disch:=omega)only[Gr4,h,Az,simprocAttr]
def ax:Int:=211106232532992
def Eq6:Int:=8796093022212
def Hf5:S Ys 1 [.l 1 [.i .i64 47,.i .i64 46]]=some [.i .u64 ax]:=by
 have:=dm [47,46] (by decide) (by decide);have e:[47,46].foldl bitO 0=ax:=by kernel_rfl
 rw[e] at this;exact this
def Hf4:S Ys 1 [.l 1 [.i .i64 2,.i .i64 43]]=some [.i .u64 Eq6]:=by
 have:=dm [2,43] (by decide) (by decide);have e:[2,43].foldl bitO 0=Eq6:=by kernel_rfl
 rw[e] at this;exact this
def tyO (z:Zone) (n:List UInt8):Int:=anB ((typesR z.recs n).foldl bitO 0) ax
def chBits (z:Zone) (n:List UInt8):Int:=orB (if n∈cutsN z then adB (tyO z n) Eq6 else tyO z n) ax
def Mm (z:Zone) (ttl:Int) (n:List UInt8):Option Rec:=
 if tyO z n=0 then none else some ⟨n,47,ttl,⟨false,0,0,z.origin,[],[],0,0,0,0,0,0,chBits z n⟩⟩
def chain0 (z:Zone) (ttl:Int):List Rec:=(namesN z).filterMap (Mm z ttl)
def S3 (z:Zone):Int:=match findR z.recs z.origin 6 with|[]=>0|r::_=>r.data.e
def Gj6 (h:List UInt8) (r:Rec):Rec:={r with data:={r.data with host:=h}}
def lnk (g:List Rec) (i:Nat):List Rec:=
 if 0<i then match g[i - 1]?,g[i]? with
  |some a,some b=>g.set (i - 1) (Gj6 b.name a)
  |_,_=>g
 else g
def Dy0:Nat->Nat->List Rec->List Rec
 |0,_,g=>g
 |k+1,i,g=>Dy0 k (i+1) (lnk g i)
def chainN (z:Zone):List Rec:=Dy0 (chain0 z (S3 z)).length 0 (chain0 z (S3 z))
def j5 (g:List Rec) (i:Nat):(lnk g i).length=g.length:=by
 unfold lnk;split
 .split
  .rw[Ik]
  .rfl
 .rfl
def Iy8 (l:List Rec) (j:Nat) (h:List UInt8) (x:Rec) (hx:l[j]? =some x):M8 16 6 [.s h] (B6 l) (.i .i64 (j:Int))=some (B6 (l.set j (Gj6 h x))):=by
 have h1:=(Br.1 hx).1;have h3:(l.map Rec.pv)[j]? =some x.pv:=by rw[C9,hx];rfl
 have h0:(0:Int)<=(j:Int):=by omega
 simp only[M8,B6,h0,Fq,h3,and_self,if_true,B3];have h4:O2 x.pv 6 [.s h]=some (Gj6 h x).pv:=rfl;rw[h4];simp[List.map_set]
def Fk9 (z:Zone) (ttl:Int) (s:List Rec) (hz:z.wf) (hl:z.recs.length<=1000000) (cl:(cutsN z).length<=1000000) (hn:(namesN z).length<=1000000) (hs:∃r,s=[r]∧r.data.e=ttl) (p1:PV) (N:Nat) (hN:(namesN z).length<N):
  Fy9.ev S N [z.pv,p1,.i .u64 ax,.i .u64 Eq6,B6 s,C8 (cutsN z),C8 (namesN z)]=some (.yld 0 [B6 (chain0 z ttl)]):=by
 obtain⟨r0,rfl,hr0⟩:=hs;have hor:(chain0 z ttl)=[]++(namesN z).filterMap (Mm z ttl):=rfl;rw[hor];have ki:=fun n=>Vn (cutsN z) n cl;have kt:=fun n=>Ej7 z.recs n hl;refine E7 (N:=N) (namesN z) (fun i (g:List Rec)=>[B6 g,.i .i64 (i:Int)]) (fun i g r=> .yld 0 [B6 (g++r.filterMap (Mm z ttl))]) (fun i g=>g.length<=i) [] rfl (Df _) hN (fun i g c r hd hi hc hI=> ?_) (fun g hI=> ?_)
 .left;have e1:=Ht1 ((typesR z.recs c).foldl bitO 0) ax;have e2:anB ((typesR z.recs c).foldl bitO 0) ax=tyO z c:=rfl;rw[e2] at e1;have kt:=kt c;have ki:=ki c;have eb:chBits z c=orB (if c∈cutsN z then adB (tyO z c) Eq6 else tyO z c) ax:=rfl;have hil:(i:Int)<((namesN z).length:Int):=by omega
  generalize (typesR z.recs c).foldl bitO 0=ty at*;by_cases h0:tyO z c=0
  .have hci:Mm z ttl c=none:=by unfold Mm;rw[if_pos h0]
   refine⟨g,?_,by omega,by rw[Ff5,hci]⟩;rw[h0] at e1;generalize namesN z=nn at*;generalize cutsN z=cc at*;simp(disch:=omega)only[g8,hc,hil,kt,ki,e1,Az,simprocAttr]
  .have hci:Mm z ttl c=some ⟨c,47,ttl,⟨false,0,0,z.origin,[],[],0,0,0,0,0,0,chBits z c⟩⟩:=by unfold Mm;rw[if_neg h0]
   have ho:=Hf7 (if c∈cutsN z then adB (tyO z c) Eq6 else tyO z c) ax;rw[<-eb] at ho;refine⟨g++[⟨c,47,ttl,⟨false,0,0,z.origin,[],[],0,0,0,0,0,0,chBits z c⟩⟩],?_,by simp;omega,by rw[Ff5,hci,Cv];rfl⟩;have ea:=Ht4 (tyO z c) Eq6;generalize chBits z c=bits at*;generalize tyO z c=t at*;generalize adB t Eq6=u at*;generalize namesN z=nn at*;by_cases h1:c∈cutsN z
   .rw[if_pos h1] at ho;generalize cutsN z=cc at*;simp(disch:=omega)only[g8,hc,hil,kt,ki,e1,ea,ho,h0,h1,hr0,Az,simprocAttr]
   .rw[if_neg h1] at ho;generalize cutsN z=cc at*;simp(disch:=omega)only[g8,hc,hil,kt,ki,e1,ea,ho,h0,h1,hr0,Az,simprocAttr]
 .generalize namesN z=nn at*;simp(disch:=omega)only[g8,Nt,Az,simprocAttr];simp[Out.goes]
def Fk8 (c0:List Rec) (hl:c0.length<=1000000) (N:Nat) (hN:c0.length<N) (p0 p1 p2 p3 p4 p5 p6:PV):
  Fx6.ev S N [p0,p1,p2,p3,p4,p5,p6,B6 c0]=some (.yld 0 [B6 (Dy0 c0.length 0 c0)]):=by
 refine E7 (N:=N) c0 (fun i (g:List Rec)=>[B6 g,.i .i64 (i:Int)]) (fun i g r=> .yld 0 [B6 (Dy0 r.length i g)]) (fun i g=>g.length=c0.length) c0 rfl rfl hN (fun i g c r hd hi hc hI=> ?_) (fun g hI=> ?_)
 .left;refine⟨lnk g i,?_,by rw[j5];exact hI,rfl⟩;have hil:(i:Int)<(c0.length:Int):=by omega
  unfold lnk;by_cases h0:0<i
  .have a1:g[i - 1]? =some (g[i - 1]'(by omega)):=B0 (by omega);have a2:g[i]? =some (g[i]'(by omega)):=B0 (by omega);generalize g[i - 1]'(by omega)=a at*;generalize g[i]'(by omega)=b at*;rw[if_pos h0,a1,a2];simp only;have e1:(i:Int) - 1=((i - 1:Nat):Int):=by omega
   have e2:IntKind.i64.wrap ((i:Int) - 1)=((i - 1:Nat):Int):=by rw[w64 (by omega) (by omega)];exact e1
   have e3:=Iy8 g (i - 1) b.name a a1;have h0':(0:Int)<(i:Int):=by omega
   simp(disch:=omega)only[g8,hil,h0',e1,e2,e3,a1,a2,Az,simprocAttr]
  .have h0':¬(0:Int)<(i:Int):=by omega
   rw[if_neg h0];simp(disch:=omega)only[g8,hil,h0',Az,simprocAttr]
 .simp(disch:=omega)only[g8,Nt,Az,simprocAttr];simp[Out.goes,Dy0]
def Vq (z:Zone) (ttl:Int):(chain0 z ttl).length<=(namesN z).length:=List.length_filterMap_le _ _
def Et1 (z:Zone) (hl:z.recs.length<=1000):(cutsN z).length<=1000000:=by have:=Sy ((z.recs.filter (Em z)).map Rec.name);have h2:=D4 (Em z) z.recs;rw[E9] at this;unfold cutsN;omega
def yq (z:Zone) (hz:z.wf) (hl:z.recs.length<=1000):S Dw6 1 [z.pv]=some (if Jm z=0 then [B6 (chainN z),.i .i64 0] else [B6 [],.i .i64 13]):=by
 have hn:=P9 z hl;have hc:=Et1 z hl;have hcl:=Vq z (S3 z);refine Ic6 (N:=(namesN z).length+1) rfl ?_;have k1:=yj z hz (by omega);by_cases h:Jm z=0
 .rw[if_pos h];rw[h] at k1;have ho:=Z4 h;obtain⟨s,es⟩:=List.length_eq_one_iff.1 ho.soa;have k2:=J2 z z.origin 6 (by omega);have k3:=Af4 z hz (by omega);have k4:=Xd z hz (by omega);have em:S3 z=s.data.e:=by unfold S3;rw[es]
  have l0:=Fk9 z (S3 z) [s] hz (by omega) hc hn ⟨s,rfl,em.symm⟩ (.i .i64 0) ((namesN z).length+1) (by omega);have l1:=Fk8 (chain0 z (S3 z)) (by omega) ((namesN z).length+1) (by omega);rw[es] at k2;have ec:Dy0 (chain0 z (S3 z)).length 0 (chain0 z (S3 z))=chainN z:=rfl;rw[ec] at l1;generalize chainN z=cn at*;generalize chain0 z (S3 z)=c0 at*;generalize cutsN z=cc at*;generalize namesN z=nn at*;have o1:=Hf5;have o2:=Hf4;have q1:Kf 1 [.i .i64 47,.i .i64 46]=some (.l 1 [.i .i64 47,.i .i64 46]):=rfl;have q2:Kf 1 [.i .i64 2,.i .i64 43]=some (.l 1 [.i .i64 2,.i .i64 43]):=rfl;simp(disch:=omega)only[g8,k1,k2,k3,k4,l0,l1,o1,o2,q1,q2,F8,Gt,Az,simprocAttr]
 .rw[if_neg h];simp(disch:=omega)only[g8,k1,h,F8,Gt,Az,simprocAttr]
def Mw {n:List UInt8} (h:vld n=true):under n n=true:=Ct.2 ⟨h,h,List.suffix_refl _⟩
def Uq {a b:List UInt8} (h1:under a b=true) (h2:under b a=true):a=b:=by refine I2 h1 ?_;exact(Ct.1 h2).2.2.length_le
def Pk {z:Zone} {r:Rec}:Em z r=true↔r.typ=2∧r.name≠z.origin∧under r.name z.origin=true:=by unfold Em Gz;simp only[Bp,decide_eq_true_eq,ne_eq]
def Mf {l:List Rec} {n:List UInt8} {t:Int} {r:Rec}:r∈findR l n t↔r∈l∧r.name=n∧r.typ=t:=by unfold findR;rw[Cg];simp only[isK,Bp,decide_eq_true_eq]
def ZOk.soaR {z:Zone} (h:ZOk z):∃r∈z.recs,r.name=z.origin∧r.typ=6:=by
 have:=h.soa;cases e:findR z.recs z.origin 6 with
 |nil=>rw[e] at this;cases this
 |cons r l=>
  have:r∈findR z.recs z.origin 6:=by rw[e];exact .head _
  exact⟨r,(Mf.1 this).1,(Mf.1 this).2⟩
def fk (z:Zone):Oz z z.origin=false:=by
 cases h:Oz z z.origin with
 |false=>rfl
 |true=>
  unfold Oz at h;simp only[Dj,Bp,decide_eq_true_eq] at h;obtain⟨r,_,⟨h1,_⟩,h3⟩:=h;obtain⟨_,h4,h5⟩:=Pk.1 h1;exact absurd (Uq h5 h3) h4
def ZOk.exO {z:Zone} (h:ZOk z):exB z z.origin=true:=by obtain⟨r,hr,e,_⟩:=h.soaR;have u:=Mw h.origin;exact(L1 z _).2 ⟨r,hr,by rw[e];exact u,by rw[e];exact fk z,by rw[e];exact u,u⟩
def Xk {z:Zone} {n:List UInt8} (h:exB z n=true):under n z.origin=true:=by obtain⟨_,_,_,_,_,h⟩:=(L1 z n).1 h;exact h
def Ik9 {z:Zone} (h:ZOk z) {n:List UInt8} (hu:under n z.origin=true):encN z n≠[]∧under n (encN z n)=true∧exB z (encN z n)=true:=by
 unfold encN;rw[if_pos hu];cases e:Bs0 z n with
 |none=>
  unfold Bs0 at e;rw[Ik6] at e;exact absurd h.exO (e _ ((On hu).2 ⟨hu,Mw h.origin⟩))
 |some x=>
  obtain⟨h1,h2⟩:=Py hu e;exact⟨ol (Ct.1 h1).2.1,h1,h2⟩
def Dh5 {z:Zone} {n x:List UInt8} (hu:under n x=true) (hx:exB z x=true):(lbl x).length<=(lbl (encN z n)).length:=by
 have hne:=ol (Ct.1 hu).2.1;have h0:=Dt1 z n;obtain⟨h1,h2⟩:=Xx n (namesN z) [] (.inl rfl);rw[h0] at h1 h2;have hm:x∈namesN z:=by have:=Nl z x;rw[hx] at this;simpa using this
 by_cases hb:encN z n=[]
 .have:=(h1 hb).2 x hm;rw[hu] at this;cases this
 .exact(h2 hb).2.2.2 x hm hu
def X1 {a b c:List (List UInt8)} (h1:a<:+c) (h2:b<:+c) (h:a.length<=b.length):a<:+b:=by exact List.suffix_of_suffix_length_le h1 h2 h
def ww {z:Zone} {n:List UInt8} (ho:ZOk z) (h:cutN z n≠[]):
  under n (cutN z n)=true∧cutN z n≠z.origin∧(findR z.recs (cutN z n) 2).length≠0∧encN z n=cutN z n∧under n z.origin=true∧exB z (cutN z n)=true:=by
 obtain⟨_,h2⟩:=Pb z n z.recs [] (.inl rfl);obtain⟨g1,g2,_,g4⟩:=h2 h;change under n (cutN z n)=true at g1;change cutN z n=[]∨∃r∈z.recs,Em z r=true∧r.name=cutN z n at g2;change∀r∈z.recs,Em z r=true->under n r.name=true->(lbl (cutN z n)).length<=(lbl r.name).length at g4;obtain⟨r,hr,hc,hn⟩:=g2.resolve_left h;generalize cutN z n=c at*;obtain⟨c1,c2,c3⟩:=Pk.1 hc;rw[hn] at c2 c3;have hu:=Lm g1 c3;have hh:Oz z c=false:=by
  cases e:Oz z c with
  |false=>rfl
  |true=>
   unfold Oz at e;simp only[Dj,Bp,decide_eq_true_eq] at e;obtain⟨x,hx,⟨x1,x2⟩,x3⟩:=e;have:=g4 x hx x1 (Lm g1 x3);exact absurd (I2 x3 this).symm x2
 have hv:=(Ct.1 c3).1;have hex:exB z c=true:=(L1 z c).2 ⟨r,hr,by rw[hn];exact c3,by rw[hn];exact hh,by rw[hn];exact Mw hv,c3⟩;refine⟨g1,c2,?_,?_,hu,hex⟩
 .have:r∈findR z.recs c 2:=Mf.2 ⟨hr,hn,c1⟩;intro e;rw[Xb.1 e] at this;cases this
 .obtain⟨_,e1,e2⟩:=(Ik9 ho hu);have hm:=Dh5 g1 hex;generalize encN z n=e at*;obtain⟨_,_,s1⟩:=Ct.1 g1;obtain⟨_,ve,s2⟩:=Ct.1 e1;have s3:=X1 s1 s2 hm;have ec:under e c=true:=Ct.2 ⟨ve,hv,s3⟩;by_cases hl:(lbl e).length<=(lbl c).length
  .exact I2 ec hl
  .exfalso;obtain⟨x,hx,x1,x2,x3,_⟩:=(L1 z e).1 e2;have hxc:=Lm x3 ec;have:Oz z x.name=true:=by unfold Oz;simp only[Dj,Bp,decide_eq_true_eq];refine⟨r,hr,⟨hc,fun q=> ?_⟩,by rw[hn];exact hxc⟩;have:=(Ct.1 x3).2.2.length_le;rw[<-q,hn] at this;exact hl this
   rw[x2] at this;cases this
end Go.X.G
