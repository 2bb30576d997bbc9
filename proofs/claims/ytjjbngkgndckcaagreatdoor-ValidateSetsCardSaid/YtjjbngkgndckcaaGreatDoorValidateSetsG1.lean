/- Operands, expressions out of values. -/
import Derived.Test.YtjjbngkgndckcaaGreatDoorValidateSetsG0
import Derived.Laws.Entries
import Derived.Laws.Rows
import Derived.Laws.CopyRow
import Derived.Laws.StructEq
import Derived.Lib.Strings
import Derived.IntWalk
import Derived.Laws.IdiomStrings
import Derived.Laws.BytesArg
open Array renaming getElem?_toList->B6,getD_eq_getD_getElem?->Cf,length_toList->C3,toArray_toList->Dn,getElem?_append_left->Ej,getElem?_eq_getElem->Eh,toList_extract->Nw
open Bool renaming and_eq_true->Bt,false_eq_true->B5,or_eq_true->Cq,not_eq_true'->Dl,not_eq_false->Nv,and_true->Ot
open Int renaming toNat_natCast->Es,le_refl->Ud
open List renaming getElem?_eq_some_iff->Bn,length_append->Br,getElem?_eq_getElem->B4,append_assoc->Ck,length_take->Cv,getElem?_append_right->Cw,mem_of_getElem?->Cy,length_cons->Cz,getElem?_append_left->Cd,mem_cons->Cg,getElem?_take->Ch,getElem?_drop->Cl,length_nil->Cm,eq_nil_of_length_eq_zero->Cp,getD_eq_getElem?_getD->Ct,length_drop->C1,length_pos_iff->C2,getElem?_map->C4,mem_append_right->C6,mem_singleton->Dj,cons_append->Dq,getElem?_range->Dx,all_eq_true->Db,mem_append->Dp,getElem?_set->Ev,getElem?_cons_succ->Ec,drop_eq_getElem_cons->Eg,mem_of_mem_take->Er,mem_append_left->Fq,take_of_length_le->Fx,mem_of_mem_drop->F6,drop_drop->F7,map_cons->Gs,drop_zero->Gt,getElem_mem->Hj,mem_range->Hr,length_set->H9,extract_eq_take_drop->Iw,mem_cons_self->Im,mem_cons_of_mem->Jv,mapM_cons->Jw,all_cons->Km,take_take->y4,mem_map->Bm8
open Nat renaming le_refl->B7,mul_le_mul_right->Cn,add_mul->C9,zero_le->D9,le_trans->En,add_zero->E5,add_assoc->Fc,zero_add->Fl,one_mul->Gh,min_eq_left->Yn
open Option renaming bind_eq_some_iff->Bl,map_eq_some_iff->Bp,bind_some->Bs,map_some->Cc,isNone_iff_eq_none->Dw,isSome_iff_exists->Dc,getD_some->D2,bind_eq_bind->Qs,pure_def->Yl
open Option.some renaming injEq->Bm
open Prod.mk renaming injEq->B3
set_option maxHeartbeats 1000000
set_option linter.defProp false
set_option linter.unusedVariables false
set_option linter.unusedSimpArgs false
namespace Go.X
open Go Go.RowKit
def Rep.agg_mk {M:Vw} {ps:List PV} {vs:Array Value} (hl:ps.length=vs.toList.length) (h1:∀u,u∈vs.toList->One u)
  (h:∀(j:Nat) (p:PV) (v:Value),ps[j]? =some p->vs.toList[j]? =some v->Rep M p v):Rep M (.a ps) (.agg vs):=
 .a ps vs (by rw[hl,C3]) h1 fun j c v hc hv=>h j c v hc (by rw[B6];exact hv)
mutual
def SV.asE_ok {C:Cx} {sv:SV} {x:E} {v:Value} (h:sv.asE=some x) (hr:Cj C sv v):∃p,x.ev C.J=some p∧Rep C.M p v:=by
 cases sv with
 |e y=>
  simp only[SV.asE,Bm] at h;subst h;simpa only[Cj] using hr
 |nil sz=>
  simp only[SV.asE,Bm] at h;subst h;simp only[Cj] at hr;subst hr;refine⟨.l sz [],by simp only[E.ev],?_⟩;exact Rep.l sz [] none 0 ⟨0,0,none⟩ (fun _ _=>undef) (B7 _) (fun h=>absurd rfl h) (fun i x h=>by simp at h) (fun i x j c h=>by simp at h) (fun i x j c h=>by simp at h) (fun i x j c h=>by simp at h)
 |lit sz y=>
  simp only[SV.asE,Bm] at h;subst h;simp only[Cj] at hr;obtain⟨xs,a,h1,h2,h3⟩:=hr;exact⟨_,h1,h3⟩
 |ag xs=>
  simp only[SV.asE,Bp] at h;obtain⟨es,hes,rfl⟩:=h;simp only[Cj] at hr;obtain⟨vs,rfl,h1,h2⟩:=hr;obtain⟨ps,g1,g2,g3⟩:=kw hes h2;exact⟨.a ps,by simp only[E.ev,g1,Cc],Rep.agg_mk g2 h1 g3⟩
 |_=>simp[SV.asE] at h
def kw {C:Cx}:∀{xs:List SV} {es:List E} {vs:List Value},Ew8 xs=some es->Cb C xs vs->
  ∃ps,E.evs C.J es=some ps∧ps.length=vs.length∧∀(j:Nat) (p:PV) (v:Value),ps[j]? =some p->vs[j]? =some v->Rep C.M p v
 |[],es,vs,h,hr=>by simp only[Ew8,Bm] at h;subst h;simp only[Cb] at hr;subst hr;exact⟨[],by simp only[E.evs],rfl,fun j p v h=>by simp at h⟩
 |x::xs,es,vs,h,hr=>by
  simp only[Ew8] at h;split at h
  .rename_i y ys hy hys;injection h with h;subst h;simp only[Cb] at hr;obtain⟨v,r,rfl,h1,h2⟩:=hr;obtain⟨p,hp,hpr⟩:=SV.asE_ok hy h1;obtain⟨ps,g1,g2,g3⟩:=kw hys h2;refine⟨p::ps,by simp only[E.evs,hp,g1,Bs,Cc],by simp[g2],fun j q u hq hu=> ?_⟩;cases j with
   |zero=>simp at hq hu;subst hq;subst hu;exact hpr
   |succ j=>exact g3 j q u (by simpa using hq) (by simpa using hu)
  .cases h
end
def Pd {J:List PV}:∀{es:List E} {ps:List PV},E.evs J es=some ps->ps.length=es.length∧∀(j:Nat) (x:E),es[j]? =some x->∃p,ps[j]? =some p∧x.ev J=some p
 |[],ps,h=>by simp only[E.evs,Bm] at h;subst h;exact⟨rfl,fun j x h=>by simp at h⟩
 |e::es,ps,h=>by
  simp only[E.evs,Bl,Bp] at h;obtain⟨p,hp,ps',hps,rfl⟩:=h;obtain⟨g1,g2⟩:=Pd hps;refine⟨by simp[g1],fun j x hx=> ?_⟩;cases j with
  |zero=>simp at hx;subst hx;exact⟨p,rfl,hp⟩
  |succ j=>exact g2 j x (by simpa using hx)
def Vg {C:Cx} {O':Nat->Option Nat} {f:SV->Option (E×List Nat)} {R:PV->Value->Prop}
  (hf:∀sv v x ss,f sv=some (x,ss)->Cj C sv v->(∀s,s∈ss->K0 C O' s)->∃p,x.ev C.J=some p∧R p v):
  ∀{xs:List SV} {vs:List Value} {ys:List E} {ss:List Nat},goL f xs=some (ys,ss)->Cb C xs vs->(∀s,s∈ss->K0 C O' s)->
   ∃ps,E.evs C.J ys=some ps∧ps.length=vs.length∧∀(j:Nat) (p:PV) (v:Value),ps[j]? =some p->vs[j]? =some v->R p v
 |[],vs,ys,ss,h,hr,_=>by simp only[goL,Bm,B3] at h;obtain⟨rfl,rfl⟩:=h;simp only[Cb] at hr;subst hr;exact⟨[],by simp only[E.evs],rfl,fun j p v h=>by simp at h⟩
 |x::xs,vs,ys,ss,h,hr,ho=>by
  simp only[goL] at h;split at h
  .rename_i y s1 ys' s2 hy hys;simp only[Bm,B3] at h;obtain⟨rfl,rfl⟩:=h;simp only[Cb] at hr;obtain⟨v,r,rfl,h1,h2⟩:=hr;obtain⟨p,hp,hpr⟩:=hf x v y s1 hy h1 fun s hs=>ho s (Fq _ hs);obtain⟨ps,g1,g2,g3⟩:=Vg hf hys h2 fun s hs=>ho s (C6 _ hs);refine⟨p::ps,by simp only[E.evs,hp,g1,Bs,Cc],by simp[g2],fun j q u hq hu=> ?_⟩;cases j with
   |zero=>simp at hq hu;subst hq;subst hu;exact hpr
   |succ j=>exact g3 j q u (by simpa using hq) (by simpa using hu)
  .cases h
section
variable {w0:Fr} {Oe:Nat->Option Nat} {J:List PV} {σ:St} {tm:Array Value} {w:World} {β:Nat->Nat} {hv:Nat->Value} {O:Nat->Option Nat}
def Eq5 (h:Rel w0 Oe J σ tm w β hv O) {O':Nat->Option Nat} (hM:(Cr w O).Le (Cr w O')) {s e sz:Nat} {x:E} {ro:Ro} (hb:mget σ.m s=some (.arr e sz x ro))
  (ho:K0 ⟨J,Cr w O,β,hv,σ.m⟩ O' s):∃p,x.ev J=some p∧Rep (Cr w O') p (hv s):=by
 obtain⟨h0,xs,vs,g1,g2,g3,g4⟩:=h.mem s _ hb;have g1':x.ev J=some (.l sz xs):=g1;refine⟨_,g1',?_⟩;have hop:=ho _ hb;rcases g2.2 with⟨na,hn,hn0⟩|⟨g,cap,cur,e1,e1c,e2,e3,e4,e5,e6,e7⟩
 .have hx:xs=[]:=Cp hn0;subst hx;have hn':hv s= .slice na 0 0:=hn;rw[hn'];exact Rep.l sz [] na 0 ⟨0,0,none⟩ (fun _ _=>undef) (B7 _) (fun h=>absurd rfl h) (fun i x h=>by simp at h) (fun i x j c h=>by simp at h) (fun i x j c h=>by simp at h) (fun i x j c h=>by simp at h)
 .have e1':hv s= .slice (some ⟨g,0,none⟩) xs.length cap:=e1;have hg:C8 (hv s)=some g:=by rw[e1'];simp only[C8,if_neg (show¬cap=0 by omega)]
  rw[e1'];have hlen:vs.length=xs.length*sz:=g2.1;have cellAt:∀j u,vs[j]? =some u->w.cell? ((⟨g,0,none⟩:Addr).add j)=some u:=fun j u hu=>g2.cells hg j u hu;have hadd:∀j,((⟨g,0,none⟩:Addr).add j)=⟨g,j,none⟩:=fun j=>by unfold Go.Addr.add;split<;>simp_all
  have bound:∀(i:Nat) (y:PV) (j:Nat) (c:PV),xs[i]? =some y->y.cells[j]? =some c->i*sz+j<xs.length*sz:=by intro i y j c hy hc;have h1:=(g3 i y hy).1;have h2:=(Bn.1 hy).1;have h3:=(Bn.1 hc).1;have h4:(i+1)*sz<=xs.length*sz:=Cn _ (by omega);rw[C9,Gh] at h4;omega
  refine Rep.l sz xs (some ⟨g,0,none⟩) cap ⟨g,0,none⟩ (fun i j=>vs.getD (i*sz+j) undef) e4 (fun _=>rfl) (fun i y hy=>(g3 i y hy).1) (fun i y j c hy hc=> ?_) (fun i y j c hy hc=> ?_) (fun i y j c hy hc=> ?_)
  .obtain⟨u,k1,k2,k3⟩:=(g3 i y hy).2 j c hc;simp only[Ct,k1,D2];refine Fy (cellAt _ _ k1) fun lim hl=> ?_;rw[hadd] at hl ⊢;have:=hop xs g1 g hg lim hl;have:=bound i y j c hy hc;show i*sz+j<lim;omega
  .obtain⟨u,k1,k2,k3⟩:=(g3 i y hy).2 j c hc;simp only[Ct,k1,D2];exact k2
  .obtain⟨u,k1,k2,k3⟩:=(g3 i y hy).2 j c hc;simp only[Ct,k1,D2];exact k3.mono hM
def Ej7 (h:Rel w0 Oe J σ tm w β hv O) {O':Nat->Option Nat} {f:SV->Option (E×List Nat)}
  (hf:∀sv v x ss,f sv=some (x,ss)->Cj ⟨J,Cr w O,β,hv,σ.m⟩ sv v->(∀s,s∈ss->K0 ⟨J,Cr w O,β,hv,σ.m⟩ O' s)->∃p,x.ev J=some p∧Rep (Cr w O') p v)
  {s:Nat} {cs:List SV} {ro:Bool} (hb:mget σ.m s=some (.box cs ro)) {ys:List E} {s':List Nat} (hgo:goL f cs=some (ys,s')) (hops:∀q,q∈s'->K0 ⟨J,Cr w O,β,hv,σ.m⟩ O' q) (hop:O' (β s)=none):
  ∃ps,E.evs J ys=some ps∧H7 (Cr w O') ps (.pointer (some ⟨β s,0,none⟩)):=by
 obtain⟨g1,g2,vs,T,g3,g4,g5,_⟩:=h.mem s _ hb;obtain⟨ps,k1,k2,k3⟩:=Vg (R:=Rep (Cr w O')) hf hgo g5 hops;have hat:∀(j:Nat) (c:PV),ps[j]? =some c->∃u,vs[j]? =some u∧One u∧Rep (Cr w O') c u:=by
  intro j c hc;have hj:j<vs.toList.length:=by rw[<-k2];exact(Bn.1 hc).1
  have hu:vs.toList[j]? =some (vs.toList[j]):=B4 hj;refine⟨vs.toList[j],by rw[<-B6];exact hu,g4 _ (Hj hj),k3 j c _ hc hu⟩
 refine⟨ps,k1,⟨⟨β s,0,none⟩,fun j=>vs.getD j undef,rfl,fun j c hc=> ?_,fun j c hc=> ?_,fun j c hc=> ?_⟩⟩
 .obtain⟨u,u1,u2,u3⟩:=hat j c hc;have hadd:((⟨β s,0,none⟩:Addr).add j)=⟨β s,j,none⟩:=by unfold Go.Addr.add;split<;>simp_all
  refine Fy ?_ fun lim hl=> ?_
  .rw[hadd,cell_of_row w (β s) j vs T (0,0) g3,u1];simp[Cf,u1]
  .rw[hadd,hop] at hl;cases hl
 .obtain⟨u,u1,u2,u3⟩:=hat j c hc;simp only[Cf,u1,D2];exact u2
 .obtain⟨u,u1,u2,u3⟩:=hat j c hc;simp only[Cf,u1,D2];exact u3
def H7.drop {M:Vw} {cs:List PV} {ad:Addr} (h:H7 M cs (.pointer (some ad))) (off:Nat):H7 M (cs.drop off) (.pointer (some (ad.add off))):=by
 obtain⟨ad',el,e,h1,h2,h3⟩:=h;injection e with e;injection e with e;subst e;refine⟨_,fun j=>el (off+j),rfl,fun j c hc=> ?_,fun j c hc=> ?_,fun j c hc=> ?_⟩
 .rw[Addr.add_add];exact h1 _ c (by rw[Cl] at hc;exact hc)
 .exact h2 _ c (by rw[Cl] at hc;exact hc)
 .exact h3 _ c (by rw[Cl] at hc;exact hc)
def Ry (h:Rel w0 Oe J σ tm w β hv O) {O':Nat->Option Nat} (hM:(Cr w O).Le (Cr w O')):∀(d:Nat) (sv:SV) (v:Value) (x:E) (ss:List Nat),toE σ.m d sv=some (x,ss)->
  Cj ⟨J,Cr w O,β,hv,σ.m⟩ sv v->(∀s,s∈ss->K0 ⟨J,Cr w O,β,hv,σ.m⟩ O' s)->∃p,x.ev J=some p∧Rep (Cr w O') p v
 |0,sv,v,x,ss,hx,_,_=>by simp[toE] at hx
 |d+1,sv,v,x,ss,hx,hr,ho=>by
  have base:∀{y:E},sv.asE=some y->x=y->∃p,x.ev J=some p∧Rep (Cr w O') p v:=by intro y hy hxy;subst hxy;obtain⟨p,hp,hpr⟩:=SV.asE_ok hy hr;exact⟨p,hp,hpr.mono hM⟩
  cases sv with
  |e y=>simp only[toE,Bm,B3] at hx;exact base rfl hx.1.symm
  |nil sz=>simp only[toE,Bm,B3] at hx;exact base rfl hx.1.symm
  |lit sz y=>simp only[toE,Bm,B3] at hx;exact base rfl hx.1.symm
  |und=>
   simp only[toE,Bm,B3] at hx;obtain⟨rfl,rfl⟩:=hx;exact⟨.u,by simp only[E.ev],.u v⟩
  |h s=>
   simp only[toE] at hx;split at hx
   .rename_i e sz y ro hb;simp only[Bm,B3] at hx;obtain⟨rfl,rfl⟩:=hx;simp only[Cj] at hr;subst hr;exact Eq5 h hM hb (ho s (Dj.2 rfl))
   .cases hx
  |mh s=>
   simp only[toE] at hx;split at hx
   .rename_i y ro hb;simp only[Bm,B3] at hx;obtain⟨rfl,rfl⟩:=hx;simp only[Cj] at hr;subst hr;obtain⟨g1,g2,es,ents,ck,g3,g4,g5⟩:=h.mem s _ hb;have hop:O' (β s)=none:=ho s (Dj.2 rfl) _ hb;refine⟨_,g3,Rep.m es (β s) ents (M1 hop g4) g5.len (fun j e x a b=>(g5.key j e x a b).mono hM) (fun j e x a b=>(g5.val j e x a b).mono hM) g5.one⟩
   .cases hx
  |ag xs=>
   simp only[toE,Bp] at hx;obtain⟨⟨ys,ss'⟩,hg,hx⟩:=hx;simp only[B3] at hx;obtain⟨rfl,rfl⟩:=hx;simp only[Cj] at hr;obtain⟨vs,rfl,h1,h2⟩:=hr;obtain⟨ps,k1,k2,k3⟩:=Vg (R:=Rep (Cr w O')) (fun sv v x ss a b c=>Ry h hM d sv v x ss a b c) hg h2 ho;exact⟨.a ps,by simp only[E.ev];have k1':E.evs J ys=some ps:=k1;rw[k1'];rfl,Rep.agg_mk k2 h1 k3⟩
  |clo g xs=>
   simp only[toE,Bp] at hx;obtain⟨⟨ys,ss'⟩,hg,hx⟩:=hx;simp only[B3] at hx;obtain⟨rfl,rfl⟩:=hx;simp only[Cj] at hr;obtain⟨cv,rfl,h2⟩:=hr;have cap:∀(sv:SV) (v:Value) (x:E) (ss:List Nat),Fp0 σ.m (toE σ.m d) sv=some (x,ss)->Cj ⟨J,Cr w O,β,hv,σ.m⟩ sv v->(∀s,s∈ss->K0 ⟨J,Cr w O,β,hv,σ.m⟩ O' s)->
     ∃p,x.ev J=some p∧H7 (Cr w O') p.cells v:=by
    intro sv v x ss hx hr ho;have boxcase:∀s,sv= .bp s 0->∃p,x.ev J=some p∧H7 (Cr w O') p.cells v:=by
     intro s hsv;subst hsv;simp only[Fp0] at hx;simp only[Cj] at hr;subst hr;split at hx
     .rename_i cs ro hb;obtain⟨g1,g2,vs,T,g3,g4,g5,_⟩:=h.mem s _ hb;have hsol:∀(ys:List E) (s':List Nat),goL (toE σ.m d) cs=some (ys,s')->(∀q,q∈s'->K0 ⟨J,Cr w O,β,hv,σ.m⟩ O' q)->O' (β s)=none->
        ∃ps,E.evs J ys=some ps∧H7 (Cr w O') ps (.pointer (some ⟨β s,0,none⟩))∧∀(j:Nat) (p:PV),ps[j]? =some p->p.cells=[p]:=by
       intro ys s' hgo hops hop;obtain⟨ps,k1,k2,k3⟩:=Vg (R:=Rep (Cr w O')) (fun sv v x ss a b c=>Ry h hM d sv v x ss a b c) hgo g5 hops;have hat:∀(j:Nat) (c:PV),ps[j]? =some c->∃u,vs[j]? =some u∧One u∧Rep (Cr w O') c u:=by
        intro j c hc;have hj:j<vs.toList.length:=by rw[<-k2];exact(Bn.1 hc).1
        have hu:vs.toList[j]? =some (vs.toList[j]):=B4 hj;refine⟨vs.toList[j],by rw[<-B6];exact hu,g4 _ (Hj hj),k3 j c _ hc hu⟩
       refine⟨ps,k1,⟨⟨β s,0,none⟩,fun j=>vs.getD j undef,rfl,fun j c hc=> ?_,fun j c hc=> ?_,fun j c hc=> ?_⟩,fun j p hp=> ?_⟩
       .obtain⟨u,u1,u2,u3⟩:=hat j c hc;have hadd:((⟨β s,0,none⟩:Addr).add j)=⟨β s,j,none⟩:=by unfold Go.Addr.add;split<;>simp_all
        refine Fy ?_ fun lim hl=> ?_
        .rw[hadd,cell_of_row w (β s) j vs T (0,0) g3,u1];simp[Cf,u1]
        .rw[hadd,hop] at hl;cases hl
       .obtain⟨u,u1,u2,u3⟩:=hat j c hc;simp only[Cf,u1,D2];exact u2
       .obtain⟨u,u1,u2,u3⟩:=hat j c hc;simp only[Cf,u1,D2];exact u3
       .obtain⟨u,u1,u2,u3⟩:=hat j p hp;cases u3<;>first|rfl|(exact absurd u2 (by simp[One,Value.oneCell']))
      split at hx
      .rename_i y s' hgo;simp only[Bm,B3] at hx;obtain⟨rfl,rfl⟩:=hx;have hop:O' (β s)=none:=ho s (Im ..) _ hb;obtain⟨ps,k1,k2,k3⟩:=hsol _ _ hgo (fun q hq=>ho q (Jv _ hq)) hop;obtain⟨l1,l2⟩:=Pd k1;obtain⟨p,hp,hev⟩:=l2 0 _ rfl;refine⟨p,hev,?_⟩;rw[k3 0 p hp];have:ps=[p]:=by
        cases ps with
        |nil=>simp at hp
        |cons q r=>
         simp at hp l1;subst hp;subst l1;rfl
       rw[<-this];exact k2
      .rename_i ys s' _ hgo;simp only[Bm,B3] at hx;obtain⟨rfl,rfl⟩:=hx;have hop:O' (β s)=none:=ho s (Im ..) _ hb;obtain⟨ps,k1,k2,k3⟩:=hsol _ _ hgo (fun q hq=>ho q (Jv _ hq)) hop;exact⟨.a ps,by simp only[E.ev,k1,Cc],k2⟩
      .cases hx
     .cases hx
    unfold Fp0 at hx;split at hx
    .rename_i s;exact boxcase s rfl
    .rename_i y;simp only[Bm,B3] at hx;obtain⟨rfl,rfl⟩:=hx;simp only[Cj,Gt] at hr;obtain⟨p,hp,hpr⟩:=hr;exact⟨p,hp,hpr.mono hM⟩
    .cases hx
   obtain⟨ps,k1,k2,k3⟩:=Vg (R:=fun p v=>H7 (Cr w O') p.cells v) cap hg h2 ho;have hat:∀j,j<ps.length->∃(p:PV) (v:Value),ps[j]? =some p∧cv[j]? =some v∧H7 (Cr w O') p.cells v:=by
    intro j hj;have hj':j<cv.toList.length:=by rw[<-k2];exact hj
    exact⟨ps[j],cv.toList[j],B4 hj,by rw[<-B6];exact B4 hj',k3 j _ _ (B4 hj) (B4 hj')⟩
   refine⟨.f g ps,by simp only[E.ev];have k1':E.evs J ys=some ps:=k1;rw[k1'];rfl,?_⟩;have hch:∀j,∃(ad:Addr) (el:Nat->Value),j<ps.length->∃(p:PV),ps[j]? =some p∧cv[j]? =some (.pointer (some ad))∧(∀(k:Nat) (c:PV),p.cells[k]? =some c->(Cr w O').cell (ad.add k)=some (el k))∧
     (∀(k:Nat) (c:PV),p.cells[k]? =some c->One (el k))∧∀(k:Nat) (c:PV),p.cells[k]? =some c->Rep (Cr w O') c (el k):=by
    intro j;by_cases hj:j<ps.length
    .obtain⟨p,v,hp,hv',ad,el,rfl,a1,a2,a3⟩:=hat j hj;exact⟨ad,el,fun _=>⟨p,hp,hv',a1,a2,a3⟩⟩
    .exact⟨⟨0,0,none⟩,fun _=>undef,fun hj'=>absurd hj' hj⟩
   obtain⟨ads,hch⟩:=Classical.axiomOfChoice hch;obtain⟨els,hch⟩:=Classical.axiomOfChoice hch;have pick:∀(i:Nat) (y:PV),ps[i]? =some y->cv[i]? =some (.pointer (some (ads i)))∧(∀(k:Nat) (c:PV),y.cells[k]? =some c->(Cr w O').cell ((ads i).add k)=some (els i k))∧
     (∀(k:Nat) (c:PV),y.cells[k]? =some c->One (els i k))∧∀(k:Nat) (c:PV),y.cells[k]? =some c->Rep (Cr w O') c (els i k):=by
    intro i y hy;obtain⟨p,hp,a⟩:=hch i (Bn.1 hy).1;rw[hy] at hp;injection hp with hp;subst hp;exact a
   refine Rep.f g ps cv ads els (by rw[k2,C3]) (fun j hj=> ?_) (fun i y j c hy hc=>(pick i y hy).2.1 j c hc) (fun i y j c hy hc=>(pick i y hy).2.2.1 j c hc) (fun i y j c hy hc=>(pick i y hy).2.2.2 j c hc);exact(pick j _ (B4 hj)).1
  |ip y off=>
   simp only[toE,Bm,B3] at hx;obtain⟨rfl,rfl⟩:=hx;simp only[Cj] at hr;obtain⟨p,hp,hpr⟩:=hr;have hp':y.ev J=some p:=hp;exact⟨.pt (p.cells.drop off),by simp only[E.ev,hp',Bs,wh],(hpr.mono hM).rep⟩
  |bp s off=>
   simp only[toE] at hx;split at hx
   .rename_i cs ro hb;obtain⟨⟨ys,s'⟩,hgo,hx⟩:=Bp.1 hx;simp only[B3] at hx;obtain⟨rfl,rfl⟩:=hx;have hop:O' (β s)=none:=ho s (Im ..) _ hb;obtain⟨ps,k1,k2⟩:=Ej7 h (fun sv v x ss a b c=>Ry h hM d sv v x ss a b c) hb hgo (fun q hq=>ho q (Jv _ hq)) hop;refine⟨.pt (ps.drop off),by simp only[E.ev,k1,Cc,Bs,wh,PV.cells],?_⟩;simp only[Cj] at hr;subst hr;have:=(k2.drop off).rep;have hadd:((⟨β s,0,none⟩:Addr).add off)=⟨β s,off,none⟩:=by unfold Go.Addr.add;split<;>simp_all
    rw[hadd] at this;exact this
   .cases hx
  |_=>simp[toE] at hx
def O3 (h:Rel w0 Oe J σ tm w β hv O) {O':Nat->Option Nat} (hM:(Cr w O).Le (Cr w O')) {xs:List SV} {vs:List Value} {ys:List E} {ss:List Nat} (hx:fw σ.m xs=some (ys,ss))
  (hr:Cb ⟨J,Cr w O,β,hv,σ.m⟩ xs vs) (ho:∀s,s∈ss->K0 ⟨J,Cr w O,β,hv,σ.m⟩ O' s):
  ∃ps,E.evs J ys=some ps∧ps.length=vs.length∧∀(j:Nat) (p:PV) (v:Value),ps[j]? =some p->vs[j]? =some v->Rep (Cr w O') p v:=
 Vg (R:=Rep (Cr w O')) (fun sv v x ss a b c=>Ry h hM 20 sv v x ss a b c) hx hr ho
def O5 (C:Cx) (sz:Nat) (v:Value):Cj C (O6 sz v) v:=by
 unfold O6;split
 .simp only[Cj,E.ev];exact⟨_,rfl,.b _⟩
 .simp only[Cj,E.ev];exact⟨_,rfl,.i _ _⟩
 .simp only[Cj,E.ev];exact⟨_,rfl,.s _ _ rfl⟩
 .simp only[Cj]
 .simp only[Cj]
def GOk (J:List PV) (G:Option E):Prop:=∀g,G=some g->g.ev J=some (.b true)
def Bp3 {C:Cx} {G:Option E} (hG:GOk C.J G) {sv sv':SV} {v:Value} (h:Bp4 G sv=some sv') (hr:Cj C sv v):Cj C sv' v:=by
 unfold Bp4 at h;split at h
 .rename_i g0 x;split at h
  .rename_i hi;injection h with h;subst h;simp only[Cj] at hr;obtain⟨b,h1,h2,_⟩:=hr;unfold Xz at hi;split at hi
   .cases hi
   .rename_i g;have:=Vb g g0 hi (hG g rfl);rw[h1] at this;injection this with this;injection this with this;exact h2 this
  .cases h
 .injection h with h;subst h;exact hr
def Fw {P:Program} {G:Option E} (hG:GOk J G) {t:TypeId} {x:Operand} {sv:SV} {ds:List Deferred} {C:Cx} (hη:C.J=J) (hx:opd P σ G t x=some sv) (h:Cb C σ.t tm.toList):
  Cj C sv ((Act.mk tm ds).eval x):=by
 subst hη;cases x with
 |tmp i=>
  simp only[opd,Bl] at hx;obtain⟨sv0,h1,h2⟩:=hx;obtain⟨v,hv,hr⟩:=h.get i sv0 h1;have:(Act.mk tm ds).eval (.tmp i)=v:=by rw[B6] at hv;simp[Act.eval,Cf,hv]
  rw[this];exact Bp3 hG h2 hr
 |const v=>simp only[opd,Bm] at hx;subst hx;exact O5 _ _ _
 |func f=>
  simp only[opd,Bm] at hx;subst hx;simp only[Cj,E.ev];exact⟨_,rfl,Rep.f f [] #[] (fun _=>⟨0,0,none⟩) (fun _ _=>undef) rfl (fun j hj=>by simp at hj) (fun i x j c h=>by simp at h) (fun i x j c h=>by simp at h) (fun i x j c h=>by simp at h)⟩
 |global g=>simp[opd] at hx
def Ey {P:Program} {G:Option E} (hG:GOk J G) {t:TypeId} {x:Operand} {e:E} {ds:List Deferred} {C:Cx} (hη:C.J=J) (hx:Gx P σ G t x=some e) (h:Cb C σ.t tm.toList):
  ∃p,e.ev J=some p∧Rep C.M p ((Act.mk tm ds).eval x):=by
 subst hη;simp only[Gx,Bl] at hx;obtain⟨sv,h1,h2⟩:=hx;exact SV.asE_ok h2 (Fw hG rfl h1 h)
def Pn {P:Program} {G:Option E} (hG:GOk J G) {ds:List Deferred} {C:Cx} (hη:C.J=J) (h:Cb C σ.t tm.toList):∀{xs:List Operand} {ts:List TypeId} {svs:List SV},
  args P σ G xs ts=some svs->Cb C svs (xs.map (Act.mk tm ds).eval)
 |[],ts,svs,hx=>by simp only[args,Bm] at hx;subst hx;simp only[Cb,List.map_nil]
 |x::xs,ts,svs,hx=>by
  simp only[args] at hx;split at hx
  .rename_i y ys h1 h2;injection hx with hx;subst hx;simp only[Cb,Gs];exact⟨_,_,rfl,Fw hG hη h1 h,Pn hG hη h h2⟩
  .cases hx
end
def Eb (fn:Fns) (J:List PV):List W->Option (List PV)
 |[]=>some J
 |x::r=>(x.ev fn J).bind fun η'=>Eb fn η' r
def Gd (fn:Fns):∀(xs ys:List W) (J:List PV),Eb fn J (xs++ys)=(Eb fn J xs).bind fun η'=>Eb fn η' ys
 |[],ys,J=>by simp[Eb]
 |x::xs,ys,J=>by simp only[Dq,Eb,Option.bind_assoc];congr 1;funext η';exact Gd fn xs ys η'
def lr (fn:Fns) (N:Nat) (k:T):∀(ws:List W) (J:List PV),(Bn9 ws k).ev fn N J=(Eb fn J ws).bind fun η'=>k.ev fn N η'
 |[],J=>by simp[Bn9,Eb]
 |x::ws,J=>by have:=lr fn N k ws;simp only[Bn9,List.foldr_cons] at this ⊢;simp only[T.ev,Eb,Option.bind_assoc];congr 1;funext η';exact this η'
def W.ev_pre {fn:Fns} {J η':List PV}:∀{x:W},x.ev fn J=some η'->∃ζ,η'=J++ζ:=by
 have res:∀{flat:Bool} {m:Nat} {r:Option (List PV)},results flat m J r=some η'->∃ζ,η'=J++ζ:=by
  intro flat m r h;simp only[results,Bl] at h;obtain⟨vs,_,h⟩:=h;split at h
  .injection h with h;exact⟨vs,h.symm⟩
  .cases h
 have gd:∀{m:Nat} {g:Option E} {r:Option (List PV)},F1 J m g r=some η'->(r=some η'->∃ζ,η'=J++ζ)->∃ζ,η'=J++ζ:=by
  intro m g r h hr;unfold F1 at h;split at h
  .exact hr h
  .simp only[Bl] at h;obtain⟨v,_,h⟩:=h;split at h
   .exact hr h
   .injection h with h;exact⟨_,h.symm⟩
   .cases h
 intro x h;cases x with
 |chk x=>
  simp only[W.ev,Bp] at h;obtain⟨_,_,rfl⟩:=h;exact⟨[],by simp⟩
 |call g flat f ar m=>
  simp only[W.ev] at h;refine gd h fun h=> ?_;simp only[Bl] at h;obtain⟨vs,_,h⟩:=h;exact res h
 |clo g flat c ar m=>
  simp only[W.ev] at h;refine gd h fun h=> ?_;simp only[Bl] at h;obtain⟨q,_,vs,_,h⟩:=h;split at h
  .exact res h
  .cases h
 |mcall f ar=>
  simp only[W.ev,Bl] at h;obtain⟨vs,_,h⟩:=h;exact res h
def I9 {fn:Fns}:∀{ws:List W} {J η':List PV},Eb fn J ws=some η'->∃ζ,η'=J++ζ
 |[],J,η',h=>by simp only[Eb,Bm] at h;exact⟨[],by simp[h]⟩
 |x::r,J,η',h=>by simp only[Eb,Bl] at h;obtain⟨η1,h1,h2⟩:=h;obtain⟨ζ,rfl⟩:=W.ev_pre h1;obtain⟨ζ',rfl⟩:=I9 h2;exact⟨ζ++ζ',by simp⟩
def Bd3 {fn:Fns} {J:List PV}:∀{ws:List W} {η1 η2:List PV},Eb fn η1 ws=some η2->(∃ζ,J=η2++ζ)->∀x,W.chk x∈ws->∃p,x.ev J=some p
 |[],η1,η2,h,hη,x,hx=>by simp at hx
 |y::r,η1,η2,h,hη,x,hx=>by
  simp only[Eb,Bl] at h;obtain⟨η3,h1,h2⟩:=h;rcases Cg.1 hx with rfl|hx
  .simp only[W.ev,Bp] at h1;obtain⟨p,hp,rfl⟩:=h1;obtain⟨ζ1,rfl⟩:=I9 h2;obtain⟨ζ2,rfl⟩:=hη;exact⟨p,by rw[Ck];exact E.ev_mono _ _ _ _ hp⟩
  .exact Bd3 h2 hη x hx
def Ed (P:Program) (o:Oper) (a:Act) (w:World) (R:Value->World->Prop):Prop:=
 (∃v w',(execOp a.eval o).run P w= .ok (.value v) w'∧R v w')∨(∃w',(execOp a.eval o).run P w= .ok .skip w'∧R undef w')∨
 (∃f args w',(execOp a.eval o).run P w= .ok (.enter f args) w'∧Calls P f args w' fun e w''=>∃v,e= .returned v∧R v w'')
def Ed.mono {P:Program} {o:Oper} {a:Act} {w:World} {R R':Value->World->Prop} (h:Ed P o a w R) (hr:∀v w',R v w'->R' v w'):Ed P o a w R':=by
 rcases h with⟨v,w',h1,h2⟩|⟨w',h1,h2⟩|⟨f,args,w',h1,h2⟩
 .exact .inl ⟨v,w',h1,hr _ _ h2⟩
 .exact .inr (.inl ⟨w',h1,hr _ _ h2⟩)
 .exact .inr (.inr ⟨f,args,w',h1,h2.mono fun e w'' ⟨v,he,hv⟩=>⟨v,he,hr _ _ hv⟩⟩)
def Ed.wp {P:Program} {o:Oper} {a:Act} {w:World} {R:Value->World->Prop} {next:Act->World->Prop} {Q:Exit->Act->World->Prop} (h:Ed P o a w R)
  (hn:∀v w',R v w'->next (a.put o.dst v) w'):o.wp P a w next Q:=by
 unfold Oper.wp;rcases h with⟨v,w',h1,h2⟩|⟨w',h1,h2⟩|⟨f,args,w',h1,h2⟩
 .rw[h1];exact hn _ _ h2
 .rw[h1];exact hn _ _ h2
 .rw[h1,Oper.upon_enter];refine h2.mono fun e w'' ⟨v,he,hv⟩=> ?_;subst he;exact hn _ _ hv
def G1 (w0:Fr) (Oe:Nat->Option Nat) (J:List PV) (σ:St) (tm:Array Value) (ε:Eff) (sv:SV) (v:Value) (w':World):Prop:=
 ∃β' hv' O',Rel w0 Oe J (σ.eff ε) tm w' β' hv' O'∧Cj ⟨J,Cr w' O',β',hv',ε.m⟩ sv v
section
variable {P:Program} {w0:Fr} {Oe:Nat->Option Nat} {J:List PV} {σ:St} {a:Act} {w:World} {β:Nat->Nat} {hv:Nat->Value} {O:Nat->Option Nat}
def G1.keep (h:Rel w0 Oe J σ a.tmps w β hv O) {sv:SV} {v:Value} (hr:Cj ⟨J,Cr w O,β,hv,σ.m⟩ sv v):G1 w0 Oe J σ a.tmps (Gm σ) sv v w:=⟨β,hv,O,h,hr⟩
def Ed.value {o:Oper} {R:Value->World->Prop} {v:Value} {w':World} (h:(execOp a.eval o).run P w= .ok (.value v) w') (hr:R v w'):Ed P o a w R:= .inl ⟨v,w',h,hr⟩
def Rep.int {M:Vw} {k:IntKind} {n:Int} {v:Value} (h:Rep M (.i k n) v):v= .int k n:=by cases h;rfl
def Rep.bool {M:Vw} {b:Bool} {v:Value} (h:Rep M (.b b) v):v= .bool b:=by cases h;rfl
def Rep.str {M:Vw} {x:List UInt8} {v:Value} (h:Rep M (.s x) v):∃y:ByteArray,v= .string y∧y.data.toList=x:=by cases h with|s _ y h=>exact⟨y,rfl,h⟩
end
section
variable {P:Program} {M:Vw} (w:World)
def PV.val:PV->Value
 | .i k n=> .int k n
 | .b x=> .bool x
 |_=>undef
def i7 (op:BinOp) (t:TypeId) (xo yo:Operand) (k k':IntKind) (m n:Int):(eqGuard op t xo yo (.int k m) (.int k' n)).run P w= .ok () w:=by cases op<;>simp[eqGuard]
def i6 (op:BinOp) (t:TypeId) (xo yo:Operand) (x y:ByteArray):(eqGuard op t xo yo (.string x) (.string y)).run P w= .ok () w:=by cases op<;>simp[eqGuard]
def Bg7 {op:BinOp} {k:IntKind} {m n:Int} {r:PV} (t:TypeId) (h:Gc op k m n=some r):(binOp op t (.int k m) (.int k n)).run P w= .ok r.val w∧Rep M r r.val:=by
 unfold Gc at h;split at h
 case h_4=>
  split at h
  .cases h
  .rename_i hz;simp only[Bm] at h;subst h;exact⟨by simp[binOp,Op.intDiv,hz,PV.val],.i _ _⟩
 case h_5=>
  split at h
  .cases h
  .rename_i hz;simp only[Bm] at h;subst h;exact⟨by simp[binOp,Op.intDiv,hz,PV.val],.i _ _⟩
 all_goals first
  |(cases h;done)
  |(simp only[Bm] at h;subst h;exact⟨by simp[binOp,Op.intArith,Op.intBits,Op.intCmp,PV.val],by constructor⟩)
def Fl3 {op:BinOp} {p q r:PV} {x y:Value} (t:TypeId) (xo yo:Operand) (h:X.bin op p q=some r) (hx:Rep M p x) (hy:Rep M q y):
  ∃v,(do eqGuard op t xo yo x y;binOp op t x y:Sem Value).run P w= .ok v w∧Rep M r v:=by
 unfold X.bin at h;split at h
 .rename_i k m k' n;rw[hx.int,hy.int,Sem.run_bind,i7,Result.andThen_ok];split at h
  .unfold Md at h;split at h
   .cases h
   .rename_i hn;simp only[Bm] at h;subst h;exact⟨.int k _,by simp[binOp,Op.shift,hn],.i _ _⟩
  .unfold Md at h;split at h
   .cases h
   .rename_i hn;simp only[Bm] at h;subst h;exact⟨.int k _,by simp[binOp,Op.shift,hn],.i _ _⟩
  .split at h
   .rename_i hk;subst hk;exact⟨_,Bg7 w t h⟩
   .cases h
 .rename_i m n;obtain⟨x',rfl,rfl⟩:=hx.str;obtain⟨y',rfl,rfl⟩:=hy.str;rw[Sem.run_bind,i6,Result.andThen_ok];unfold Vt at h;split at h
  case h_1=>
   split at h
   .cases h
   .rename_i hz;simp only[Bm] at h;subst h;have hz':¬(((x'.size+y'.size:Nat):Int)>IntKind.i64.max):=hz;refine⟨.string (x'++y'),?_,.s _ _ (by simp)⟩;simp only[binOp,Op.stringOp];rw[if_neg hz'];rfl
  all_goals first
   |(cases h;done)
   |(simp only[Bm] at h;subst h
     refine⟨.bool _,?_,.b _⟩;simp only[binOp,Op.stringOp,ByteArray.toList_eq];rfl)
 .cases h
def Fs6 {op:UnOp} {p r:PV} {x:Value} (h:X.un op p=some r) (hx:Rep M p x):∃v,(Op.unary op x).run P w= .ok v w∧Rep M r v:=by
 unfold X.un at h;split at h
 .simp only[Bm] at h;subst h;rw[hx.bool];exact⟨_,by simp[Op.unary],.b _⟩
 .simp only[Bm] at h;subst h;rw[hx.int];exact⟨_,by simp[Op.unary,Op.intArith],.i _ _⟩
 .cases h
set_option linter.constructorNameAsVariable false
def Dp2 {t:TypeId} {s:Sc} {p q:PV} {r:Bool} {x y:Value} (d:Nat)
  (ht:match s with| .b=>P.underlying t=some .bool| .i k=>P.underlying t=some (.int k)| .s=>P.underlying t=some .string)
  (h:Bm4 s p q=some r) (hx:Rep M p x) (hy:Rep M q y):(Op.equalIn (d+1) t x y).run P w= .ok r w:=by
 unfold Bm4 at h;split at h
 .simp only[Bm] at h;subst h;rw[hx.bool,hy.bool];exact run_equalIn_bool' w d t _ _ ht
 .split at h
  .split at h
   .simp only[Bm] at h;subst h;rw[hx.int,hy.int]
    subst_vars
    exact run_equalIn_int w d t _ _ _ _ ht
   .cases h
  .cases h
 .simp only[Bm] at h;subst h;obtain⟨x',rfl,rfl⟩:=hx.str;obtain⟨y',rfl,rfl⟩:=hy.str;rw[run_equalIn_string w d t x' y' ht,ByteArray.toList_eq,ByteArray.toList_eq]
 .cases h
def Js:∀{ts:List Sc} {cs ds:List PV} {r:Bool},G9 ts cs ds=some r->cs.length=ts.length∧ds.length=ts.length
 |[],[],[],_,_=>⟨rfl,rfl⟩
 |[],_::_,_,_,h=>by simp[G9] at h
 |[],[],_::_,_,h=>by simp[G9] at h
 |_::_,[],_,_,h=>by simp[G9] at h
 |_::_,_::_,[],_,h=>by simp[G9] at h
 |t::ts,c::cs,d::ds,r,h=>by
  simp only[G9] at h;split at h
  .rename_i h1 h2;have:=Js h2;simp[this.1,this.2]
  .cases h
def Qj:∀{ts us:List Sc} {cs ds:List PV} {r:Bool},G9 (ts++us) cs ds=some r->
  ∃r1 r2,G9 ts (cs.take ts.length) (ds.take ts.length)=some r1∧G9 us (cs.drop ts.length) (ds.drop ts.length)=some r2∧r=(r1 && r2)
 |[],us,cs,ds,r,h=>⟨true,r,by simp[G9],by simpa using h,by simp⟩
 |t::ts,us,cs,ds,r,h=>by
  cases cs with
  |nil=>simp[G9] at h
  |cons c cs=>
   cases ds with
   |nil=>simp[G9] at h
   |cons d ds=>
    simp only[Dq,G9] at h;split at h
    .rename_i a b h1 h2;simp only[Bm] at h;subst h;obtain⟨r1,r2,g1,g2,rfl⟩:=Qj h2;exact⟨a && r1,r2,by simp[G9,h1,g1],by simpa using g2,by rw[Bool.and_assoc]⟩
    .cases h
def W1 {t:TypeId} {xs:Array Value} {off n:Nat} (ha:Kk P t=true) (hn:B8 P t=n) (hi:(P.info? t).isSome):(part t xs off).run P w= .ok (.agg (xs.extract off (off+n))) w:=by
 unfold Kk at ha;obtain⟨i,hi⟩:=Dc.1 hi;have hs:i.size=n:=by simpa [B8,hi] using hn
 split at ha
 .rename_i h;simp[part,isAgg,run_underlying h,sizeOf,typeInfo,hi,hs]
 .rename_i h;simp[part,isAgg,run_underlying h,sizeOf,typeInfo,hi,hs]
 .cases ha
def W0 {t:TypeId} {xs:Array Value} {off:Nat} {v:Value} (ha:Kk P t=false) (hu:(P.underlying t).isSome) (hv:xs[off]? =some v):(part t xs off).run P w= .ok v w:=by obtain⟨d,hd⟩:=Dc.1 hu;unfold Kk at ha;cases d<;>simp_all [part,isAgg,run_underlying hd]
def O0 {t:TypeId} {d:TypeDesc} (h:P.underlying t=some d):(P.info? t).isSome:=by
 unfold Program.underlying at h;cases hh:P.info? t with
 |none=>simp[hh] at h
 |some i=>rfl
def dt (M:Vw) (cs:List PV) (vs:List Value):Prop:=∀(j:Nat) (c:PV) (v:Value),cs[j]? =some c->vs[j]? =some v->Rep M c v
def S6 (d:Nat) (ih:∀t ts,fx P d t=some ts->∀(cs ds:List PV) (X Y:List Value) (r:Bool),X.length=ts.length->Y.length=ts.length->dt M cs X->dt M ds Y->G9 ts cs ds=some r->
   ∀(x y:Value),(if Kk P t then x= .agg X.toArray else X=[x])->(if Kk P t then y= .agg Y.toArray else Y=[y])->∀D,d<D->(Op.equalIn D t x y).run P w= .ok r w)
  (xs ys:Array Value) (cs ds:List PV) (hcx:dt M cs xs.toList) (hcy:dt M ds ys.toList):∀(fs:List Field) (off:Nat) (ts:List Sc) (r:Bool),Nm P (fx P d) fs off=some ts->
   off+ts.length<=xs.size->off+ts.length<=ys.size->G9 ts ((cs.drop off).take ts.length) ((ds.drop off).take ts.length)=some r->∀D,d<D->(Op.eqFields D xs ys fs).run P w= .ok r w
 |[],off,ts,r,h,_,_,he,D,hD=>by simp only[Nm,Bm] at h;subst h;simp only[Cm,List.take_zero,G9,Bm] at he;subst he;simp[Op.eqFields]
 |f::fs,off,ts,r,h,hx,hy,he,D,hD=>by
  simp only[Nm] at h;split at h
  .cases h
  .rename_i hnm;simp only[Cq,beq_iff_eq,bne_iff_ne,ne_eq,not_or,Decidable.not_not] at hnm;split at h
   .rename_i us hus;split at h
    .rename_i hsz;obtain⟨vs,hvs,rfl⟩:=Bp.1 h;simp only[Br] at hx hy he;obtain⟨r1,r2,e1,e2,rfl⟩:=Qj he;rw[y4,Yn (by omega)] at e1;rw[y4,Yn (by omega)] at e1;have hdrop:∀(l:List PV),List.drop us.length (List.take (us.length+vs.length) (List.drop off l))=List.take vs.length (List.drop (off+us.length) l):=by intro l;rw[List.drop_take,F7];congr 1;omega
     rw[hdrop,hdrop] at e2;have hrest:=S6 d ih xs ys cs ds hcx hcy fs (off+us.length) vs r2 hvs (by omega) (by omega) e2 D hD;have hu:∃dd,P.underlying f.type=some dd:=by
      cases d with
      |zero=>simp[fx] at hus
      |succ d=>unfold fx at hus;split at hus<;>first|exact⟨_,by assumption⟩|cases hus
     obtain⟨dd,hdd⟩:=hu;have cx:dt M ((cs.drop off).take us.length) ((xs.toList.drop off).take us.length):=by
      intro j c v hc hv;rw[Ch] at hc hv;split at hc
      .rename_i hj;rw[if_pos hj] at hv;rw[Cl] at hc hv;exact hcx _ c v hc hv
      .cases hc
     have cy:dt M ((ds.drop off).take us.length) ((ys.toList.drop off).take us.length):=by
      intro j c v hc hv;rw[Ch] at hc hv;split at hc
      .rename_i hj;rw[if_pos hj] at hv;rw[Cl] at hc hv;exact hcy _ c v hc hv
      .cases hc
     have lx:((xs.toList.drop off).take us.length).length=us.length:=by simp;omega
     have ly:((ys.toList.drop off).take us.length).length=us.length:=by simp;omega
     have pick:∀(zs:Array Value),off+us.length<=zs.size->∃v,(part f.type zs f.offset).run P w= .ok v w∧(if Kk P f.type then v= .agg ((zs.toList.drop off).take us.length).toArray else(zs.toList.drop off).take us.length=[v]):=by
      intro zs hz;rw[hnm.2];by_cases ha:Kk P f.type=true
      .refine⟨_,W1 w ha hsz (O0 hdd),?_⟩;rw[if_pos ha];congr 1;apply Array.ext';simp[Nw,Iw]
      .have ha':Kk P f.type=false:=by simpa using ha
       have hone:us.length=1:=by
        cases d with
        |zero=>simp[fx] at hus
        |succ d=>
         unfold fx at hus;split at hus
         .simp at hus;subst hus;rfl
         .simp at hus;subst hus;rfl
         .simp at hus;subst hus;rfl
         .rename_i hst;simp[Kk,hst] at ha'
         .cases hus
       have hlt:off<zs.toList.length:=by simp;omega
       refine⟨zs.toList[off],W0 w ha' (by rw[hdd];rfl) (by rw[<-B6];exact B4 hlt),?_⟩;rw[if_neg ha,hone,Eg hlt];rfl
     obtain⟨vx,px,qx⟩:=pick xs (by omega);obtain⟨vy,py,qy⟩:=pick ys (by omega);have heq:=ih f.type us hus _ _ _ _ r1 lx ly cx cy e1 vx vy qx qy D hD;simp only[Op.eqFields,Sem.run_ite,Sem.run_bind,px,py,heq,Result.andThen_ok];rw[if_pos hnm.1];cases r1 with
     |false=>simp
     |true=>simpa using hrest
    .cases h
   .cases h
def Vn:∀(d:Nat) (t:TypeId) (ts:List Sc),fx P d t=some ts->∀(cs ds:List PV) (X Y:List Value) (r:Bool),X.length=ts.length->Y.length=ts.length->dt M cs X->dt M ds Y->G9 ts cs ds=some r->
   ∀(x y:Value),(if Kk P t then x= .agg X.toArray else X=[x])->(if Kk P t then y= .agg Y.toArray else Y=[y])->∀D,d<D->(Op.equalIn D t x y).run P w= .ok r w
 |0,t,ts,h,_,_,_,_,_,_,_,_,_,_,_,_,_,_,_,_=>by simp[fx] at h
 |d+1,t,ts,h,cs,ds,X,Y,r,hX,hY,hcx,hcy,he,x,y,hx,hy,D,hD=>by
  obtain⟨D,rfl⟩:∃m,D=m+1:=⟨D - 1,by omega⟩;have one:∀(s:Sc),ts=[s]->Kk P t=false->(match s with| .b=>P.underlying t=some .bool| .i k=>P.underlying t=some (.int k)| .s=>P.underlying t=some .string)->
    (Op.equalIn (D+1) t x y).run P w= .ok r w:=by
   intro s hs ha ht;subst hs;rw[ha] at hx hy;simp only[B5,if_false] at hx hy;subst hx;subst hy;obtain⟨l1,l2⟩:=Js he
   match cs,ds,l1,l2 with
   |[c],[e],_,_=>
    simp only[G9] at he;split at he
    .rename_i a b h1 h2;simp only[Bm] at h2 he;subst h2;subst he;rw[Ot];exact Dp2 w D ht h1 (hcx 0 c x rfl rfl) (hcy 0 e y rfl rfl)
    .cases he
  unfold fx at h;split at h
  .rename_i hu;simp only[Bm] at h;exact one .b h.symm (by simp[Kk,hu]) hu
  .rename_i k hu;simp only[Bm] at h;exact one (.i k) h.symm (by simp[Kk,hu]) hu
  .rename_i hu;simp only[Bm] at h;exact one .s h.symm (by simp[Kk,hu]) hu
  .rename_i fs hu;split at h
   .cases h
   .rename_i hs;have ha:Kk P t=true:=by simp[Kk,hu]
    rw[ha] at hx hy;simp only[if_true] at hx hy;subst hx;subst hy;have hf:P.fieldsOf t=fs:=by simp[Program.fieldsOf,hu]
    rw[run_equalIn_struct w D t _ _ (by rw[hf];exact hu) (by simpa using hs),hf];obtain⟨l1,l2⟩:=Js he;refine S6 w d (Vn d) X.toArray Y.toArray cs ds (by simpa using hcx) (by simpa using hcy) fs.toList 0 ts r h (by simp[hX]) (by simp[hY]) ?_ D (by omega);simp only[Gt];rw[Fx (by omega),Fx (by omega)];exact he
  .cases h
def Ff7 {op:BinOp} {neg ag:Bool} {ts:List Sc} {p q r:PV} {x y:Value} {t:TypeId} (xo yo:Operand) (hop:op=if neg then .neq else .eql) (ha:Kk P t=ag) (ht:fx P 20 t=some ts) (hsz:True)
  (hg:P.eqGuardType P.depth t=false) (hb:ag=false->P.underlying t=some .bool) (h:Ln neg ag ts p q=some r) (hx:Rep M p x) (hy:Rep M q y):
  ∃v,(do eqGuard op t xo yo x y;binOp op t x y:Sem Value).run P w= .ok v w∧Rep M r v:=by
 subst hop;have agg:∀(X Y:Array Value) (r:Bool),(Op.equalIn 10000 t (.agg X) (.agg Y)).run P w= .ok r w->
   (do eqGuard (if neg then BinOp.neq else .eql) t xo yo (.agg X) (.agg Y);binOp (if neg then BinOp.neq else .eql) t (.agg X) (.agg Y):Sem Value).run P w= .ok (.bool (if neg then !r else r)) w:=by
  intro X Y r hr;rw[Sem.run_bind,run_eqGuard_agg w _ t xo yo X Y hg,Result.andThen_ok];cases neg with
  |true=>simp only[if_true];rw[run_neq_struct,hr];rfl
  |false=>simp only[B5,if_false];rw[run_eql_struct,hr];rfl
 unfold Ln at h;split at h
 .rename_i cs ds;obtain⟨r',hr',rfl⟩:=Bp.1 h;cases hx with
  |a _ X hlx hx1 hx=>
   cases hy with
   |a _ Y hly hy1 hy=>
    obtain⟨l1,l2⟩:=Js hr';refine⟨_,agg X Y r' ?_,.b _⟩;refine Vn w 20 t ts ht cs ds X.toList Y.toList r' (by simp[hlx,l1]) (by simp[hly,l2]) (fun j c v hc hv=>hx j c v hc (by rw[<-B6];exact hv)) (fun j c v hc hv=>hy j c v hc (by rw[<-B6];exact hv)) hr' _ _ ?_ ?_ 10000 (by omega)
    .rw[if_pos ha]
    .rw[if_pos ha]
 .rename_i p q;split at h
  .rename_i hs;simp only[Bt] at hs;obtain⟨r',hr',rfl⟩:=Bp.1 h;have hu:=hb rfl;have hts:ts=[.b]:=by simp[fx,hu] at ht;exact ht.symm
   subst hts;simp only[G9] at hr';split at hr'
   .rename_i a b h1 h2;simp only[Bm] at h2 hr';subst h2;subst hr';rw[Ot];unfold Bm4 at h1;split at h1
    .simp only[Bm] at h1;subst h1;rw[hx.bool,hy.bool];cases neg with
     |true=>
      simp only[if_true];exact⟨_,by simp[eqGuard,binOp,Op.equal,Op.maxDepth,run_equalIn_bool' w _ t _ _ hu],.b _⟩
     |false=>
      simp only[B5,if_false];exact⟨_,by simp[eqGuard,binOp,Op.equal,Op.maxDepth,run_equalIn_bool' w _ t _ _ hu],.b _⟩
    .rename_i hh;cases hh
    .rename_i hh;cases hh
    .cases h1
   .cases hr'
  .cases h
 .cases h
end
def add_lit (g off j:Nat):(⟨g,off,none⟩:Addr).add j=⟨g,off+j,none⟩:=by unfold Go.Addr.add;split<;>simp_all
def Wm {α:Type}:∀(l:List α) (a y:α),(l++[a]).set l.length y=l++[y]
 |[],a,y=>rfl
 |x::l,a,y=>by simp only[Dq,Cz,List.set_cons_succ,Wm l a y]
def Wq:∀{cs:List SV} {k:Nat} {r:Option E} {x:E},Ts cs k r=some x->(∀y,r=some y->y=x)∧∀j,j<cs.length->cs[j]? =some (.e (.proj (k+j) x))
 |[],k,r,x,h=>by simp only[Ts] at h;subst h;exact⟨fun y hy=>by injection hy with hy;exact hy.symm,fun j hj=>by simp at hj⟩
 |c::cs,k,r,x,h=>by
  cases c with
  |e z=>
   cases z with
   |proj j y=>
    cases r with
    |none=>
     simp only[Ts] at h;split at h
     .rename_i hjk;subst hjk;obtain⟨g1,g2⟩:=Wq h;refine⟨fun y hy=>(by cases hy),fun i hi=> ?_⟩;have hxy:=g1 y rfl;subst hxy;cases i with
      |zero=>rfl
      |succ i=>
       have:=g2 i (by simpa using hi);rw[Ec,this];simp only[Bm,SV.e.injEq,E.proj.injEq,and_true];omega
     .cases h
    |some z=>
     simp only[Ts] at h;split at h
     .rename_i hjk;simp only[Bt,decide_eq_true_eq] at hjk;obtain⟨hjk,hs⟩:=hjk;subst hjk;have hs:=E.same_eq _ _ hs;subst hs;obtain⟨g1,g2⟩:=Wq h;have hxy:=g1 y rfl;subst hxy;refine⟨fun y hy=>(by injection hy with hy;exact hy.symm),fun i hi=> ?_⟩;cases i with
      |zero=>rfl
      |succ i=>
       have:=g2 i (by simpa using hi);rw[Ec,this];simp only[Bm,SV.e.injEq,E.proj.injEq,and_true];omega
     .cases h
   |_=>simp[Ts] at h
  |_=>simp[Ts] at h
def Q1 {C:Cx} {cs:List SV} {vs:Array Value} (h:Cb C cs vs.toList) (h1:∀u,u∈vs.toList->One u):Cj C (bc cs) (.agg vs):=by
 unfold bc;split
 .rename_i x hx;obtain⟨_,g⟩:=Wq hx;have hlen:=h.length;cases hcs:cs with
  |nil=>subst hcs;simp[Ts] at hx
  |cons c0 r0=>
   have hpos:0<cs.length:=by rw[hcs];simp
   rw[<-hcs];have each:∀j,j<cs.length->∃p c v,x.ev C.J=some p∧p.cells[j]? =some c∧vs.toList[j]? =some v∧Rep C.M c v:=by intro j hj;obtain⟨v,hv,hr⟩:=h.get j _ (g j hj);simp only[Cj,E.ev,Bl,Fl] at hr;obtain⟨c,⟨p,hp,hc⟩,hr⟩:=hr;exact⟨p,c,v,hp,hc,hv,hr⟩
   obtain⟨p,_,_,hp,_⟩:=each 0 hpos;have each':∀j,j<cs.length->∃c v,p.cells[j]? =some c∧vs.toList[j]? =some v∧Rep C.M c v:=by intro j hj;obtain⟨p',c,v,h1,h2,h3,h4⟩:=each j hj;rw[hp] at h1;injection h1 with h1;subst h1;exact⟨c,v,h2,h3,h4⟩
   have hle:cs.length<=p.cells.length:=by obtain⟨c,_,hc,_⟩:=each' (cs.length - 1) (by omega);have:=(Bn.1 hc).1;omega
   simp only[Cj,E.ev,hp,Bs,Fl,if_pos hle,Gt];refine⟨_,rfl,Rep.agg_mk (by simp[Yn hle];simpa using hlen) h1 fun j q u hq hu=> ?_⟩;rw[Ch] at hq;split at hq
   .rename_i hj;obtain⟨c,v,k1,k2,k3⟩:=each' j hj;rw[hq] at k1;rw[hu] at k2;injection k1 with k1;injection k2 with k2;subst k1;subst k2;exact k3
   .cases hq
 .split
  .simp only[Cj];exact⟨vs,rfl,h1,h⟩
  split
  .rename_i es hes;obtain⟨ps,g1,g2,g3⟩:=kw hes h;simp only[Cj,E.ev,g1,Cc];exact⟨_,rfl,Rep.agg_mk g2 h1 g3⟩
  .simp only[Cj];exact⟨vs,rfl,h1,h⟩
def split_ok {C:Cx} {x:E} {cs:List PV} {vs:Array Value} (hx:x.ev C.J=some (.a cs)) (hl:vs.size=cs.length) (h:∀(j:Nat) (c:PV) (v:Value),cs[j]? =some c->vs[j]? =some v->Rep C.M c v):
  Cb C (Rh cs.length x) vs.toList:=by
 refine Cb.mk (by simp[Rh,hl]) fun j y v hy hv=> ?_;simp only[Rh,C4,Bp] at hy;obtain⟨k,hk,rfl⟩:=hy;rw[Dx (by have:=(Bn.1 hv).1;simp at this;omega)] at hk;injection hk with hk;subst hk;have hj:j<cs.length:=by have:=(Bn.1 hv).1;simp at this;omega
 simp only[Cj,E.ev,hx,Bs,PV.cells];exact⟨cs[j],B4 hj,h j _ v (B4 hj) (by rw[<-B6];exact hv)⟩
section
variable {P:Program} {C:Cx}
def Sk {v:Value} (h:One v):v.cells= #[v]:=by cases v<;>first|rfl|simp[One,Value.oneCell'] at h
def Jj {m:List (Nat×Blk)} {t:TypeId} {sv:SV} {v:Value} {ws:List W} {vs:List SV} (hm:C.m=m) (h:cellsOf P m t sv=some (ws,vs)) (hws:∀x,W.chk x∈ws->∃p,x.ev C.J=some p)
  (harr:∀s e sz x ro,mget m s=some (.arr e sz x ro)->One (C.hv s)) (hr:Cj C sv v):
  v.cells.size=B8 P t∧vs.length=B8 P t∧(∀u,u∈v.cells.toList->One u)∧Cb C vs v.cells.toList:=by
 have single:∀{sv':SV},One v->B8 P t=1->Cj C sv' v->v.cells.size=B8 P t∧[sv'].length=B8 P t∧(∀u,u∈v.cells.toList->One u)∧Cb C [sv'] v.cells.toList:=by intro sv' h1 ht hr;rw[Sk h1,ht];refine⟨rfl,rfl,fun u hu=>by simp at hu;subst hu;exact h1,?_⟩;simp only[Cb];exact⟨v,[],rfl,hr,rfl⟩
 unfold cellsOf at h;split at h
 .split at h
  .rename_i es;split at h
   .rename_i hl;simp only[Bm,B3] at h;obtain⟨rfl,rfl⟩:=h;simp only[Cj,E.ev,Bp] at hr;obtain⟨p,⟨ps,hps,rfl⟩,hr⟩:=hr;obtain⟨l1,l2⟩:=Pd hps;cases hr with
    |a _ us hls h1 hh=>
     refine⟨by show us.size=_;rw[hls,l1,hl],by simp[hl],h1,Cb.mk (by show (es.map SV.e).length=us.toList.length;simp[hls,l1]) fun j y u hy hu=> ?_⟩;simp only[C4,Bp] at hy;obtain⟨x,hx,rfl⟩:=hy;obtain⟨p,hp,hev⟩:=l2 j x hx;simp only[Cj];exact⟨p,hev,hh j p u hp (by rw[<-B6];exact hu)⟩
   .cases h
  .rename_i x _;simp only[Bm,B3] at h;obtain⟨rfl,rfl⟩:=h;obtain⟨q,hq⟩:=hws _ (Dj.2 rfl);simp only[Cj] at hr;obtain⟨p,hp,hr⟩:=hr;simp only[E.ev,hp,Bs] at hq;split at hq
   .rename_i cs;split at hq
    .rename_i hl;cases hr with
     |a _ us hls h1 hh=>
      refine⟨by show us.size=_;rw[hls,hl],by simp[Rh],h1,?_⟩;rw[<-hl];exact split_ok hp hls hh
    .cases hq
   .cases hq
  .rename_i xs;split at h
   .rename_i hl;simp only[Bm,B3] at h;obtain⟨rfl,rfl⟩:=h;simp only[Cj] at hr;obtain⟨us,rfl,h1,h2⟩:=hr;have:=h2.length;exact⟨by show us.size=_;rw[<-hl,this];simp,hl,h1,h2⟩
   .cases h
  .cases h
 .split at h
  .rename_i ht;have scal:∀(x:E),W.chk (.scal x)∈ws->(∃p,x.ev C.J=some p∧Rep C.M p v)->One v:=by
    intro x hx hr;obtain⟨q,hq⟩:=hws _ hx;obtain⟨p,hp,hr⟩:=hr;simp only[E.ev,hp,Bs] at hq;split at hq
    .rename_i hs;exact hr.one hs
    .cases hq
   split at h
   .rename_i x;simp only[Bm,B3] at h;obtain⟨rfl,rfl⟩:=h;exact single (scal x (Dj.2 rfl) (by simpa only[Cj] using hr)) ht hr
   .rename_i x;simp only[Bm,B3] at h;obtain⟨rfl,rfl⟩:=h;simp only[Cj] at hr;obtain⟨xs,a,h1,h2,h3⟩:=hr;exact single (scal x (Dj.2 rfl) ⟨_,h1,h3⟩) ht (by simp only[Cj];exact⟨_,h1,h3⟩)
   .rename_i s;split at h
    .rename_i hb;simp only[Bm,B3] at h;obtain⟨rfl,rfl⟩:=h;refine single ?_ ht hr;simp only[Cj] at hr;subst hr;exact harr s _ _ _ _ hb
    .cases h
   .simp only[Bm,B3] at h;obtain⟨rfl,rfl⟩:=h;refine single ?_ ht hr;simp only[Cj] at hr;subst hr;rfl
   .simp only[Bm,B3] at h;obtain⟨rfl,rfl⟩:=h;refine single ?_ ht hr;simp only[Cj] at hr;subst hr;rfl
   .simp only[Bm,B3] at h;obtain⟨rfl,rfl⟩:=h;refine single ?_ ht hr;simp only[Cj] at hr;obtain⟨p,_,ad,el,rfl,_⟩:=hr;rfl
   .simp only[Bm,B3] at h;obtain⟨rfl,rfl⟩:=h;refine single ?_ ht hr;simp only[Cj] at hr;obtain⟨_,e,sz,x,ro,xs,k,iv,_,_,_,_,_,rfl⟩:=hr;rfl
   .simp only[Bm,B3] at h;obtain⟨rfl,rfl⟩:=h;refine single ?_ ht hr;simp only[Cj] at hr;subst hr;rfl
   .simp only[Bm,B3] at h;obtain⟨rfl,rfl⟩:=h;refine single ?_ ht hr;simp only[Cj] at hr;obtain⟨cv,rfl,_⟩:=hr;rfl
   .cases h
  .cases h
def Bd4 {m:List (Nat×Blk)} {kp:Bool} {t:TypeId} {sv:SV} {v:Value} {ws:List W} {vs:List SV} (hm:C.m=m) (h:Bd5 P m kp t sv=some (ws,vs)) (hws:∀x,W.chk x∈ws->∃p,x.ev C.J=some p)
  (harr:∀s e sz x ro,mget m s=some (.arr e sz x ro)->One (C.hv s)) (hr:Cj C sv v):
  v.cells.size=B8 P t∧vs.length=B8 P t∧(∀u,u∈v.cells.toList->One u)∧Cb C vs v.cells.toList:=by
 unfold Bd5 at h;split at h
 .rename_i sz x;split at h
  .rename_i ht;simp only[Bm,B3] at h;obtain⟨rfl,rfl⟩:=h;have h1:One v:=by
    obtain⟨q,hq⟩:=hws _ (Dj.2 rfl);simp only[Cj] at hr;obtain⟨xs,a,h1,h2,h3⟩:=hr;simp only[E.ev,h1,Bs] at hq;split at hq
    .rename_i hs;exact h3.one hs
    .cases hq
   rw[Sk h1,ht.2];refine⟨rfl,rfl,fun u hu=>by simp at hu;subst hu;exact h1,?_⟩;simp only[Cb];exact⟨v,[],rfl,hr,rfl⟩
  .cases h
 .exact Jj hm h hws harr hr
def Hk {t:TypeId} {cs:List SV} (h:Ib P t=some cs):∃i z,P.info? t=some i∧i.zero=some z∧z.cells.size=i.size∧(∀u,u∈z.cells.toList->One u)∧Cb C cs z.cells.toList:=by
 unfold Ib at h;split at h
 .rename_i i hi;split at h
  .rename_i z hz;split at h
   .cases h
   .rename_i hc;simp only[Cq,Dl,bne_iff_ne,ne_eq,not_or,Nv,Decidable.not_not,Db] at hc;simp only[Bm] at h;subst h;refine⟨i,z,hi,hz,hc.2,fun u hu=>hc.1 u hu,Cb.mk (by simp) fun j y u hy hu=> ?_⟩;simp only[C4,Bp] at hy;obtain⟨q,hq,rfl⟩:=hy;rw[List.getElem?_zip_eq_some] at hq;rw[hu] at hq;obtain⟨h1,_⟩:=hq;injection h1 with h1;rw[<-h1];exact O5 _ _ _
  .cases h
 .cases h
def Cb.setCells:∀{vs:List SV} {cs:List SV} {us ys:List Value} {off:Nat},Cb C cs us->Cb C vs ys->off+vs.length<=cs.length->Cb C (F9 cs off vs) (us.take off++ys++us.drop (off+ys.length))
 |[],cs,us,ys,off,h,hv,_=>by simp only[Cb] at hv;subst hv;simpa [F9] using h
 |v::vs,cs,us,ys,off,h,hv,hl=>by
  simp only[Cb] at hv;obtain⟨y,r,rfl,h1,h2⟩:=hv;have hlen:=h.length;have ih:=Cb.setCells (off:=off+1) (h.set off h1) h2 (by simp at hl ⊢;omega);simp only[F9];have e:(us.set off y).take (off+1)++r++(us.set off y).drop (off+1+r.length)=us.take off++(y::r)++us.drop (off+(y::r).length):=by
   have hoff:off<us.length:=by simp at hl;omega
   rw[List.take_set,List.take_succ_eq_append_getElem hoff,List.drop_set_of_lt (by omega)];have:(us.take off++[us[off]]).set off y=us.take off++[y]:=by
    have hl2:(us.take off).length=off:=by rw[Cv];omega
    have:=Wm (us.take off) us[off] y;rw[hl2] at this;exact this
   rw[this];simp[Fc,Nat.add_comm 1]
  rw[e] at ih;exact ih
variable (w:World)
def Kb {t:TypeId} {a:Addr} {us:List Value} (ha:Kk P t=true) (hn:us.length=B8 P t) (h:∀j u,us[j]? =some u->w.cell? (a.add j)=some u):(loadVar t a).run P w= .ok (.agg us.toArray) w:=by
 have hl:=run_loadCells_list (P:=P) w a us h;unfold Kk at ha;have hi:∀d,P.underlying t=some d->(sizeOf t).run P w= .ok us.length w:=by intro d hd;obtain⟨i,hi⟩:=Dc.1 (O0 hd);simp[sizeOf,typeInfo,hi,hn,B8]
 split at ha
 .rename_i h;simp[loadVar,isAgg,run_underlying h,hi _ h,hl]
 .rename_i h;simp[loadVar,isAgg,run_underlying h,hi _ h,hl]
 .cases ha
def M4 {t:TypeId} {a:Addr} {v:Value} (ha:Kk P t=false) (hu:(P.underlying t).isSome) (h:w.cell? a=some v):(loadVar t a).run P w= .ok v w:=by obtain⟨d,hd⟩:=Dc.1 hu;unfold Kk at ha;cases d<;>simp_all [loadVar,isAgg,run_underlying hd]
end
section
variable {P:Program} {w0:Fr} {Oe:Nat->Option Nat} {J:List PV} {σ:St} {a:Act} {w:World} {β:Nat->Nat} {hv:Nat->Value} {O:Nat->Option Nat} {G:Option E} {o:Oper} {ws:List W}
def Chk (J:List PV) (ws:List W):Prop:=∀x,W.chk x∈ws->∃p,x.ev J=some p
def Chk.g (hc:Chk J ws) (hG:GOk J G) {x:E} (hx:Gp G x∈ws):∃p,x.ev J=some p:=by
 unfold Gp at hx;obtain⟨p,hp⟩:=hc _ hx;cases G with
 |none=>exact⟨p,hp⟩
 |some g=>
  simp only[E.ev,hG g rfl,Bs] at hp;exact⟨p,hp⟩
def Chk.g1 {x:E} (hc:Chk J [Gp G x]) (hG:GOk J G):∃p,x.ev J=some p:=hc.g hG (Dj.2 rfl)
def GOk.conj (hG:GOk J G) {x:E} {b:Bool} (hx:x.ev J=some (.b b)) (hb:b=true):GOk J (some (yw G x)):=by
 subst hb;intro g hg;injection hg with hg;subst hg;cases G with
 |none=>exact hx
 |some g=>simp only[yw,E.ev,hG g rfl,Bs,hx]
def At2 {x:Operand} {sv:SV} (ho:o.op= .move x∨o.op= .assign x) (h:Rel w0 Oe J σ a.tmps w β hv O) (hG:GOk J G) (hx:opd P σ G o.type x=some sv):
  Ed P o a w (G1 w0 Oe J σ a.tmps (Gm σ) sv):=by
 refine Ed.value (v:=a.eval x) (w':=w) ?_ (.keep h (Fw (ds:=a.defers) hG rfl hx h.tmps));rcases ho with ho|ho<;>simp[execOp,ho]
def Dc8 {c x y:Operand} {ec ea eb:E} (ho:o.op= .pick c x y) (h:Rel w0 Oe J σ a.tmps w β hv O) (hG:GOk J G) (hc:Gx P σ G 0 c=some ec)
  (ha:Gx P σ (some (yw G ec)) o.type x=some ea) (hb:Gx P σ (some (yw G (.un .not ec))) o.type y=some eb) (hk:Chk J [Gp G (.ite ec ea eb)]):
  Ed P o a w (G1 w0 Oe J σ a.tmps (Gm σ) (.e (.ite ec ea eb))):=by
 obtain⟨r,hr⟩:=hk.g1 hG;obtain⟨p,hp,hpr⟩:=Ey (ds:=a.defers) (C:=⟨J,Cr w O,β,hv,σ.m⟩) hG rfl hc h.tmps;have hr':=hr;simp only[E.ev,hp,Bs] at hr';split at hr'
 .have hb':a.eval c= .bool true:=hpr.bool;obtain⟨q,hq,hqr⟩:=Ey (ds:=a.defers) (C:=⟨J,Cr w O,β,hv,σ.m⟩) (hG.conj hp rfl) rfl ha h.tmps;refine Ed.value (v:=a.eval x) (w':=w) (by simp[execOp,ho,hb',asBool]) (.keep h ?_);simp only[Cj];rw[hq] at hr';injection hr' with hr';subst hr';exact⟨q,hr,hqr⟩
 .have hb':a.eval c= .bool false:=hpr.bool;obtain⟨q,hq,hqr⟩:=Ey (ds:=a.defers) (C:=⟨J,Cr w O,β,hv,σ.m⟩) (hG.conj (x:= .un .not ec) (b:=true) (by simp[E.ev,hp,X.un]) rfl) rfl hb h.tmps;refine Ed.value (v:=a.eval y) (w':=w) (by simp[execOp,ho,hb',asBool]) (.keep h ?_);simp only[Cj];rw[hq] at hr';injection hr' with hr';subst hr';exact⟨q,hr,hqr⟩
 .cases hr'
def Fx0 {op:BinOp} {xt yt:TypeId} {x y:Operand} {ex ey:E} (ho:o.op= .binOp op xt x y yt) (h:Rel w0 Oe J σ a.tmps w β hv O) (hG:GOk J G) (hx:Gx P σ G xt x=some ex) (hy:Gx P σ G yt y=some ey)
  (hk:Chk J [Gp G (.bin op ex ey)]):Ed P o a w (G1 w0 Oe J σ a.tmps (Gm σ) (.e (.bin op ex ey))):=by
 obtain⟨r,hr⟩:=hk.g1 hG;obtain⟨p,hp,hpr⟩:=Ey (ds:=a.defers) (C:=⟨J,Cr w O,β,hv,σ.m⟩) hG rfl hx h.tmps;obtain⟨q,hq,hqr⟩:=Ey (ds:=a.defers) (C:=⟨J,Cr w O,β,hv,σ.m⟩) hG rfl hy h.tmps;have hr':=hr;simp only[E.ev,hp,hq,Bs] at hr';obtain⟨v,hv1,hv2⟩:=Fl3 (P:=P) w xt x y hr' hpr hqr;refine Ed.value (v:=v) (w':=w) ?_ (.keep h ?_)
 .simp only[execOp,ho];rw[Sem.run_bind];have e:a.eval=(Act.mk a.tmps a.defers).eval:=rfl;rw[e,hv1];rfl
 .simp only[Cj];exact⟨r,hr,hv2⟩
def Cm5 {op:BinOp} {neg ag:Bool} {ts:List Sc} {xt yt:TypeId} {x y:Operand} {ex ey:E} (ho:o.op= .binOp op xt x y yt) (hop:op=if neg then .neq else .eql) (hag:Kk P xt=ag) (hts:fx P 20 xt=some ts)
  (hgt:P.eqGuardType P.depth xt=false) (hbt:ag=false->P.underlying xt=some .bool)
  (h:Rel w0 Oe J σ a.tmps w β hv O) (hG:GOk J G) (hx:Gx P σ G xt x=some ex) (hy:Gx P σ G yt y=some ey)
  (hk:Chk J [Gp G (.eqs neg ag ts ex ey)]):Ed P o a w (G1 w0 Oe J σ a.tmps (Gm σ) (.e (.eqs neg ag ts ex ey))):=by
 obtain⟨r,hr⟩:=hk.g1 hG;obtain⟨p,hp,hpr⟩:=Ey (ds:=a.defers) (C:=⟨J,Cr w O,β,hv,σ.m⟩) hG rfl hx h.tmps;obtain⟨q,hq,hqr⟩:=Ey (ds:=a.defers) (C:=⟨J,Cr w O,β,hv,σ.m⟩) hG rfl hy h.tmps;have hr':=hr;simp only[E.ev,hp,hq,Bs] at hr';obtain⟨v,hv1,hv2⟩:=Ff7 (P:=P) w x y hop hag hts trivial hgt hbt hr' hpr hqr;refine Ed.value (v:=v) (w':=w) ?_ (.keep h ?_)
 .simp only[execOp,ho];rw[Sem.run_bind];have e:a.eval=(Act.mk a.tmps a.defers).eval:=rfl;rw[e,hv1];rfl
 .simp only[Cj];exact⟨r,hr,hv2⟩
def Gy8 {op:UnOp} {xt:TypeId} {x:Operand} {ex:E} (ho:o.op= .unOp op xt x) (h:Rel w0 Oe J σ a.tmps w β hv O) (hG:GOk J G) (hx:Gx P σ G 0 x=some ex) (hk:Chk J [Gp G (.un op ex)]):
  Ed P o a w (G1 w0 Oe J σ a.tmps (Gm σ) (.e (.un op ex))):=by
 obtain⟨r,hr⟩:=hk.g1 hG;obtain⟨p,hp,hpr⟩:=Ey (ds:=a.defers) (C:=⟨J,Cr w O,β,hv,σ.m⟩) hG rfl hx h.tmps;have hr':=hr;simp only[E.ev,hp,Bs] at hr';obtain⟨v,hv1,hv2⟩:=Fs6 (P:=P) w hr' hpr;refine Ed.value (v:=v) (w':=w) ?_ (.keep h ?_)
 .have e:a.eval=(Act.mk a.tmps a.defers).eval:=rfl;simp only[execOp,ho,Sem.run_bind];rw[e,hv1];rfl
 .simp only[Cj];exact⟨r,hr,hv2⟩
def Dd1 {src dst:TypeId} {k k':IntKind} {x:Operand} {ex:E} (ho:o.op= .convert src dst x) (hs:P.underlying src=some (.int k')) (hd:P.underlying dst=some (.int k)) (h:Rel w0 Oe J σ a.tmps w β hv O) (hG:GOk J G)
  (hx:Gx P σ G 0 x=some ex) (hk:Chk J [Gp G (.conv k ex)]):Ed P o a w (G1 w0 Oe J σ a.tmps (Gm σ) (.e (.conv k ex))):=by
 obtain⟨r,hr⟩:=hk.g1 hG;obtain⟨p,hp,hpr⟩:=Ey (ds:=a.defers) (C:=⟨J,Cr w O,β,hv,σ.m⟩) hG rfl hx h.tmps;have hr':=hr;simp only[E.ev,hp,Bs] at hr';unfold qg at hr';split at hr'
 .rename_i kk n;injection hr' with hr';have hv1:a.eval x= .int kk n:=hpr.int;refine Ed.value (v:= .int k (k.wrap n)) (w':=w) ?_ (.keep h ?_)
  .simp[execOp,ho,convert,run_underlying hs,run_underlying hd,hv1,Conv.intToInt]
  .simp only[Cj];exact⟨r,hr,by rw[<-hr'];exact .i _ _⟩
 .cases hr'
def Cq0 {src dst:TypeId} {x:Operand} {ex:E} (ho:o.op= .convert src dst x) (hs:P.underlying src=some .string) (hd:P.underlying dst=some .string) (h:Rel w0 Oe J σ a.tmps w β hv O) (hG:GOk J G)
  (hx:Gx P σ G 0 x=some ex) (hk:Chk J [Gp G (.bin .eql ex (.c (.s [])))]):Ed P o a w (G1 w0 Oe J σ a.tmps (Gm σ) (.e ex)):=by
 obtain⟨r,hr⟩:=hk.g1 hG;obtain⟨p,hp,hpr⟩:=Ey (ds:=a.defers) (C:=⟨J,Cr w O,β,hv,σ.m⟩) hG rfl hx h.tmps;simp only[E.ev,hp,Bs] at hr;have hstr:∃s,p= .s s:=by cases p<;>simp[X.bin] at hr;exact⟨_,rfl⟩
 obtain⟨s,rfl⟩:=hstr;obtain⟨y,hy,_⟩:=hpr.str;have hv1:a.eval x= .string y:=hy;refine Ed.value (v:= .string y) (w':=w) (by simp[execOp,ho,convert,run_underlying hs,run_underlying hd,hv1]) (.keep h ?_);simp only[Cj];exact⟨_,hp,by rw[<-hy];exact hpr⟩
def Mp {t:TypeId} {x:Operand} {f off:Nat} {ft:TypeId} {p q:SV} (ho:o.op= .fieldAddr t x f) (hf:P0 P t f=some (off,ft)) (hz:B8 P ft≠0) (h:Rel w0 Oe J σ a.tmps w β hv O) (hr:Cj ⟨J,Cr w O,β,hv,σ.m⟩ p (a.eval x))
  (hq:(∃s k,p= .bp s k∧q= .bp s (k+off))∨(∃y k,p= .ip y k∧q= .ip y (k+off))∨(∃s i k,p= .ap s i k∧q= .ap s i (k+off))):
  Ed P o a w (G1 w0 Oe J σ a.tmps (Gm σ) q):=by
 have run:∀ad,a.eval x= .pointer (some ad)->(execOp a.eval o).run P w= .ok (.value (.pointer (some (ad.add off)))) w:=by
  intro ad had;unfold P0 at hf;split at hf
  .rename_i fs hu;obtain⟨fl,hfl,he⟩:=Bp.1 hf;simp only[B3] at he;obtain⟨rfl,rfl⟩:=he;have hsz:(sizeOf fl.type).run P w= .ok (B8 P fl.type) w:=by
    cases hi:P.info? fl.type with
    |none=>exact absurd (by simp[B8,hi]) hz
    |some i=>simp[sizeOf,typeInfo,hi,B8]
   simp[execOp,ho,Instr.fieldAt,run_underlying hu,hfl,Instr.sureAddr,had,fieldPlace,hsz,hz]
  .cases hf
 rcases hq with⟨s,k,rfl,rfl⟩|⟨y,k,rfl,rfl⟩|⟨s,i,k,rfl,rfl⟩
 .simp only[Cj] at hr;refine Ed.value (run _ hr) (.keep h ?_);simp only[Cj,add_lit]
 .simp only[Cj] at hr;obtain⟨pv,hp,ad,el,had,h1,h2,h3⟩:=hr;refine Ed.value (run _ had) (.keep h ?_);simp only[Cj];refine⟨pv,hp,ad.add off,fun j=>el (off+j),rfl,fun j c hc=> ?_,fun j c hc=> ?_,fun j c hc=> ?_⟩
  .rw[Addr.add_add];exact h1 _ c (by rw[Cl] at hc ⊢;rw[<-Fc];exact hc)
  .exact h2 _ c (by rw[Cl] at hc ⊢;rw[<-Fc];exact hc)
  .exact h3 _ c (by rw[Cl] at hc ⊢;rw[<-Fc];exact hc)
 .simp only[Cj] at hr;obtain⟨hnap,ee,sz,xx,ro,xs,kk,iv,g1,g2,g3,g4,g5,had⟩:=hr;refine Ed.value (run _ had) (.keep h ?_);simp only[Cj];exact⟨hnap,ee,sz,xx,ro,xs,kk,iv,g1,g2,g3,g4,g5,by rw[add_lit,Fc]⟩
def Ly {t:TypeId} {x:Operand} {f off:Nat} {ft:TypeId} {p q:SV} (ho:o.op= .fieldAddr t x f) (hf:P0 P t f=some (off,ft)) (hz:B8 P ft≠0) (h:Rel w0 Oe J σ a.tmps w β hv O) (hG:GOk J G) (hx:opd P σ G 0 x=some p)
  (hq:(∃s k,p= .bp s k∧q= .bp s (k+off))∨(∃y k,p= .ip y k∧q= .ip y (k+off))∨(∃s i k,p= .ap s i k∧q= .ap s i (k+off))):
  Ed P o a w (G1 w0 Oe J σ a.tmps (Gm σ) q):=by
 have hr:=Fw (ds:=a.defers) (C:=⟨J,Cr w O,β,hv,σ.m⟩) hG rfl hx h.tmps;exact Mp ho hf hz h hr hq
def Cm3 {C:Cx} {y:E} {v:Value} {q:PV} (hr:Cj C (.e y) v) (hd:(E.der y).ev C.J=some q):Cj C (.ip (.der y) 0) v:=by simp only[Cj] at hr ⊢;obtain⟨p,hp,hpr⟩:=hr;refine⟨q,hd,?_⟩;simp only[E.ev,hp,Bs] at hd;cases p<;>simp only[yq,Bm,reduceCtorEq] at hd;subst hd;exact hpr.ptr
def T4 {t:TypeId} {x:Operand} {f off:Nat} {ft:TypeId} {y:E} (ho:o.op= .fieldAddr t x f) (hf:P0 P t f=some (off,ft)) (hz:B8 P ft≠0) (h:Rel w0 Oe J σ a.tmps w β hv O) (hG:GOk J G) (hx:opd P σ G 0 x=some (.e y)) (hk:Chk J [Gp G (.der y)]):
  Ed P o a w (G1 w0 Oe J σ a.tmps (Gm σ) (.ip (.der y) off)):=by
 have hr:=Fw (ds:=a.defers) (C:=⟨J,Cr w O,β,hv,σ.m⟩) hG rfl hx h.tmps;obtain⟨q,hq⟩:=hk.g1 hG;exact Mp ho hf hz h (Cm3 hr hq) (.inr (.inl ⟨_,0,rfl,by rw[Fl]⟩))
def v9 {x:Operand} {i:Nat} {xs:List SV} {v:SV} (ho:o.op= .extract x i) (h:Rel w0 Oe J σ a.tmps w β hv O) (hG:GOk J G) (hx:opd P σ G 0 x=some (.tup xs)) (hi:xs[i]? =some v):
  Ed P o a w (G1 w0 Oe J σ a.tmps (Gm σ) v):=by
 have hr:=Fw (ds:=a.defers) (C:=⟨J,Cr w O,β,hv,σ.m⟩) hG rfl hx h.tmps;simp only[Cj] at hr;obtain⟨vs,hvs,hr⟩:=hr;have hvs':a.eval x= .tuple vs:=hvs;obtain⟨u,hu,hru⟩:=hr.get i v hi;have hu':vs[i]? =some u:=by rw[<-B6];exact hu
 exact Ed.value (v:=u) (w':=w) (by simp[execOp,ho,Instr.extract,hvs',hu']) (.keep h hru)
def gy {f:FuncId} {first captured:Array Operand} {cs:List SV} (ho:o.op= .makeFunc (.func f) first captured) (hf:first.isEmpty=true) (h:Rel w0 Oe J σ a.tmps w β hv O) (hG:GOk J G) (hx:args P σ G captured.toList []=some cs):
  Ed P o a w (G1 w0 Oe J σ a.tmps (Gm σ) (.clo f cs)):=by
 have hr:=Pn (ds:=a.defers) (C:=⟨J,Cr w O,β,hv,σ.m⟩) hG rfl h.tmps hx;have hf':first= #[]:=by simpa using hf
 refine Ed.value (v:= .func (.func f) #[] (captured.map a.eval)) (w':=w) (by simp[execOp,ho,Instr.makeFunc,hf']) (.keep h ?_);simp only[Cj];exact⟨_,rfl,by simpa using hr⟩
def Jz {x:Operand} {p:SV} (ho:o.op= .nilCheck x) (h:Rel w0 Oe J σ a.tmps w β hv O) (hG:GOk J G) (hx:opd P σ G 0 x=some p)
  (hp:(∃y,p= .e y∧Chk J [Gp G (.scal y)])∨(∃s k,p= .bp s k)∨(∃y k,p= .ip y k)∨(∃s i k,p= .ap s i k)∨∃g cs,p= .clo g cs):Ed P o a w (G1 w0 Oe J σ a.tmps (Gm σ) p):=by
 have hr:=Fw (ds:=a.defers) (C:=⟨J,Cr w O,β,hv,σ.m⟩) hG rfl hx h.tmps;have e:a.eval=(Act.mk a.tmps a.defers).eval:=rfl;rw[<-e] at hr;refine Ed.value (v:=a.eval x) (w':=w) ?_ (.keep h hr);rcases hp with⟨y,rfl,hk⟩|⟨s,k,rfl⟩|⟨y,k,rfl⟩|⟨s,i,k,rfl⟩|⟨g,cs,rfl⟩
 .obtain⟨r,hr1⟩:=hk.g1 hG;simp only[Cj] at hr;obtain⟨q,hq,hqr⟩:=hr;simp only[E.ev,hq,Bs] at hr1;split at hr1
  .rename_i hs;have hv1:a.eval x=(Act.mk a.tmps a.defers).eval x:=rfl;generalize hu:a.eval x=u at hqr;cases hqr<;>first|(simp[PV.scal] at hs;done)|simp[execOp,ho,hu]
  .cases hr1
 .simp only[Cj] at hr;simp[execOp,ho,hr]
 .simp only[Cj] at hr;obtain⟨q,_,ad,el,had,_⟩:=hr;simp[execOp,ho,had]
 .simp only[Cj] at hr;obtain⟨_,_,_,_,_,_,_,_,_,_,_,_,_,had⟩:=hr;simp[execOp,ho,had]
 .simp only[Cj] at hr;obtain⟨cv,had,_⟩:=hr;simp[execOp,ho,had]
def Xw {x i:E} {sz:Nat} {xs:List PV} {k:IntKind} {iv:Int} (hx:x.ev J=some (.l sz xs)) (hi:i.ev J=some (.i k iv)) (h0:0<=iv) (hlt:iv.toNat<xs.length) (hm:xs.length<=maxLen)
  (hr:∃r,(gr x i).ev J=some r):iv.toNat=xs.length - 1:=by
 obtain⟨r,hr⟩:=hr;simp only[maxLen] at hm;simp only[gr,Ew7,E.ev,hx,hi,Bs,Hg,X.bin,Gc,if_true] at hr;rw[IntWalk.i64_in _ ⟨by omega,by omega⟩] at hr;by_cases hkk:k= .i64
 .subst hkk;simp only[if_true,Bs] at hr;by_cases hn:iv=(xs.length:Int) - 1
  .omega
  .rw[show (iv==(xs.length:Int) - 1)=false by simpa using hn] at hr;simp[PV.scal] at hr
 .simp[hkk] at hr
def bh {C:Cx} {ro:Ro} {t:TypeId} {off n j sz k:Nat} {sv:SV} {vs:List Value} (h:pb P ro t off n=some (j,sv)) (hr:G7 C sz k vs ro.lk) (hk:0<k):
  j<n∧∃u,vs[(k - 1)*sz+(off+j)]? =some u∧Cj C sv u:=by
 unfold pb at h;split at h
 .rename_i lo q hl;split at h
  .rename_i hle;simp only[Bm,B3] at h;obtain⟨rfl,rfl⟩:=h;rw[hl] at hr;have hr':=hr hk;rw[show off+(lo - off)=lo by omega];refine⟨by omega,_,hr',?_⟩;cases q<;>simp only[Cj]
  .cases h
 .cases h
def Cm0 {α:Type}:∀{l:List α} {j:Nat} {u:α},l[j]? =some u->l.set j u=l
 |x::l,0,u,h=>by simp at h;subst h;rfl
 |x::l,j+1,u,h=>by simp only[List.set_cons_succ];rw[Cm0 (by simpa using h)]
def pw {t:TypeId} {p sv:SV} {v0:Value} {tm:Array Value} (h:Rel w0 Oe J σ tm w β hv O) (hG:GOk J G) (hr:Cj ⟨J,Cr w O,β,hv,σ.m⟩ p v0) (hne:∀y,p≠ .e y) (hl:N3 P σ G t p=some (ws,sv)) (hk:Chk J ws):
  ∃ad v,v0= .pointer (some ad)∧(loadVar t ad).run P w= .ok v w∧Cj ⟨J,Cr w O,β,hv,σ.m⟩ sv v:=by
 have fin:∀ad v,v0= .pointer (some ad)->(loadVar t ad).run P w= .ok v w->Cj ⟨J,Cr w O,β,hv,σ.m⟩ sv v->∃ad v,v0= .pointer (some ad)∧(loadVar t ad).run P w= .ok v w∧Cj ⟨J,Cr w O,β,hv,σ.m⟩ sv v:=fun ad v a b c=>⟨ad,v,a,b,c⟩;unfold N3 at hl;split at hl
 .cases hl
 .rename_i hun;have hun':(P.underlying t).isSome=true:=by cases hh:P.underlying t<;>simp_all
  split at hl
  .rename_i s off;simp only[Cj] at hr;split at hl
   .rename_i cs ro hb;obtain⟨_,_,vs,T,g3,g4,g5,_⟩:=h.mem s _ hb;split at hl
    .rename_i hag;dsimp only at hl;split at hl
     .rename_i hle;simp only[Bm,B3] at hl;obtain⟨rfl,rfl⟩:=hl;have hlen:=g5.length;have hsub:Cb ⟨J,Cr w O,β,hv,σ.m⟩ ((cs.drop off).take (B8 P t)) ((vs.toList.drop off).take (B8 P t)):=by
       refine Cb.mk (by simp[hlen]) fun j y u hy hu=> ?_;rw[Ch] at hy hu;split at hy
       .rename_i hj;rw[if_pos hj] at hu;rw[Cl] at hy hu;obtain⟨u',hu',hr'⟩:=g5.get _ y hy;rw[hu] at hu';injection hu' with hu';subst hu';exact hr'
       .cases hy
      refine fin _ _ hr (Kb w (us:=(vs.toList.drop off).take (B8 P t)) hag (by simp at hlen ⊢;omega) fun j u hu=> ?_) (Q1 (by simpa using hsub) fun u hu=> ?_)
      .rw[Ch] at hu;split at hu
       .rw[Cl,B6] at hu;rw[add_lit,cell_of_row w (β s) (off+j) vs T (0,0) g3];exact hu
       .cases hu
      .exact g4 u (F6 (Er (by simpa using hu)))
     .cases hl
    .rename_i hag;obtain⟨c,hc,he⟩:=Bp.1 hl;simp only[B3] at he;obtain⟨rfl,rfl⟩:=he;obtain⟨u,hu,hru⟩:=g5.get off c hc;refine fin _ u hr (M4 w (by simpa using hag) hun' ?_) hru;rw[cell_of_row w (β s) off vs T (0,0) g3,<-B6];exact hu
   .cases hl
  .rename_i y off;simp only[Cj] at hr;obtain⟨p,hp,ad,el,had,h1,h2,h3⟩:=hr;have hp':y.ev J=some p:=hp;have cell:∀j c,(p.cells.drop off)[j]? =some c->w.cell? (ad.add j)=some (el j):=fun j c hc=>(Lj (h1 j c hc)).1;split at hl
   .rename_i hag;simp only[Bm,B3] at hl;obtain⟨rfl,rfl⟩:=hl;obtain⟨r,hr⟩:=hk.g1 hG;have hr':=hr;simp only[E.ev,hp',Bs] at hr';split at hr'
    .rename_i hle;injection hr' with hr';have each:∀j,j<B8 P t->∃c,(p.cells.drop off)[j]? =some c:=fun j hj=>⟨_,B4 (by simp;omega)⟩;refine fin ad _ had (Kb w (us:=(List.range (B8 P t)).map el) hag (by simp) fun j u hu=> ?_) ?_
     .simp only[C4,Bp] at hu;obtain⟨k,hk',rfl⟩:=hu;have hj:j<B8 P t:=by have:=(Bn.1 hk').1;simpa using this
      rw[Dx hj] at hk';injection hk' with hk';subst hk';obtain⟨c,hc⟩:=each j hj;exact cell j c hc
     .simp only[Cj];refine⟨r,hr,?_⟩;rw[<-hr'];refine Rep.agg_mk (by simp;omega) (fun u hu=> ?_) fun j c u hc hu=> ?_
      .simp only[Bm8,Hr] at hu;obtain⟨k,hk',rfl⟩:=hu;obtain⟨c,hc⟩:=each k hk';exact h2 k c hc
      .rw[Ch] at hc;split at hc
       .rename_i hj;simp only[C4,Bp,Dx hj] at hu;obtain⟨k,hk',rfl⟩:=hu;injection hk' with hk';subst hk';exact h3 j c hc
       .cases hc
    .cases hr'
   .rename_i hag;simp only[Bm,B3] at hl;obtain⟨rfl,rfl⟩:=hl;obtain⟨r,hr⟩:=hk.g1 hG;have hr':=hr;simp only[E.ev,hp',Bs] at hr';have hd:(p.cells.drop off)[0]? =some r:=by rw[Cl];exact hr'
    refine fin ad (el 0) had (M4 w (by simpa using hag) hun' ?_) ?_
    .have:=cell 0 r hd;simpa [Go.Addr.add] using this
    .simp only[Cj];exact⟨r,hr,h3 0 r hd⟩
  .rename_i s i off;simp only[Cj] at hr;obtain⟨_,ee,sz,y,ro,xs,kk,iv,g1,g2,g3,g4,g5,had⟩:=hr;split at hl
   .rename_i e' sz' y' ro' hb;have g1':mget σ.m s=some (.arr ee sz y ro):=g1;rw[hb] at g1';injection g1' with g1';injection g1' with q1 q2 q3 q4;subst q1;subst q2;subst q3;subst q4;have g2':y'.ev J=some (.l sz' xs):=g2;have g3':i.ev J=some (.i kk iv):=g3;obtain⟨_,xs',vs,k1,k2,k3,k4,k5⟩:=h.mem s _ hb;have k1':y'.ev J=some (.l sz' xs'):=k1;rw[g2'] at k1';injection k1' with k1';injection k1' with _ k1';subst k1';have hxi:xs[iv.toNat]? =some (xs[iv.toNat]'g5):=B4 g5;obtain⟨m1,m2⟩:=k3 _ _ hxi;have hidx:(E.idx sz' y' i).ev J=some (xs[iv.toNat]'g5):=by simp only[E.ev,g2',g3',Bs,Kf,if_true,if_pos g4];exact hxi
    have hblk:∃cap,0<cap∧hv s= .slice (some ⟨β s,0,none⟩) xs.length cap:=by
     rcases k2.2 with⟨_,_,hn⟩|⟨g,cap,cur,e1,e1c,_⟩
     .omega
     .have e1':hv s= .slice (some ⟨g,0,none⟩) xs.length cap:=e1;have:=(k4 g (by show C8 (hv s)=_;rw[e1'];simp only[C8,if_neg (show¬cap=0 by omega)])).1;have this':g=β s:=this;exact⟨cap,by omega,by rw[e1',this']⟩
    obtain⟨cap,hcp,hcap⟩:=hblk;have cell:∀j u,vs[j]? =some u->w.cell? ⟨β s,j,none⟩=some u:=by intro j u hu;have:=k2.cells (g:=β s) (by have:hv s=_:=hcap;show C8 (hv s)=_;rw[this];simp only[C8,if_neg (show¬cap=0 by omega)]) j u hu;rwa[add_lit,Fl] at this
    have hmax:xs.length<=maxLen:=by
     rcases k2.2 with⟨_,_,hn⟩|⟨g,cap,cur,_,_,_,_,e4,e5,_⟩
     .omega
     .exact En e4 e5
    split at hl
    .rename_i hag;have main:∀r,(E.sub off (B8 P t) (.idx sz' y' i)).ev J=some r->∃us:List Value,(loadVar t ⟨β s,iv.toNat*sz'+off,none⟩).run P w= .ok (.agg us.toArray) w∧Rep (Cr w O) r (.agg us.toArray)∧
       (∃cs,r= .a cs∧cs.length=B8 P t)∧(∀u,u∈us->One u)∧us.length=B8 P t∧∀j,j<B8 P t->us[j]? =vs[iv.toNat*sz'+(off+j)]? :=by
      intro r hr';rw[E.ev,hidx] at hr';simp only[Bs] at hr';split at hr'
      .rename_i hle;injection hr' with hr';have each:∀j,j<B8 P t->∃c u,((xs[iv.toNat]'g5).cells.drop off)[j]? =some c∧vs[iv.toNat*sz'+(off+j)]? =some u∧One u∧Rep (Cr w O) c u:=by intro j hj;have hc:((xs[iv.toNat]'g5).cells)[off+j]? =some _:=B4 (by omega);obtain⟨u,u1,u2,u3⟩:=m2 _ _ hc;exact⟨_,u,by rw[Cl];exact hc,u1,u2,u3⟩
       have hvl:∀j,j<B8 P t->vs[iv.toNat*sz'+(off+j)]? =some (vs.getD (iv.toNat*sz'+(off+j)) undef):=by intro j hj;obtain⟨c,u,_,hu,_⟩:=each j hj;simp[Ct,hu]
       have hone:∀u,u∈(List.range (B8 P t)).map (fun j=>vs.getD (iv.toNat*sz'+(off+j)) undef)->One u:=fun u hu=>by simp only[Bm8,Hr] at hu;obtain⟨k,hk',rfl⟩:=hu;obtain⟨c,u,_,hu,h1,_⟩:=each k hk';simp only[Ct,hu,D2];exact h1
       refine⟨(List.range (B8 P t)).map fun j=>vs.getD (iv.toNat*sz'+(off+j)) undef,Kb w hag (by simp) fun j u hu=> ?_,?_,⟨_,hr'.symm,by simp;omega⟩,hone,by simp,fun j hj=> ?_⟩
       .simp only[C4,Bp] at hu;obtain⟨k,hk',rfl⟩:=hu;have hj:j<B8 P t:=by have:=(Bn.1 hk').1;simpa using this
        rw[Dx hj] at hk';injection hk' with hk';subst hk';rw[add_lit,Fc];exact cell _ _ (hvl j hj)
       .rw[<-hr'];refine Rep.agg_mk (by simp;omega) (by simpa using hone) fun j c u hc hu=> ?_;rw[Ch] at hc;split at hc
        .rename_i hj;simp only[C4,Bp,Dx hj] at hu;obtain⟨k,hk',rfl⟩:=hu;injection hk' with hk';subst hk';obtain⟨c',u,hc',hu,_,h3⟩:=each j hj;rw[hc] at hc';injection hc' with hc';subst hc';simp only[Ct,hu,D2];exact h3
        .cases hc
       .rw[C4,Dx hj,hvl j hj];rfl
      .cases hr'
     split at hl
     .rename_i j sv' hlk;simp only[Bm,B3] at hl;obtain⟨rfl,rfl⟩:=hl;obtain⟨r,hr⟩:=Chk.g hk hG (.head _);have hlast:=Xw g2' g3' g4 g5 hmax (Chk.g hk hG (.tail _ (.head _)));obtain⟨us,m1,m2',⟨cs,rfl,m3⟩,m4,m5,m6⟩:=main r hr;refine fin _ _ had m1 ?_;simp only[Cj];have hsp:Cb ⟨J,Cr w O,β,hv,σ.m⟩ (Rh (B8 P t) (.sub off (B8 P t) (.idx sz' y' i))) us:=by rw[<-m3];rw[<-m3] at hr;have:=split_ok (C:=⟨J,Cr w O,β,hv,σ.m⟩) (vs:=us.toArray) hr (by simp[m5,m3]) fun j c v hc hv=>(m2'.cells (by simp)).2.2 j c v hc (by simpa [Value.cells] using hv);simpa using this
      have hj:j<B8 P t∧∃u,us[j]? =some u∧Cj ⟨J,Cr w O,β,hv,σ.m⟩ sv' u:=by obtain⟨q1,u,q2,q3⟩:=bh hlk k5 (by omega);refine⟨q1,u,?_,q3⟩;rw[m6 j q1,hlast];exact q2
      obtain⟨_,u,hu,hsv⟩:=hj;refine⟨_,rfl,by simpa using m4,?_⟩;have:=hsp.set j hsv;rw[Cm0 hu] at this;simpa using this
     .simp only[Bm,B3] at hl;obtain⟨rfl,rfl⟩:=hl;obtain⟨r,hr⟩:=hk.g1 hG;obtain⟨us,m1,m2',_⟩:=main r hr;refine fin _ _ had m1 ?_;simp only[Cj];exact⟨r,hr,m2'⟩
    .rename_i hag;have main:∀r,(E.proj off (.idx sz' y' i)).ev J=some r->∃u,vs[iv.toNat*sz'+off]? =some u∧Rep (Cr w O) r u∧(loadVar t ⟨β s,iv.toNat*sz'+off,none⟩).run P w= .ok u w:=by intro r hr';rw[E.ev,hidx] at hr';simp only[Bs] at hr';obtain⟨u,u1,u2,u3⟩:=m2 _ _ hr';exact⟨u,u1,u3,M4 w (by simpa using hag) hun' (cell _ _ u1)⟩
     split at hl
     .rename_i j sv' hlk;simp only[Bm,B3] at hl;obtain⟨rfl,rfl⟩:=hl;obtain⟨r,hr⟩:=Chk.g hk hG (.head _);have hlast:=Xw g2' g3' g4 g5 hmax (Chk.g hk hG (.tail _ (.head _)));obtain⟨u,u1,u2,u3⟩:=main r hr;refine fin _ u had u3 ?_;obtain⟨q1,u',q2,q3⟩:=bh hlk k5 (by omega);obtain rfl:j=0:=by omega
      rw[<-hlast,E5,u1] at q2;injection q2 with q2;subst q2;exact q3
     .simp only[Bm,B3] at hl;obtain⟨rfl,rfl⟩:=hl;obtain⟨r,hr⟩:=hk.g1 hG;obtain⟨u,u1,u2,u3⟩:=main r hr;refine fin _ u had u3 ?_;simp only[Cj];exact⟨r,hr,u2⟩
   .cases hl
  .exact absurd rfl (hne _)
  .cases hl
def Bk8 {t:TypeId} {p sv:SV} {v0:Value} {tm:Array Value} (h:Rel w0 Oe J σ tm w β hv O) (hG:GOk J G) (hr:Cj ⟨J,Cr w O,β,hv,σ.m⟩ p v0) (hl:N3 P σ G t p=some (ws,sv)) (hk:Chk J ws):
  ∃ad v,v0= .pointer (some ad)∧(loadVar t ad).run P w= .ok v w∧Cj ⟨J,Cr w O,β,hv,σ.m⟩ sv v:=by
 by_cases hp:∃y,p= .e y
 .obtain⟨y,rfl⟩:=hp;have hl':N3 P σ G t (.ip (.der y) 0)=some (ws,sv):=hl;refine pw h hG (Cm3 (q:=((E.der y).ev J).getD .u) hr ?_) (fun y e=>by cases e) hl' hk;have key:∀z:E,(∀r,z.ev J=some r->((E.der y).ev J).isSome=true)->Chk J [Gp G z]->(E.der y).ev J=some (((E.der y).ev J).getD .u):=by intro z hz hk;obtain⟨r,hr⟩:=hk.g1 hG;have:=hz r hr;obtain⟨q,hq⟩:=Dc.1 this;rw[hq];rfl
  unfold N3 at hl;split at hl
  .cases hl
  .dsimp only at hl;split at hl
   .simp only[Bm,B3] at hl;obtain⟨rfl,_⟩:=hl;refine key _ (fun r hr=> ?_) hk;simp only[E.ev] at hr ⊢;obtain⟨q,hq,_⟩:=Bl.1 hr;rw[hq];rfl
   .simp only[Bm,B3] at hl;obtain⟨rfl,_⟩:=hl;refine key _ (fun r hr=> ?_) hk;simp only[E.ev] at hr ⊢;obtain⟨q,hq,_⟩:=Bl.1 hr;rw[hq];rfl
 .exact pw h hG hr (fun y e=>hp ⟨y,e⟩) hl hk
def Dd0 {t:TypeId} {x:Operand} {p sv:SV} (ho:o.op= .load t x) (h:Rel w0 Oe J σ a.tmps w β hv O) (hG:GOk J G) (hx:opd P σ G 0 x=some p) (hl:N3 P σ G t p=some (ws,sv)) (hk:Chk J ws):
  Ed P o a w (G1 w0 Oe J σ a.tmps (Gm σ) sv):=by
 have hr:=Fw (ds:=a.defers) (C:=⟨J,Cr w O,β,hv,σ.m⟩) hG rfl hx h.tmps;obtain⟨ad,v,had,hlv,hrv⟩:=Bk8 h hG hr hl hk;have had':a.eval x= .pointer (some ad):=had;exact Ed.value (v:=v) (w':=w) (by simp[execOp,ho,Instr.loadAt,Instr.sureAddr,had',hlv]) (.keep h hrv)
end
section
variable {P:Program} {w0:Fr} {Oe:Nat->Option Nat} {J:List PV} {σ:St} {a:Act} {w:World} {β:Nat->Nat} {hv:Nat->Value} {O:Nat->Option Nat} {G:Option E} {o:Oper} {ws:List W}
def Rel.oneH (h:Rel w0 Oe J σ a.tmps w β hv O):∀s e sz x ro,mget σ.m s=some (.arr e sz x ro)->One (hv s):=by
 intro s e sz x ro hb;obtain⟨_,xs,vs,_,k2,_⟩:=h.mem s _ hb;rcases k2.2 with⟨_,hn,_⟩|⟨g,cap,cur,e1,_⟩
 .have:hv s=_:=hn;rw[this];rfl
 .have:hv s=_:=e1;rw[this];rfl
def W9 {cs:List SV} (h:T5 cs=true) {j:Nat} {x:SV} (hx:cs[j]? =some x) (s T:Nat):x≠ .slf s T:=by intro e;subst e;simp only[T5,Db] at h;have:=h _ (Cy hx);simp[SV.isSlf] at this
def Ac7 {s T:Nat}:∀(vs:List SV) (cs:List SV) (off:Nat),T5 vs=true->(F9 cs off vs)[0]? =some (.slf s T)->cs[0]? =some (.slf s T)
 |[],cs,off,_,h=>h
 |v::vs,cs,off,hn,h=>by
  have hn':T5 vs=true:=by simp only[T5,Km,Bt] at hn ⊢;exact hn.2
  have h1:=Ac7 vs (cs.set off v) (off+1) hn' h;rw[Ev] at h1;split at h1
  .split at h1
   .exact absurd (Option.some.inj h1) (W9 hn (j:=0) rfl s T)
   .cases h1
  .exact h1
def Cq3 {t:TypeId} {cs:List SV} {s:Nat} (ho:o.op= .alloc t) (h:Rel w0 Oe J σ a.tmps w β hv O) (hz:Ib P t=some cs) (hns:T5 cs=true):
  Ed P o a w (G1 w0 Oe J σ a.tmps (G6 σ.m σ.n s (.box (if Cy4 P t then cs.set 0 (.slf s t) else cs) false)) (.bp s 0)):=by
 generalize hcs':(if Cy4 P t then cs.set 0 (.slf s t) else cs)=cs';obtain⟨i,z,hi,hzz,hsz,h1,_⟩:=Hk (C:=⟨J,Cr w O,β,hv,σ.m⟩) hz;obtain⟨β',O',hβ,hrel⟩:=h.alloc (s:=s) (b:= .box cs' false) (n:=σ.n) (.cells z.cells t) fun β' O' hb _ hO _=>by
  obtain⟨i',z',hi',hzz',_,_,hr⟩:=Hk (C:=⟨J,Cr (w.alloc (.cells z.cells t)) O',β',hv,(G6 σ.m σ.n s (.box cs' false)).m⟩) hz;rw[hi] at hi';injection hi' with hi';subst hi';rw[hzz] at hzz';injection hzz' with hzz';subst hzz';refine⟨by show w0.ok (β' s);rw[hb];exact .inl h.bel.size,fun _=>by show O' (β' s)=_;rw[hb];exact hO,z.cells,t,?_,h1,?_,?_⟩
  .show (w.alloc _).heap[β' s]? =_;rw[hb];exact heap_alloc_new w _
  .generalize (Cx.mk J (Cr (w.alloc (.cells z.cells t)) O') β' hv (G6 σ.m σ.n s (.box cs' false)).m)=C' at hr;rw[<-hcs'];split
   .rename_i hbl;refine Cb.mk (by simp[hr.length]) fun j y u hy hu=> ?_;rw[Ev] at hy;by_cases h0:0=j
    .subst h0;simp only[if_true] at hy;split at hy
     .injection hy with hy;subst hy;simp only[Cy4,hi,hzz,Bt] at hbl;have hbl2:=hbl.2;split at hbl2
      .rename_i hz0;rw[B6,hz0] at hu;injection hu with hu;subst hu;simp only[Cj];exact .inl trivial
      .cases hbl2
     .cases hy
    .rw[if_neg h0] at hy;obtain⟨v,hv1,hv2⟩:=hr.get j y hy;rw[hu] at hv1;injection hv1 with hv1;subst hv1;exact hv2
   .exact hr
  .rw[<-hcs'];intro s' T' hc;split at hc
   .rw[Ev] at hc;simp only[if_true] at hc;split at hc
    .injection hc with hc;injection hc
    .cases hc
   .exact absurd rfl (W9 hns hc s' T')
 refine Ed.value (v:= .pointer (some ⟨w.heap.size,0,none⟩)) (w':=w.alloc (.cells z.cells t)) ?_ ⟨β',hv,O',hrel,?_⟩
 .simp[execOp,ho,Instr.alloc,zeroValue,typeInfo,hi,hzz,newVar,newRow]
 .simp only[Cj,hβ]
def Cg8 {M':Vw} {β':Nat->Nat} {hv':Nat->Value} {m:List (Nat×Blk)} {M:Vw} {s n:Nat} {b:Blk} (hβ:∀s',s'≠s->β' s'=β s') (hhv:∀s',s'≠s->hv' s'=hv s'):
  ∀s',s'≠s->(Cx.mk J M β hv m).At ⟨J,M',β',hv',(G6 m n s b).m⟩ s':=fun s' hs=>
 ⟨hβ s' hs,hhv s' hs,fun e sz x ro xs h1 h2=>⟨e,x,ro.kill s,xs,by have:mget (G6 m n s b).m s'=(mget m s').map (Blk.kill s):=Kz ⟨[],m,n⟩ hs b;show mget (G6 m n s b).m s'=_;have h1':mget m s'=some (.arr e sz x ro):=h1;rw[this,h1'];rfl,h2,B7 _⟩⟩
def Fw8 {t:TypeId} {x:Operand} {sv:SV} {cs:List SV} {s:Nat} {ro:Bool} (ho:o.op= .box t x) (h:Rel w0 Oe J σ a.tmps w β hv O) (hG:GOk J G) (hx:opd P σ G t x=some sv) (hc:cellsOf P σ.m t sv=some (ws,cs)) (hns:T5 cs=true) (hk:Chk J ws):
  Ed P o a w (G1 w0 Oe J σ a.tmps (G6 σ.m σ.n s (.box (SV.kills s cs) ro)) (.bp s 0)):=by
 have hr:=Fw (ds:=a.defers) (C:=⟨J,Cr w O,β,hv,σ.m⟩) hG rfl hx h.tmps;have e:a.eval=(Act.mk a.tmps a.defers).eval:=rfl;rw[<-e] at hr;obtain⟨_,_,h1,h2⟩:=Jj (C:=⟨J,Cr w O,β,hv,σ.m⟩) rfl hc hk h.oneH hr;obtain⟨β',O',hβ,hrel⟩:=h.alloc (s:=s) (b:= .box (SV.kills s cs) ro) (n:=σ.n) (.cells (a.eval x).cells t) fun β' O' hb hbn hO hM=>by
  refine⟨by show w0.ok (β' s);rw[hb];exact .inl h.bel.size,fun _=>by show O' (β' s)=_;rw[hb];exact hO,(a.eval x).cells,t,?_,h1,?_,fun s' T' hh=>absurd rfl (W9 hns (Zc hh) s' T')⟩
  .show (w.alloc _).heap[β' s]? =_;rw[hb];exact heap_alloc_new w _
  .exact Cb.kill (C:=⟨J,Cr w O,β,hv,σ.m⟩) (C':=⟨J,Cr (w.alloc (.cells (a.eval x).cells t)) O',β',hv,(G6 σ.m σ.n s (.box (SV.kills s cs) ro)).m⟩) ⟨fun _ _ h=>h,hM⟩ (Cg8 hbn fun _ _=>rfl) _ _ h2
 refine Ed.value (v:= .pointer (some ⟨w.heap.size,0,none⟩)) (w':=w.alloc (.cells (a.eval x).cells t)) ?_ ⟨β',hv,O',hrel,?_⟩
 .simp[execOp,ho,Instr.box,newVar,newRow]
 .simp only[Cj,hβ]
def Fg {t:TypeId} {n:Nat} (hn:B8 P t=n) (h0:n≠0):(sizeOf t).run P w= .ok n w:=by
 cases hi:P.info? t with
 |none=>exact absurd (by simp[<-hn,B8,hi]) h0
 |some i=>simp[sizeOf,typeInfo,hi,<-hn,B8]
def Zz {t:TypeId} {x y:Operand} {g off:Nat} {cur:Array Value} {T:TypeId} {v:Value} (ho:o.op= .store t x y) (hx:a.eval x= .pointer (some ⟨g,off,none⟩)) (hy:a.eval y=v) (hg:w.heap[g]? =some (.cells cur T (0,0)))
  (hsz:v.cells.size=B8 P t) (h0:B8 P t≠0) (h1:∀u,u∈v.cells.toList->One u) (hle:off+v.cells.size<=cur.size):
  (execOp a.eval o).run P w= .ok .skip (w.setRow g (cur.toList.take off++v.cells.toList++cur.toList.drop (off+v.cells.size)).toArray):=by
 have hst:=run_storeCells_at P g off T v.cells.toList 0 cur w hg (by simpa using hle) h1;simp only[E5,C3] at hst;simp only[execOp,ho,Instr.storeAt,Instr.sureAddr,hx,hy,storeVar,Sem.run_bind,Fg rfl h0,Result.andThen_ok,hsz,ne_eq,not_true_eq_false,if_false,Sem.run_pure];rw[hsz] at hst;rw[hst];rfl
def Lv {g:Nat} {w0:Fr} {w:World} (hb:Bel w0 w) (hBg:w0.ok g) (cs:Array Value):Bel w0 (w.setRow g cs):=
 hb.turn hBg rfl rfl rfl (B7 _) (by simp) fun k _ hk=>setRow_other w g k cs hk
def N2 {ss:List Nat} {m:List (Nat×Blk)} {s:Nat} (h:ss.contains s=false):mget (Ks ss m) s=mget m s:=by rw[Sn];cases mget m s<;>simp_all
def Af5 {C C':Cx} {lk lk':Option (Nat×Option (Option Nat))} {off sz n iv:Nat} {vs:List SV} {yp us us':List Value} {Q:Prop} (h:lk'=none∨R7 lk off vs=some (false,lk')∨R7 lk off vs=some (true,lk')∧Q)
  (hl:G7 C sz n us lk) (hq:Q->iv=n - 1) (hn:iv<n) (hc:Cb C' vs yp) (hoff:off+vs.length<=sz)
  (ho:∀p V,p<n*sz->p<iv*sz+off∨iv*sz+off+vs.length<=p->us[p]? =some V->us'[p]? =some V) (hi:∀k u,k<vs.length->yp[k]? =some u->us'[iv*sz+off+k]? =some u) (hlen:us.length=n*sz) (hh:C'.hv=C.hv):
  G7 C sz n us' lk':=by
 rcases h with rfl|h|⟨h,hQ⟩
 .trivial
 .unfold R7 at h;split at h
  .cases h
  .rename_i lo k;split at h
   .rename_i hlo;simp only[Bm,B3,true_and] at h;subst h;cases k with
    |none=>trivial
    |some t=>
     simp only[G7] at hl ⊢;intro hn0;have hv:=hl hn0;have hlt:=(Bn.1 hv).1;rw[hlen] at hlt;refine ho _ _ hlt ?_ hv;rcases Nat.lt_or_ge iv (n - 1) with hi'|hi'
     .have:(iv+1)*sz<=(n - 1)*sz:=Cn _ (by omega);rw[C9,Gh] at this;omega
     .have:iv=n - 1:=by omega
      subst this;omega
   .split at h<;>simp at h
 .unfold R7 at h;have hiv:=hq hQ;split at h
  .cases h
  .rename_i lo k;split at h
   .simp at h
   .rename_i hlo;have fin:∀V,yp[lo - off]? =some V->us'[(n - 1)*sz+lo]? =some V:=fun V hV=>by have:=hi (lo - off) V (by omega) hV;rw[<-hiv,show iv*sz+lo=iv*sz+off+(lo - off) by omega];exact this
    split at h
    .rename_i s2 hvs;simp only[Bm,B3,true_and] at h;subst h;obtain⟨V,hV,hr⟩:=hc.get _ _ hvs;simp only[Cj] at hr;intro _;rw[fin V hV,hr,hh]
    .rename_i z hvs;simp only[Bm,B3,true_and] at h;subst h;obtain⟨V,hV,hr⟩:=hc.get _ _ hvs;simp only[Cj] at hr;intro _;rw[fin V hV,hr]
    .cases h
def Ck7 {t:TypeId} {x y:Operand} {p v:SV} {ε:Eff} (ho:o.op= .store t x y) (h:Rel w0 Oe J σ a.tmps w β hv O) (hG:GOk J G) (hx:opd P σ G 0 x=some p) (hy:opd P σ G t y=some v) (hs:fc P σ t p v=some (ws,ε)) (hk:Chk J ws):
  Ed P o a w (G1 w0 Oe J σ a.tmps ε .und):=by
 have e:a.eval=(Act.mk a.tmps a.defers).eval:=rfl;have hr:=Fw (ds:=a.defers) (C:=⟨J,Cr w O,β,hv,σ.m⟩) hG rfl hx h.tmps;have hrv:=Fw (ds:=a.defers) (C:=⟨J,Cr w O,β,hv,σ.m⟩) hG rfl hy h.tmps;rw[<-e] at hr hrv;unfold fc at hs;split at hs
 .cases hs
 .rename_i ws1 vs hc;split at hs
  .rename_i s off;split at hs
   .rename_i cs hb;split at hs
    .rename_i hle0;obtain⟨hle,hnsl⟩:=hle0;simp only[Bm,B3] at hs;obtain⟨rfl,rfl⟩:=hs;obtain⟨c1,c2,c3,c4⟩:=Jj (C:=⟨J,Cr w O,β,hv,σ.m⟩) rfl hc hk h.oneH hrv;obtain⟨g1,g2,us,T,g3,g4,g5,g6⟩:=h.mem s _ hb;simp only[Cj] at hr;have hlen:=g5.length;have hlen':=c4.length;by_cases h0:B8 P t=0
     ·-- nothing is stored
      have hvs:vs=[]:=Cp (by omega);have hvc:(a.eval y).cells= #[]:=Array.eq_empty_of_size_eq_zero (by omega);have hti:∃i,P.info? t=some i:=by
       cases hi:P.info? t with
       |some i=>exact⟨i,rfl⟩
       |none=>
        exfalso;unfold cellsOf at hc;have hu:P.underlying t=none:=by simp[Program.underlying,hi]
        simp[Kk,hu,h0] at hc
      obtain⟨i,hi⟩:=hti;have hs0:i.size=0:=by simpa [B8,hi] using h0
      refine .inr (.inl ⟨w,by simp[execOp,ho,Instr.storeAt,Instr.sureAddr,hr,storeVar,sizeOf,typeInfo,hi,hs0,hvc,storeCells],β,hv,O,?_,by simp only[Cj]⟩);subst hvs;exact h.put hb trivial (g2 rfl) h.bel rfl (fun _ _=>rfl) (fun e sz x ro xs hh=>by cases hh) ⟨g1,g2,us,T,g3,g4,(by
       refine Cb.le (C:=⟨J,Cr w O,β,hv,σ.m⟩) (C':=⟨J,Cr w O,β,hv,It σ.m s (.box (F9 cs off []) false)⟩) ⟨fun _ _ h=>h,Vw.Le.refl _⟩ (fun s'=>⟨rfl,rfl,fun e sz x ro xs h1 h2=> ?_⟩) _ _ g5;by_cases hss:s'=s
       .subst hss;have h1':mget σ.m s'=some (.arr e sz x ro):=h1;rw[hb] at h1';cases h1'
       .exact⟨e,x,ro,xs,by show mget (It σ.m s _) s'=_;rw[show mget (It σ.m s (.box (F9 cs off []) false)) s'=mget σ.m s' from Iv σ hss _];exact h1,h2,B7 _⟩),g6⟩
     .have hsz':us.size=us.toList.length:=by simp
      refine .inr (.inl ⟨_,Zz (v:=a.eval y) ho hr rfl g3 c1 h0 c3 (by omega),β,hv,O,?_,by simp only[Cj]⟩);refine h.put hb trivial (g2 rfl) (Lv h.bel g1 _) (by simp) (fun c hc=>setRow_other w (β s) c _ hc) (fun e sz x ro xs hh=>by cases hh) ⟨g1,g2,_,T,setRow_heap w (β s) us _ T (0,0) g3,?_,?_,fun s' T' hh=>g6 s' T' (Ac7 _ _ _ hnsl hh)⟩
      .intro u hu;simp only[Dp] at hu;rcases hu with(hu|hu)|hu
       .exact g4 u (Er hu)
       .exact c3 u hu
       .exact g4 u (F6 hu)
      .have hset:=Cb.setCells (off:=off) g5 c4 hle;have hM:(Cr w O).Le (Cr (w.setRow (β s) (us.toList.take off++(a.eval y).cells.toList++us.toList.drop (off+(a.eval y).cells.size)).toArray) O):=
        Hc (fun c _ hc=>setRow_other w (β s) c _ (fun e=>by subst e;exact absurd (hc 0 (g2 rfl)) (by omega))) (fun c _ lim hl=>⟨lim,hl,B7 _⟩) (fun c _ hn=>hn)
       rw[C3] at hset;refine Cb.le (C:=⟨J,Cr w O,β,hv,σ.m⟩) (C':=⟨J,_,β,hv,It σ.m s (.box (F9 cs off vs) false)⟩) ⟨fun _ _ h=>h,hM⟩ (fun s'=>⟨rfl,rfl,fun e sz x ro xs h1 h2=> ?_⟩) _ _ hset;by_cases hss:s'=s
       .subst hss;have h1':mget σ.m s'=some (.arr e sz x ro):=h1;rw[hb] at h1';cases h1'
       .exact⟨e,x,ro,xs,by show mget (It σ.m s _) s'=_;rw[show mget (It σ.m s (.box (F9 cs off vs) false)) s'=mget σ.m s' from Iv σ hss _];exact h1,h2,B7 _⟩
    .cases hs
   .cases hs
  .rename_i s i off;split at hs
   .rename_i ee sz xx lk es ss hb hts;split at hs
    .cases hs
    .rename_i hns;have hrl:∃lk',ε=⟨It (Ks ss σ.m) s (.arr ee sz (.set sz xx i off es) ⟨false,lk'⟩),σ.n,none⟩∧W.chk (.set sz xx i off es)∈ws∧(∀x,x∈ws1->x∈ws)∧
       (lk'=none∨R7 lk off vs=some (false,lk')∨R7 lk off vs=some (true,lk')∧W.chk (gr xx i)∈ws):=by
      split at hs<;>
      .rename_i hrl;simp only[Bm,B3] at hs;obtain⟨rfl,rfl⟩:=hs;exact⟨_,rfl,by simp,fun x hx=>Fq _ hx,by simp[hrl]⟩
     obtain⟨lk',rfl,hset,hsub,hlk'⟩:=hrl;have hns':ss.contains s=false:=by simpa using hns
     obtain⟨c1,c2,c3,c4⟩:=Jj (C:=⟨J,Cr w O,β,hv,σ.m⟩) rfl hc (fun x hx=>hk x (hsub _ hx)) h.oneH hrv;obtain⟨q,hq⟩:=hk _ hset;obtain⟨O',hfr,hM,hop,hon⟩:=h.frz ss (n:=σ.n);obtain⟨ps,k1,k2,k3⟩:=O3 h hM hts c4 (fun q hq=>hop q (by simpa using hq));have hb':mget (Ks ss σ.m) s=some (.arr ee sz xx ⟨false,lk⟩):=by rw[N2 hns'];exact hb
     obtain⟨h0,xs,us,g1,g2,g3,g4,g5⟩:=hfr.mem s _ hb';have g1':xx.ev J=some (.l sz xs):=g1;simp only[Cj] at hr;obtain⟨_,ee',sz',xx',ro',xs',kk,iv,r1,r2,r3,r4,r5,had⟩:=hr;have r1':mget σ.m s=some (.arr ee' sz' xx' ro'):=r1;rw[hb] at r1';injection r1' with r1';injection r1' with q1 q2 q3 q4;subst q1;subst q2;subst q3;subst q4;have r2':xx.ev J=some (.l sz xs'):=r2;rw[g1'] at r2';injection r2' with r2';injection r2' with _ r2';subst r2';have r3':i.ev J=some (.i kk iv):=r3;have hpl:ps.length=vs.length:=by rw[k2];exact(c4.length).symm
     have hq':=hq;simp only[E.ev,g1',r3',k1,Bs,T2,true_and,if_pos r4] at hq';have hxi:xs[iv.toNat]? =some (xs[iv.toNat]'r5):=B4 r5;rw[hxi] at hq';simp only[Bs,Bp] at hq';obtain⟨y',hy',rfl⟩:=hq';obtain⟨m1,m2⟩:=g3 _ _ hxi;have hel:y'.cells.length=sz∧off+ps.length<=sz∧∀(j:Nat) (c:PV),y'.cells[j]? =some c->(off<=j∧j<off+ps.length∧ps[j - off]? =some c)∨((j<off∨off+ps.length<=j)∧(xs[iv.toNat]'r5).cells[j]? =some c):=by
      generalize xs[iv.toNat]'r5=x0 at hy' m1 m2;have sc:∀(cs:List PV) (off:Nat) (l:List PV),off+l.length<=cs.length->(setCells cs off l).length=cs.length∧∀(j:Nat) (c:PV),(setCells cs off l)[j]? =some c->(off<=j∧j<off+l.length∧l[j - off]? =some c)∨((j<off∨off+l.length<=j)∧cs[j]? =some c):=by
       intro cs off l
       induction l generalizing cs off with
       |nil=>intro _;exact⟨rfl,fun j c hc=> .inr ⟨by simp;omega,hc⟩⟩
       |cons d l ih=>
        intro hl;simp only[setCells];obtain⟨i1,i2⟩:=ih (cs.set off d) (off+1) (by simp at hl ⊢;omega);refine⟨by simpa using i1,fun j c hc=> ?_⟩;rcases i2 j c hc with⟨a1,a2,a3⟩|⟨a1,a2⟩
        .refine .inl ⟨by omega,by simp;omega,?_⟩;have:j - off=(j - (off+1))+1:=by omega
         rw[this,Ec];exact a3
        .rw[Ev] at a2;split at a2
         .rename_i hj;split at a2
          .injection a2 with a2;subst a2;refine .inl ⟨by omega,by simp;omega,?_⟩;have:j - off=0:=by omega
           rw[this];rfl
          .cases a2
         .rename_i hj;refine .inr ⟨?_,a2⟩;simp only[Cz];omega
      unfold Rp at hy';split at hy'
      .rename_i cs0;split at hy'
       .rename_i hle;injection hy' with hy';subst hy';obtain⟨s1,s2⟩:=sc cs0 off ps hle;exact⟨by show (setCells cs0 off ps).length=_;rw[s1];exact m1,by have:cs0.length=sz:=m1;omega,s2⟩
       .cases hy'
      .rename_i p0 _;split at hy'
       .rename_i hsc;split at hy'
        .rename_i v0;split at hy'
         .rename_i hv0;injection hy' with hy';subst hy';rw[PV.scal_cells hsc] at m1;rw[PV.scal_cells hv0];refine⟨m1,by have h1:(1:Nat)=sz:=m1;simp;omega,fun j c hc=> .inl ?_⟩;cases j with
          |zero=>simp at hc;subst hc;exact⟨B7 _,by simp,rfl⟩
          |succ j=>simp at hc
         .cases hy'
        .cases hy'
       .cases hy'
     obtain⟨e1,e2,e3⟩:=hel;obtain⟨g,cap,cur,b1,b1c,b2,b3,b4,b5,b6,b7⟩:∃g cap cur,hv s= .slice (some ⟨g,0,none⟩) xs.length cap∧0<cap∧w0.ok g∧w.heap[g]? =some (.cells cur ee (0,0))∧xs.length<=cap∧cap<=maxLen∧cur.size=cap*sz∧cur.toList.take (xs.length*sz)=us:=by
      rcases g2.2 with⟨_,_,hn⟩|hh
      .omega
      .exact hh
     have hown:C8 (hv s)=some g:=by rw[b1];simp only[C8,if_neg (show¬cap=0 by omega)]
     obtain⟨hg,lim,l1,l2,l3⟩:=g4 g hown;have hlast:W.chk (gr xx i)∈ws->iv.toNat=xs.length - 1:=fun hw=>Xw g1' r3' r4 r5 (En b4 b5) (hk _ hw);have hg':g=β s:=hg;subst hg';have hlim:O' (β s)=some 0:=by rw[l1,l3 rfl]
     have hpos:iv.toNat*sz+off+ps.length<=xs.length*sz:=by have:(iv.toNat+1)*sz<=xs.length*sz:=Cn _ (by omega);rw[C9,Gh] at this;omega
     have hcap:xs.length*sz<=cap*sz:=Cn _ b4;have hvcs:(a.eval y).cells.size=ps.length:=by rw[k2];simp
     have ht0:B8 P t=0->ps=[]:=fun h=>Cp (by omega);let row:List Value:=cur.toList.take (iv.toNat*sz+off)++(a.eval y).cells.toList++cur.toList.drop (iv.toNat*sz+off+(a.eval y).cells.size);have hrow:row.length=cur.size:=by simp only[row,Br,Cv,C1,C3];omega
     have hget:∀j,row[j]? =if j<iv.toNat*sz+off then cur[j]? else if j<iv.toNat*sz+off+ps.length then(a.eval y).cells[j - (iv.toNat*sz+off)]? else cur[j]? :=by
      intro j;simp only[row];have t1:(cur.toList.take (iv.toNat*sz+off)).length=iv.toNat*sz+off:=by simp;omega
      by_cases hj:j<iv.toNat*sz+off
      .rw[if_pos hj,Ck,Cd (by rw[t1];exact hj),Ch,if_pos hj,B6]
      .rw[if_neg hj];by_cases hj2:j<iv.toNat*sz+off+ps.length
       .rw[if_pos hj2,Ck,Cw (by rw[t1];omega),t1,Cd (by simp;omega),B6]
       .rw[if_neg hj2,Cw (by simp only[Br,t1,C3];omega)];simp only[Br,t1,C3,Cl,B6];congr 1;omega
     have fin:∀w',(execOp a.eval o).run P w= .ok .skip w'->w'.heap.size=w.heap.size->(∀c,c≠β s->w'.heap[c]? =w.heap[c]?)->w'.heap[β s]? =some (.cells row.toArray ee (0,0))->Bel w0 w'->Ed P o a w (G1 w0 Oe J σ a.tmps ⟨It (Ks ss σ.m) s (.arr ee sz (.set sz xx i off es) ⟨false,lk'⟩),σ.n,none⟩ .und):=by
      intro w' hrun hws hwo hwb hbel;refine .inr (.inl ⟨w',hrun,β,hv,O',?_,by simp only[Cj]⟩);have hput:=hfr.put (w':=w') (s:=s) (b0:= .arr ee sz xx ⟨false,lk⟩) (b:= .arr ee sz (.set sz xx i off es) ⟨false,lk'⟩) (n:=σ.n) hb' hown hlim hbel hws hwo
       (fun e2 sz2 x2 ro2 xs2 hh hxx=>by cases hh;rw[g1'] at hxx;injection hxx with hxx;injection hxx with _ hxx;subst hxx;exact⟨ee,_,⟨false,lk'⟩,xs.set iv.toNat y',rfl,hq,by simp⟩) ?_
      .exact hput
      .have hM':(Cr w O').Le (Cr w' O'):=Hc (fun c _ hc=>hwo c (fun e=>by subst e;exact absurd (hc 0 hlim) (by omega))) (fun c _ lim hl=>⟨lim,hl,B7 _⟩) (fun c _ hn=>hn);refine⟨h0,xs.set iv.toNat y',row.take (xs.length*sz),hq,?_,?_,fun g' hg'=> ?_,?_⟩
       .have b1':hv s= .slice (some ⟨β s,0,none⟩) xs.length cap:=b1;show Own w' w0.ok ee sz (hv s) (xs.set iv.toNat y').length _;rw[H9,b1'];refine⟨by rw[Cv,hrow];omega,.inr ⟨β s,cap,row.toArray,rfl,b1c,b2,hwb,b4,b5,by simp[hrow,b6],by simp⟩⟩
       .intro j z hz;rw[Ev] at hz;split at hz
        .rename_i hj;injection hz with hz;subst hz;refine⟨e1,fun k c hc=> ?_⟩;have hk':k<sz:=by rw[<-e1];exact(Bn.1 hc).1
         have hlt:j*sz+k<xs.length*sz:=by have:(j+1)*sz<=xs.length*sz:=Cn _ (by omega);rw[C9,Gh] at this;omega
         rw[Ch,if_pos hlt,hget];subst hj;rcases e3 k c hc with⟨a1,a2,a3⟩|⟨a1,a2⟩
         .rw[if_neg (by omega),if_pos (by omega)];have hk2:iv.toNat*sz+k - (iv.toNat*sz+off)=k - off:=by omega
          rw[hk2];have hkl:k - off<(a.eval y).cells.toList.length:=by rw[<-k2];exact(Bn.1 a3).1
          refine⟨(a.eval y).cells.toList[k - off],by rw[<-B6];exact B4 hkl,c3 _ (Hj hkl),?_⟩;exact(k3 _ _ _ a3 (B4 hkl)).mono hM'
         .obtain⟨u,u1,u2,u3⟩:=m2 k c a2;refine⟨u,?_,u2,u3.mono hM'⟩;rw[<-b7,Ch,if_pos hlt,B6] at u1;rcases a1 with a1|a1
          .rw[if_pos (by omega)];exact u1
          .rw[if_neg (by omega),if_neg (by omega)];exact u1
        .rename_i hj;obtain⟨n1,n2⟩:=g3 j z hz;refine⟨n1,fun k c hc=> ?_⟩;obtain⟨u,u1,u2,u3⟩:=n2 k c hc;refine⟨u,?_,u2,u3.mono hM'⟩;have hk':k<sz:=by rw[<-n1];exact(Bn.1 hc).1
         rw[<-b7,Ch] at u1;split at u1
         .rename_i hlt;rw[Ch,if_pos hlt,hget];rw[B6] at u1;rcases Nat.lt_or_ge j iv.toNat with hji|hji
          .have:(j+1)*sz<=iv.toNat*sz:=Cn _ (by omega);rw[C9,Gh] at this;rw[if_pos (by omega)];exact u1
          .have:(iv.toNat+1)*sz<=j*sz:=Cn _ (by omega);rw[C9,Gh] at this;rw[if_neg (by omega),if_neg (by omega)];exact u1
         .cases u1
       .have:g'=β s:=by have hg'':C8 (hv s)=some g':=hg';rw[hown] at hg'';injection hg'' with hg'';exact hg''.symm
        subst this;exact⟨rfl,0,hlim,D9 _,fun _=>rfl⟩
       .show G7 _ sz (xs.set iv.toNat y').length _ lk';rw[H9];refine Af5 (us:=us) hlk' g5 (fun hw=>hlast hw) r5 c4 (by rw[<-hpl];exact e2) (fun p V hlt hp hV=> ?_) (fun k u hkl hu=> ?_) g2.1 rfl
        .rw[Ch,if_pos hlt,hget];rw[<-b7,Ch,if_pos hlt,B6] at hV;rw[<-hpl] at hp;rcases hp with hp|hp
         .rw[if_pos hp];exact hV
         .rw[if_neg (by omega),if_neg (by omega)];exact hV
        .rw[Ch,if_pos (by omega),hget,if_neg (by omega),if_pos (by omega)];rw[show iv.toNat*sz+off+k - (iv.toNat*sz+off)=k by omega];simpa using hu
     by_cases h00:B8 P t=0
     .have hps:=ht0 h00;subst hps;have hvc:(a.eval y).cells= #[]:=Array.eq_empty_of_size_eq_zero (by rw[hvcs];rfl);have hti:∃i,P.info? t=some i:=by
       cases hi:P.info? t with
       |some i=>exact⟨i,rfl⟩
       |none=>
        exfalso;unfold cellsOf at hc;have hu:P.underlying t=none:=by simp[Program.underlying,hi]
        simp[Kk,hu,h00] at hc
      obtain⟨ti,hti⟩:=hti;have hs0:ti.size=0:=by simpa [B8,hti] using h00
      refine fin w (by simp[execOp,ho,Instr.storeAt,Instr.sureAddr,had,storeVar,sizeOf,typeInfo,hti,hs0,hvc,storeCells]) rfl (fun _ _=>rfl) ?_ h.bel;have:row=cur.toList:=by simp[row,hvc]
      rw[this];simpa using b3
     .refine fin _ (Zz (v:=a.eval y) ho had rfl b3 c1 h00 c3 (by omega)) (by simp) (fun c hc=>setRow_other w (β s) c _ hc) (setRow_heap w (β s) cur _ ee (0,0) b3) (Lv h.bel b2 _)
   .cases hs
  .cases hs
end
section
variable {P:Program} {w0:Fr} {Oe:Nat->Option Nat} {J:List PV} {σ:St} {a:Act} {w:World} {β:Nat->Nat} {hv:Nat->Value} {O:Nat->Option Nat} {G:Option E} {o:Oper} {ws:List W}
def Zs {t:TypeId} {x i:Operand} {ex ei:E} (ho:o.op= .index t x i) (ht:P.underlying t=some .string) (h:Rel w0 Oe J σ a.tmps w β hv O) (hG:GOk J G) (hx:Gx P σ G 0 x=some ex) (hi:Gx P σ G 0 i=some ei)
  (hk:Chk J [Gp G (.sidx ex ei)]):Ed P o a w (G1 w0 Oe J σ a.tmps (Gm σ) (.e (.sidx ex ei))):=by
 obtain⟨r,hr⟩:=hk.g1 hG;obtain⟨p,hp,hpr⟩:=Ey (ds:=a.defers) (C:=⟨J,Cr w O,β,hv,σ.m⟩) hG rfl hx h.tmps;obtain⟨q,hq,hqr⟩:=Ey (ds:=a.defers) (C:=⟨J,Cr w O,β,hv,σ.m⟩) hG rfl hi h.tmps;have hr':=hr;simp only[E.ev,hp,hq,Bs] at hr';unfold Rl at hr';split at hr'
 .rename_i s k n;split at hr'
  .rename_i hn;obtain⟨c,hc,rfl⟩:=Bp.1 hr';obtain⟨y,hy,hyd⟩:=hpr.str;have h1:a.eval x= .string y:=hy;have h2:a.eval i= .int k n:=hqr.int;have hlt:n.toNat<y.data.toList.length:=by rw[hyd];exact(Bn.1 hc).1
   have hlt':n.toNat<y.size:=by rw[C3] at hlt;exact hlt
   have hyc:y[n.toNat]'hlt'=c:=by
    have:y.data.toList[n.toNat]? =some c:=by rw[hyd];exact hc
    rw[B4 hlt] at this;injection this with this
   refine Ed.value (v:= .int .u8 c.toNat) (w':=w) ?_ (.keep h ?_)
   .have hnl:n<(y.size:Int):=by omega
    have hi':(if 0<=n then y[n.toNat]? else none)=some c:=by rw[if_pos hn,getElem?_pos y n.toNat hlt',hyc]
    simp only[execOp,ho,Instr.index,h1,h2,asIntOf,Sem.run_bind,Sem.run_pure,run_underlying ht,Result.andThen,hi']
   .simp only[Cj];exact⟨_,hr,.i _ _⟩
  .cases hr'
 .cases hr'
def Z0 {t e:TypeId} {x i:Operand} {sv:SV} {y ei:E} (ho:o.op= .indexAddr t x i) (ht:P.underlying t=some (.slice e)) (hz:B8 P e≠0) (h:Rel w0 Oe J σ a.tmps w β hv O) (hG:GOk J G) (hx:opd P σ G 0 x=some sv) (hy:sv.asE=some y)
  (hi:Gx P σ G 0 i=some ei) (hk:Chk J [Gp G (.idx (B8 P e) y ei)]):Ed P o a w (G1 w0 Oe J σ a.tmps (Gm σ) (.ip (.idx (B8 P e) y ei) 0)):=by
 obtain⟨r,hr⟩:=hk.g1 hG;obtain⟨p,hp,hpr⟩:=SV.asE_ok hy (Fw (ds:=a.defers) (C:=⟨J,Cr w O,β,hv,σ.m⟩) hG rfl hx h.tmps);obtain⟨q,hq,hqr⟩:=Ey (ds:=a.defers) (C:=⟨J,Cr w O,β,hv,σ.m⟩) hG rfl hi h.tmps;have hp':y.ev J=some p:=hp;have hr':=hr;simp only[E.ev,hp',hq,Bs] at hr';unfold Kf at hr';split at hr'
 .rename_i sz xs k n;split at hr'
  .rename_i hsz;subst hsz;split at hr'
   .rename_i hn;have h2:a.eval i= .int k n:=hqr.int;have hlt:=(Bn.1 hr').1;generalize hv1:a.eval x=v1;have hpr':Rep (Cr w O) (.l (B8 P e) xs) v1:=by rw[<-hv1];exact hpr
    cases hpr' with
    |l _ _ base cap ad el hc hb hs hM h1 hh=>
     have hbase:base=some ad:=hb (fun e=>by subst e;simp at hlt);subst hbase;have hnl:n<(xs.length:Int):=by omega
     refine Ed.value (v:= .pointer (some (ad.add (n.toNat*B8 P e)))) (w':=w) ?_ (.keep h ?_)
     .simp[execOp,ho,Instr.indexAt,hv1,h2,asIntOf,run_underlying ht,hn,hnl,Fg (P:=P) (w:=w) rfl hz]
     .simp only[Cj,Gt];refine⟨r,hr,_,fun j=>el n.toNat j,rfl,fun j c hc=> ?_,fun j c hc=>h1 _ _ _ _ hr' hc,fun j c hc=>hh _ _ _ _ hr' hc⟩;rw[Addr.add_add];exact hM _ _ _ _ hr' hc
   .cases hr'
  .cases hr'
 .cases hr'
def W4 {t e e':TypeId} {x i:Operand} {s sz:Nat} {y ei:E} {ro:Ro} (ho:o.op= .indexAddr t x i) (ht:P.underlying t=some (.slice e)) (hsz:sz=B8 P e) (hnap:s<NAP) (h:Rel w0 Oe J σ a.tmps w β hv O) (hG:GOk J G) (hx:opd P σ G 0 x=some (.h s)) (hb:mget σ.m s=some (.arr e' sz y ro))
  (hi:Gx P σ G 0 i=some ei) (hk:Chk J [Gp G (.idx sz y ei)]):Ed P o a w (G1 w0 Oe J σ a.tmps (Gm σ) (.ap s ei 0)):=by
 obtain⟨r,hr⟩:=hk.g1 hG;have hrx:=Fw (ds:=a.defers) (C:=⟨J,Cr w O,β,hv,σ.m⟩) hG rfl hx h.tmps;simp only[Cj] at hrx;have hx1:a.eval x=hv s:=hrx;obtain⟨q,hq,hqr⟩:=Ey (ds:=a.defers) (C:=⟨J,Cr w O,β,hv,σ.m⟩) hG rfl hi h.tmps;obtain⟨h0,xs,vs,g1,g2,g3,g4,_⟩:=h.mem s _ hb;have g1':y.ev J=some (.l sz xs):=g1;have hr':=hr;simp only[E.ev,g1',hq,Bs] at hr';unfold Kf at hr';split at hr'
 .rename_i sz' xs' k n heq;injection heq with heq1 heq2;subst heq1;subst heq2;rw[if_pos rfl] at hr';split at hr'
  .rename_i hn;have h2:a.eval i= .int k n:=hqr.int;have hlt:=(Bn.1 hr').1;have hnl:n<(xs.length:Int):=by omega
   rcases g2.2 with⟨_,_,hn0⟩|⟨g,cap,cur,e1,e1c,_⟩
   .omega
   .have e1':hv s= .slice (some ⟨g,0,none⟩) xs.length cap:=e1;have hg:=(g4 g (by show C8 (hv s)=_;rw[e1'];simp only[C8,if_neg (show¬cap=0 by omega)])).1;have hg':g=β s:=hg;subst hg';refine Ed.value (v:= .pointer (some ⟨β s,n.toNat*sz,none⟩)) (w':=w) ?_ (.keep h ?_)
    .have hz:B8 P e≠0:=by omega
     simp[execOp,ho,Instr.indexAt,hx1,e1',h2,asIntOf,run_underlying ht,hn,hnl,Fg (P:=P) (w:=w) hsz.symm (by omega),add_lit]
    .simp only[Cj];exact⟨hnap,e',sz,y,ro,xs,k,n,hb,g1',hq,hn,by omega,by simp⟩
  .cases hr'
 .cases hr'
def W3 {t e e':TypeId} {x i:Operand} {s sz:Nat} {y i0 ei:E} {ro:Ro} (ho:o.op= .indexAddr t x i) (ht:P.underlying t=some (.slice e)) (hsz:sz=B8 P e) (h:Rel w0 Oe J σ a.tmps w β hv O) (hG:GOk J G) (hx:opd P σ G 0 x=some (.suf s i0)) (hb:mget σ.m s=some (.arr e' sz y ro))
  (hi:Gx P σ G 0 i=some ei) (hk:Chk J [Gp G (.idx sz (.lsl sz y i0 (.len y)) ei),Gp G (.bin .add i0 ei),Gp G (.bin .add i0 (.c (.i .i64 0)))]):Ed P o a w (G1 w0 Oe J σ a.tmps (Gm σ) (.ap s (.bin .add i0 ei) 0)):=by
 obtain⟨r,hr⟩:=Chk.g1 (x:= .idx sz (.lsl sz y i0 (.len y)) ei) (fun z hz=>hk z (by simp at hz ⊢;exact .inl hz)) hG;obtain⟨q2,hq2⟩:=Chk.g1 (x:= .bin .add i0 ei) (fun z hz=>hk z (by simp at hz ⊢;exact .inr (.inl hz))) hG;obtain⟨q3,hq3⟩:=Chk.g1 (x:= .bin .add i0 (.c (.i .i64 0))) (fun z hz=>hk z (by simp at hz ⊢;exact .inr (.inr hz))) hG;have hrx:=Fw (ds:=a.defers) (C:=⟨J,Cr w O,β,hv,σ.m⟩) hG rfl hx h.tmps;simp only[Cj] at hrx;obtain⟨hnap,e2,sz2,x2,ro2,xs,k,iv,h1,h2,h3,h4,h5,h6⟩:=hrx;rw[hb] at h1;injection h1 with h1;injection h1 with _ j1 j2 _;subst j1;subst j2;have h6':a.eval x=yr sz iv.toNat (hv s):=h6;obtain⟨q,hq,hqr⟩:=Ey (ds:=a.defers) (C:=⟨J,Cr w O,β,hv,σ.m⟩) hG rfl hi h.tmps;obtain⟨h0,xs',vs,g1,g2,g3,g4,_⟩:=h.mem s _ hb;have g1':y.ev J=some (.l sz xs'):=g1;have h2':=h2;rw[g1'] at h2';injection h2' with h2';injection h2' with _ h2';subst h2';have hlen:(E.len y).ev J=some (.i .i64 (xs'.length:Int)):=by simp only[E.ev,g1',Bs,Hg]
 have hr':=hr;have h3':i0.ev J=some (.i k iv):=h3;simp only[E.ev,g1',h3',hq,Bs,Hg,J3,if_true] at hr';rw[if_pos ⟨h4,by omega,Ud _⟩] at hr';simp only[Bs] at hr';unfold Kf at hr';split at hr'
 .rename_i sz' zs k2 n heq;injection heq with heq1 heq2;subst heq1;subst heq2;rw[if_pos rfl] at hr';split at hr'
  .rename_i hn;have hlt:=(Bn.1 hr').1;simp only[C1,Cv,Es] at hlt;have hi2:a.eval i= .int k2 n:=hqr.int;rcases g2.2 with⟨_,_,hn0⟩|⟨g,cap,cur,e1,e1c,_,_,e5,e6,_⟩
   .omega
   .have e1':hv s= .slice (some ⟨g,0,none⟩) xs'.length cap:=e1;have hg:=(g4 g (by show C8 (hv s)=_;rw[e1'];simp only[C8,if_neg (show¬cap=0 by omega)])).1;have hg':g=β s:=hg;subst hg';rw[e1'] at h6';simp only[yr] at h6';rw[if_neg (by omega)] at h6';simp only[Cc] at h6';have hnl:n<((xs'.length - iv.toNat:Nat):Int):=by omega
    have hq2':=hq2;simp only[E.ev,h3',hq,Bs,X.bin] at hq2';split at hq2'
    .rename_i hkk;subst hkk;simp only[Gc,Bm] at hq2';have hk64:k= .i64:=by
      simp only[E.ev,h3',Bs,X.bin] at hq3;split at hq3
      .assumption
      .cases hq3
     subst hk64;have hmx:xs'.length<=maxLen:=En e5 e6;have hw:IntKind.i64.wrap (iv+n)=iv+n:=IntWalk.i64_in _ ⟨by omega,by simp only[maxLen] at hmx;omega⟩;rw[hw] at hq2';refine Ed.value (v:= .pointer (some ⟨β s,(iv+n).toNat*sz,none⟩)) (w':=w) ?_ (.keep h ?_)
     .have hz:B8 P e≠0:=by omega
      have ha:((⟨β s,0,none⟩:Addr).add (iv.toNat*sz)).add (n.toNat*sz)=⟨β s,(iv+n).toNat*sz,none⟩:=by
       have ht2:(iv+n).toNat=iv.toNat+n.toNat:=by omega
       rw[Addr.add_add,add_lit,ht2,C9,Fl]
      have ha':((⟨β s,0,none⟩:Addr).add (iv.toNat*B8 P e)).add (n.toNat*B8 P e)=⟨β s,(iv+n).toNat*sz,none⟩:=by rw[<-hsz];exact ha
      simp[execOp,ho,Instr.indexAt,h6',hi2,asIntOf,run_underlying ht,hn,hnl,Fg (P:=P) (w:=w) hsz.symm (by omega),hsz,ha']
     .simp only[Cj];exact⟨hnap,e',sz,y,ro,xs',.i64,iv+n,hb,g1',by simp only[E.ev,h3',hq,Bs,X.bin,if_true,Gc,hw],by omega,by omega,by simp⟩
    .cases hq2'
  .cases hr'
 .cases hr'
def Cm6 {c:Call} {x:Operand} {t:TypeId} {sv r:SV} (ho:o.op= .call c) (hc:c.callee= .builtin .cap) (ha:c.args.toList=[x]) (ht1:c.argTypes[0]? =some t) (h:Rel w0 Oe J σ a.tmps w β hv O) (hG:GOk J G) (hx:opd P σ G t x=some sv) (hsv:(∃n,sv= .nil n)∨∃n y,sv= .lit n y) (hl:gn P σ G t sv=some (ws,r)) (hk:Chk J ws):
  Ed P o a w (G1 w0 Oe J σ a.tmps (Gm σ) r):=by
 have hr:=Fw (ds:=a.defers) (C:=⟨J,Cr w O,β,hv,σ.m⟩) hG rfl hx h.tmps;have hargs:c.args= #[x]:=by rw[<-Dn (xs:=c.args),ha]
 have slice:∀(b:Option Addr) (n cap:Nat) (e:TypeId),P.underlying t=some (.slice e)->a.eval x= .slice b n cap->(execOp a.eval o).run P w= .ok (.value (.int .i64 cap)) w:=by intro b n cap e hu hv1;simp[execOp,ho,resolve,hc,hargs,invoke,builtin,Builtin.cap_,ht1,run_underlying hu,hv1,goInt]
 unfold gn at hl;split at hl
 .rename_i e hu;rcases hsv with⟨n,rfl⟩|⟨n,y,rfl⟩
  .simp only[Bm,B3] at hl;obtain⟨rfl,rfl⟩:=hl;simp only[Cj] at hr;refine Ed.value (slice _ _ _ e hu hr) (.keep h ?_);simp only[Cj,E.ev];exact⟨_,rfl,.i _ _⟩
  .simp only[SV.asE,Cc,Bm,B3] at hl;obtain⟨rfl,rfl⟩:=hl;simp only[Cj] at hr;obtain⟨xs,b,hy,hv1,hrep⟩:=hr;have hy':y.ev J=some (.l n xs):=hy;refine Ed.value (slice _ _ _ e hu hv1) (.keep h ?_);simp only[Cj,E.ev,hy',Bs,Hg];exact⟨_,rfl,.i _ _⟩
 .rcases hsv with⟨n,rfl⟩|⟨n,y,rfl⟩<;>simp at hl
 .cases hl
def Fw6 {c:Call} {x:Operand} {t:TypeId} {sv r:SV} (ho:o.op= .call c) (hc:c.callee= .builtin .len) (ha:c.args.toList=[x]) (ht1:c.argTypes[0]? =some t) (h:Rel w0 Oe J σ a.tmps w β hv O) (hG:GOk J G) (hx:opd P σ G t x=some sv) (hl:gn P σ G t sv=some (ws,r)) (hk:Chk J ws):
  Ed P o a w (G1 w0 Oe J σ a.tmps (Gm σ) r):=by
 have hr:=Fw (ds:=a.defers) (C:=⟨J,Cr w O,β,hv,σ.m⟩) hG rfl hx h.tmps;have hargs:c.args= #[x]:=by rw[<-Dn (xs:=c.args),ha]
 have slice:∀(b:Option Addr) (n cap:Nat) (e:TypeId),P.underlying t=some (.slice e)->a.eval x= .slice b n cap->(execOp a.eval o).run P w= .ok (.value (.int .i64 n)) w:=by intro b n cap e hu hv1;simp[execOp,ho,resolve,hc,hargs,invoke,builtin,Builtin.len_,ht1,run_underlying hu,hv1,goInt]
 have str:∀(s:ByteArray),P.underlying t=some .string->a.eval x= .string s->(execOp a.eval o).run P w= .ok (.value (.int .i64 s.size)) w:=by intro s hu hv1;simp[execOp,ho,resolve,hc,hargs,invoke,builtin,Builtin.len_,ht1,run_underlying hu,hv1,goInt]
 unfold gn at hl;split at hl
 .rename_i e hu;split at hl
  .simp only[Bm,B3] at hl;obtain⟨rfl,rfl⟩:=hl;simp only[Cj] at hr;refine Ed.value (slice _ _ _ e hu hr) (.keep h ?_);simp only[Cj,E.ev];exact⟨_,rfl,.i _ _⟩
  .rename_i s;split at hl
   .rename_i e' sz y ro hb;simp only[Bm,B3] at hl;obtain⟨rfl,rfl⟩:=hl;simp only[Cj] at hr;obtain⟨h0,xs,vs,g1,g2,g3,g4,_⟩:=h.mem s _ hb;have g1':y.ev J=some (.l sz xs):=g1;have hr1:a.eval x=hv s:=hr;have:∃b cap,hv s= .slice b xs.length cap:=by
     rcases g2.2 with⟨b,e1,e2⟩|⟨g,cap,cur,e1,_⟩
     .exact⟨b,0,by rw[e2];exact e1⟩
     .exact⟨_,cap,e1⟩
    obtain⟨b,cap,hbc⟩:=this;refine Ed.value (slice _ _ _ e hu (hr1.trans hbc)) (.keep h ?_);simp only[Cj,E.ev,g1',Bs,Hg];exact⟨_,rfl,.i _ _⟩
   .cases hl
  .rename_i s i;split at hl
   .rename_i e' sz y ro hb;simp only[Bm,B3] at hl;obtain⟨rfl,rfl⟩:=hl;simp only[Cj] at hr;obtain⟨_,e2,sz2,x2,ro2,xs,k,iv,h1,h2,h3,h4,h5,h6⟩:=hr;rw[hb] at h1;injection h1 with h1;injection h1 with _ j1 j2 _;subst j1;subst j2;obtain⟨h0,xs',vs,g1,g2,g3,g4,_⟩:=h.mem s _ hb;have g1':y.ev J=some (.l sz xs'):=g1;rw[h2] at g1';injection g1' with g1';injection g1' with _ g1';subst g1';have:∃b cap,hv s= .slice b xs.length cap∧xs.length<=maxLen:=by
     rcases g2.2 with⟨b,e1,e2⟩|⟨g,cap,cur,e1,_,_,_,e5,e6,_⟩
     .exact⟨b,0,by rw[e2];exact e1,by rw[e2];exact D9 _⟩
     .exact⟨_,cap,e1,En e5 e6⟩
    obtain⟨b,cap,hbc,hmx⟩:=this;have hr1:a.eval x=yr sz iv.toNat (hv s):=h6;rw[hbc] at hr1;simp only[yr] at hr1;obtain⟨q,hq⟩:=hk.g1 hG;have hq':=hq;simp only[E.ev,h2,h3,Bs,Hg] at hq';simp only[X.bin] at hq';split at hq'
    .rename_i hk64;subst hk64;simp only[Gc,Bm] at hq';refine Ed.value (slice _ _ _ e hu hr1) (.keep h ?_);simp only[Cj];refine⟨q,hq,?_⟩;have hw:IntKind.i64.wrap ((xs.length:Int) - iv)=((xs.length - iv.toNat:Nat):Int):=by rw[IntWalk.i64_in _ ⟨by omega,by simp only[maxLen] at hmx;omega⟩];omega
     rw[<-hq',hw];exact .i _ _
    .cases hq'
   .cases hl
  .rename_i sv' _ _ _;obtain⟨y,hy,he⟩:=Bp.1 hl;simp only[B3] at he;obtain⟨rfl,rfl⟩:=he;obtain⟨p,hp,hpr⟩:=SV.asE_ok hy hr;have hp':y.ev J=some p:=hp;obtain⟨q,hq⟩:=hk.g1 hG;simp only[E.ev,hp',Bs] at hq;unfold Hg at hq;split at hq
   .rename_i sz xs;generalize hv1:a.eval x=v1;have hpr':Rep (Cr w O) (.l sz xs) v1:=by rw[<-hv1];exact hpr
    cases hpr' with
    |l _ _ base cap ad el _ _ _ _ _ _=>
     refine Ed.value (slice _ _ _ e hu hv1) (.keep h ?_);simp only[Cj,E.ev,hp',Bs,Hg];exact⟨_,rfl,.i _ _⟩
   .cases hq
 .rename_i hu;split at hl
  .rename_i y;simp only[Bm,B3] at hl;obtain⟨rfl,rfl⟩:=hl;simp only[Cj] at hr;obtain⟨p,hp,hpr⟩:=hr;have hp':y.ev J=some p:=hp;obtain⟨q,hq⟩:=hk.g1 hG;simp only[E.ev,hp',Bs] at hq;unfold P1 at hq;split at hq
   .rename_i s;obtain⟨z,hz,hzd⟩:=hpr.str;refine Ed.value (str z hu hz) (.keep h ?_);simp only[Cj,E.ev,hp',Bs,P1];refine⟨_,rfl,?_⟩;have:z.size=s.length:=by rw[<-hzd,C3];rfl
    rw[this];exact .i _ _
   .cases hq
  .cases hl
 .cases hl
end
section
variable {P:Program} {w0:Fr} {Oe:Nat->Option Nat} {J:List PV} {σ:St} {a:Act} {w:World} {β:Nat->Nat} {hv:Nat->Value} {O:Nat->Option Nat} {G:Option E} {o:Oper} {ws:List W}
def Cb.part {C:Cx} {cs:List SV} {vs:List Value} (h:Cb C cs vs) (off n:Nat):Cb C ((cs.drop off).take n) ((vs.drop off).take n):=by
 have hlen:=h.length;refine Cb.mk (by simp[hlen]) fun j y u hy hu=> ?_;rw[Ch] at hy hu;split at hy
 .rename_i hj;rw[if_pos hj] at hu;rw[Cl] at hy hu;obtain⟨u',hu',hr'⟩:=h.get _ y hy;rw[hu] at hu';injection hu' with hu';subst hu';exact hr'
 .cases hy
def Cy6 {y:E} (hy:y.isAgg=true) {p:PV} (hp:y.ev J=some p):∃cs,p= .a cs:=by
 cases y<;>simp only[E.isAgg,B5] at hy
 .simp only[E.ev,Bl] at hp;obtain⟨q,_,hp⟩:=hp;split at hp
  .injection hp with hp;exact⟨_,hp.symm⟩
  .cases hp
 .simp only[E.ev,Bp] at hp;obtain⟨q,_,hp⟩:=hp;exact⟨_,hp.symm⟩
 .simp only[E.ev,Bl] at hp;obtain⟨q,_,hp⟩:=hp;split at hp
  .split at hp
   .injection hp with hp;exact⟨_,hp.symm⟩
   .cases hp
  .cases hp
def Rw {t:TypeId} (hu:(P.underlying t).isSome):(P.info? t).isSome:=by obtain⟨d,hd⟩:=Dc.1 hu;exact O0 hd
def As9 {C:Cx} (hC:C.J=J) {n off:Nat} {ft:TypeId} {sv r:SV} {v:Value} (hG:GOk J G) (hp:U2 P G n off ft sv=some (ws,r)) (hk:Chk J ws) (hr:Cj C sv v):
  ∃vs u,v= .agg vs∧(part ft vs off).run P w= .ok u w∧Cj C r u:=by
 subst hC;unfold U2 at hp;split at hp
 .cases hp
 .rename_i hun;have hun':(P.underlying ft).isSome=true:=by cases hh:P.underlying ft<;>simp_all
  split at hp
  .rename_i y;simp only[Bm,B3] at hp;obtain⟨rfl,rfl⟩:=hp;simp only[Cj] at hr;obtain⟨p,hp,hpr⟩:=hr;have hcs:∃cs,p= .a cs:=by
    by_cases hy:y.isAgg=true
    .exact Cy6 hy hp
    .obtain⟨q,hq⟩:=hk.g (x:= .fit n y) hG (by simp[hy]);simp only[E.ev,hp,Bs] at hq;split at hq
     .exact⟨_,rfl⟩
     .cases hq
   obtain⟨cs,rfl⟩:=hcs;cases hpr with
   |a _ vs hl h1 h=>
    obtain⟨q,hq⟩:=hk.g (x:=if Kk P ft then E.sub off (B8 P ft) y else .proj off y) hG (by simp);refine⟨vs,?_⟩;cases ha:Kk P ft with
    |true=>
     simp only[ha,if_true] at hq ⊢;refine⟨_,trivial,W1 w ha rfl (Rw hun'),?_⟩;simp only[Cj];refine⟨q,hq,?_⟩;simp only[E.ev,hp,Bs] at hq;by_cases hle:off+B8 P ft<=(PV.a cs).cells.length
     .rw[if_pos hle] at hq;injection hq with hq;subst hq;have hle':off+B8 P ft<=cs.length:=hle;show Rep _ (.a ((cs.drop off).take _)) _;refine .a _ _ (by simp;omega) (fun u hu=> ?_) fun j c u hc hu=> ?_
      .simp only[Nw,Iw] at hu;exact h1 u (F6 (Er hu))
      .rw[Ch] at hc;split at hc
       .rw[Cl] at hc;rw[Array.getElem?_extract] at hu;split at hu
        .exact h _ c u hc hu
        .cases hu
       .cases hc
     .rw[if_neg hle] at hq;cases hq
    |false=>
     simp only[ha,if_false,B5] at hq ⊢;have hq':=hq;simp only[E.ev,hp,Bs,PV.cells] at hq';have hlt:=(Bn.1 hq').1;have hu:vs[off]? =some (vs[off]'(by omega)):=Eh (by omega);refine⟨_,trivial,W0 w ha hun' hu,?_⟩;simp only[Cj];exact⟨q,hq,h _ q _ hq' hu⟩
  .rename_i cs;simp only[Cj] at hr;obtain⟨vs,rfl,h1,h2⟩:=hr;have hlen:=h2.length;refine⟨vs,?_⟩;split at hp
   .rename_i ha;split at hp
    .rename_i hle;simp only[Bm,B3] at hp;obtain⟨rfl,rfl⟩:=hp;refine⟨_,rfl,W1 w ha rfl (Rw hun'),Q1 ?_ fun u hu=> ?_⟩
     .simp only[Nw,Iw];have:=h2.part off (B8 P ft);rwa[Nat.add_sub_cancel_left]
     .simp only[Nw,Iw] at hu;exact h1 u (F6 (Er hu))
    .cases hp
   .rename_i ha;obtain⟨c,hc,he⟩:=Bp.1 hp;simp only[B3] at he;obtain⟨rfl,rfl⟩:=he;obtain⟨u,hu,hru⟩:=h2.get off c hc;exact⟨u,rfl,W0 w (by simpa using ha) hun' (by rw[<-B6];exact hu),hru⟩
  .cases hp
def Ck9 {t:TypeId} {x:Operand} {f off:Nat} {ft:TypeId} {sv r:SV} (ho:o.op= .field t x f) (hf:P0 P t f=some (off,ft)) (h:Rel w0 Oe J σ a.tmps w β hv O) (hG:GOk J G) (hx:opd P σ G 0 x=some sv)
  (hp:U2 P G (B8 P t) off ft sv=some (ws,r)) (hk:Chk J ws):Ed P o a w (G1 w0 Oe J σ a.tmps (Gm σ) r):=by
 have hr:=Fw (ds:=a.defers) (C:=⟨J,Cr w O,β,hv,σ.m⟩) hG rfl hx h.tmps;obtain⟨vs,u,h1,h2,h3⟩:=As9 (w:=w) (C:=⟨J,Cr w O,β,hv,σ.m⟩) rfl hG hp hk hr;have h1':a.eval x= .agg vs:=h1;unfold P0 at hf;split at hf
 .rename_i fs hu;obtain⟨fl,hfl,he⟩:=Bp.1 hf;simp only[B3] at he;obtain⟨rfl,rfl⟩:=he;refine Ed.value (v:=u) (w':=w) ?_ (.keep h h3);simp[execOp,ho,Instr.field,run_underlying hu,hfl,h1',asAgg,h2]
 .cases hf
def Zt {t e:TypeId} {x i:Operand} {n:Nat} {kk:IntKind} {k:Int} {sv r:SV} (ho:o.op= .index t x i) (ht:P.underlying t=some (.array n e)) (h:Rel w0 Oe J σ a.tmps w β hv O) (hG:GOk J G) (hx:opd P σ G 0 x=some sv)
  (hi:Gx P σ G 0 i=some (.c (.i kk k))) (hb:0<=k∧k<n∧B8 P e≠0) (hp:U2 P G (n*B8 P e) (k.toNat*B8 P e) e sv=some (ws,r)) (hk:Chk J ws):Ed P o a w (G1 w0 Oe J σ a.tmps (Gm σ) r):=by
 have hr:=Fw (ds:=a.defers) (C:=⟨J,Cr w O,β,hv,σ.m⟩) hG rfl hx h.tmps;obtain⟨vs,u,h1,h2,h3⟩:=As9 (w:=w) (C:=⟨J,Cr w O,β,hv,σ.m⟩) rfl hG hp hk hr;have h1':a.eval x= .agg vs:=h1;obtain⟨q,hq,hqr⟩:=Ey (ds:=a.defers) (C:=⟨J,Cr w O,β,hv,σ.m⟩) hG rfl hi h.tmps;simp only[E.ev,Bm] at hq;subst hq;have hi':a.eval i= .int kk k:=hqr.int;refine Ed.value (v:=u) (w':=w) ?_ (.keep h h3);simp[execOp,ho,Instr.index,run_underlying ht,h1',hi',asIntOf,hb.1,hb.2.1,Fg (P:=P) (w:=w) rfl hb.2.2,h2]
def Kr {t e:TypeId} {x i:Operand} {n:Nat} {kk:IntKind} {k:Int} {p q:SV} (ho:o.op= .indexAddr t x i) (ht:P.underlying t=some (.array n e)) (h:Rel w0 Oe J σ a.tmps w β hv O) (hG:GOk J G) (hx:opd P σ G 0 x=some p)
  (hi:Gx P σ G 0 i=some (.c (.i kk k))) (hb:0<=k∧k<n∧B8 P e≠0) 
  (hq:(∃s o,p= .bp s o∧q= .bp s (o+k.toNat*B8 P e))∨(∃y o,p= .ip y o∧q= .ip y (o+k.toNat*B8 P e))):Ed P o a w (G1 w0 Oe J σ a.tmps (Gm σ) q):=by
 have hr:=Fw (ds:=a.defers) (C:=⟨J,Cr w O,β,hv,σ.m⟩) hG rfl hx h.tmps;have e0:a.eval=(Act.mk a.tmps a.defers).eval:=rfl;rw[<-e0] at hr;obtain⟨qq,hqq,hqr⟩:=Ey (ds:=a.defers) (C:=⟨J,Cr w O,β,hv,σ.m⟩) hG rfl hi h.tmps;simp only[E.ev,Bm] at hqq;subst hqq;have hi':a.eval i= .int kk k:=hqr.int;have run:∀ad,a.eval x= .pointer (some ad)->(execOp a.eval o).run P w= .ok (.value (.pointer (some (ad.add (k.toNat*B8 P e))))) w:=by intro ad had;simp[execOp,ho,Instr.indexAt,run_underlying ht,had,Instr.sureAddr,hi',asIntOf,hb.1,hb.2.1,Fg (P:=P) (w:=w) rfl hb.2.2]
 rcases hq with⟨s,o,rfl,rfl⟩|⟨y,o,rfl,rfl⟩
 .simp only[Cj] at hr;refine Ed.value (run _ hr) (.keep h ?_);simp only[Cj,add_lit]
 .simp only[Cj] at hr;obtain⟨pv,hp,ad,el,had,h1,h2,h3⟩:=hr;refine Ed.value (run _ had) (.keep h ?_);simp only[Cj];refine⟨pv,hp,ad.add (k.toNat*B8 P e),fun j=>el (k.toNat*B8 P e+j),rfl,fun j c hc=> ?_,fun j c hc=> ?_,fun j c hc=> ?_⟩
  .rw[Addr.add_add];exact h1 _ c (by rw[Cl] at hc ⊢;rw[<-Fc];exact hc)
  .exact h2 _ c (by rw[Cl] at hc ⊢;rw[<-Fc];exact hc)
  .exact h3 _ c (by rw[Cl] at hc ⊢;rw[<-Fc];exact hc)
def Fw4 {c:Call} {x y:Operand} {ex ey:E} (ho:o.op= .call c) (hc:c.callee= .builtin .min) (ha:c.args.toList=[x,y]) (h:Rel w0 Oe J σ a.tmps w β hv O) (hG:GOk J G) (hx:Gx P σ G 0 x=some ex) (hy:Gx P σ G 0 y=some ey)
  (hk:Chk J [Gp G (.mn ex ey)]):Ed P o a w (G1 w0 Oe J σ a.tmps (Gm σ) (.e (.mn ex ey))):=by
 obtain⟨r,hr⟩:=hk.g1 hG;obtain⟨p,hp,hpr⟩:=Ey (ds:=a.defers) (C:=⟨J,Cr w O,β,hv,σ.m⟩) hG rfl hx h.tmps;obtain⟨q,hq,hqr⟩:=Ey (ds:=a.defers) (C:=⟨J,Cr w O,β,hv,σ.m⟩) hG rfl hy h.tmps;have hargs:c.args= #[x,y]:=by rw[<-Dn (xs:=c.args),ha]
 have hr':=hr;simp only[E.ev,hp,hq,Bs] at hr';unfold Dg3 at hr';split at hr'
 .split at hr'
  .rename_i k m _ n hkk;subst hkk;injection hr' with hr';have h1:a.eval x= .int k m:=hpr.int;have h2:a.eval y= .int k n:=hqr.int;refine Ed.value (v:= .int k (if n<m then n else m)) (w':=w) ?_ (.keep h ?_)
   .simp[execOp,ho,resolve,hc,hargs,invoke,builtin,Builtin.min_,Builtin.min2,h1,h2]
   .simp only[Cj];exact⟨r,hr,by rw[<-hr'];exact .i _ _⟩
  .cases hr'
 .cases hr'
def Fw5 {c:Call} {x y:Operand} {ex ey:E} (ho:o.op= .call c) (hc:c.callee= .builtin .max) (ha:c.args.toList=[x,y]) (h:Rel w0 Oe J σ a.tmps w β hv O) (hG:GOk J G) (hx:Gx P σ G 0 x=some ex) (hy:Gx P σ G 0 y=some ey)
  (hk:Chk J [Gp G (.mx ex ey)]):Ed P o a w (G1 w0 Oe J σ a.tmps (Gm σ) (.e (.mx ex ey))):=by
 obtain⟨r,hr⟩:=hk.g1 hG;obtain⟨p,hp,hpr⟩:=Ey (ds:=a.defers) (C:=⟨J,Cr w O,β,hv,σ.m⟩) hG rfl hx h.tmps;obtain⟨q,hq,hqr⟩:=Ey (ds:=a.defers) (C:=⟨J,Cr w O,β,hv,σ.m⟩) hG rfl hy h.tmps;have hargs:c.args= #[x,y]:=by rw[<-Dn (xs:=c.args),ha]
 have hr':=hr;simp only[E.ev,hp,hq,Bs] at hr';unfold Df8 at hr';split at hr'
 .split at hr'
  .rename_i k m _ n hkk;subst hkk;injection hr' with hr';have h1:a.eval x= .int k m:=hpr.int;have h2:a.eval y= .int k n:=hqr.int;refine Ed.value (v:= .int k (if n>m then n else m)) (w':=w) ?_ (.keep h ?_)
   .simp[execOp,ho,resolve,hc,hargs,invoke,builtin,Builtin.max_,Builtin.max2,h1,h2]
   .simp only[Cj];exact⟨r,hr,by rw[<-hr'];exact .i _ _⟩
  .cases hr'
 .cases hr'
end
section
variable {P:Program} {w0:Fr} {Oe:Nat->Option Nat} {J:List PV} {σ:St} {a:Act} {w:World} {β:Nat->Nat} {hv:Nat->Value} {O:Nat->Option Nat} {G:Option E} {o:Oper} {ws:List W}
def Bf8 {x:Value} {k:IntKind} {n:Int} {y:Nat} {code:BoundsCode} (hx:x= .int k n) (h:0<=n∧n<=y):(Instr.sliceBound x y code).run P w= .ok n.toNat w:=by subst hx;simp[Instr.sliceBound,asIntOf,h]
def Jk {b:Bool} {len cap:Nat} {low high max:Option Value} {l h m:Nat} 
  (hm:match max with|some v=>∃k,v= .int k m|none=>m=cap) (hh:match high with|some v=>∃k,v= .int k h|none=>h=len∧max=none) (hl:match low with|some v=>∃k,v= .int k l|none=>l=0)
  (h1:l<=h) (h2:h<=m) (h3:m<=cap):(Instr.sliceBounds b len cap low high max).run P w= .ok (l,h,m) w:=by
 have z:∀(k:IntKind) (n:Int) (y:Nat) (code:BoundsCode),0<=n∧n<=y->(Instr.sliceBound (.int k n) y code).run P w= .ok n.toNat w:=fun k n y code h=>Bf8 rfl h;cases low with
 |none=>
  simp only at hl;subst hl;cases high with
  |none=>
   obtain⟨rfl,rfl⟩:=hh;simp only at hm;subst hm;simp[Instr.sliceBounds]
  |some v=>
   obtain⟨k,rfl⟩:=hh;cases max with
   |none=>simp only at hm;subst hm;simp[Instr.sliceBounds,z k h m _ (by omega)]
   |some u=>obtain⟨k',rfl⟩:=hm;simp[Instr.sliceBounds,z k' m cap _ (by omega),z k h m _ (by omega)]
 |some v=>
  obtain⟨k0,rfl⟩:=hl;cases high with
  |none=>
   obtain⟨rfl,rfl⟩:=hh;simp only at hm;subst hm;simp[Instr.sliceBounds,z k0 l h _ (by omega)]
  |some v=>
   obtain⟨k,rfl⟩:=hh;cases max with
   |none=>simp only at hm;subst hm;simp[Instr.sliceBounds,z k h m _ (by omega),z k0 l h _ (by omega)]
   |some u=>obtain⟨k',rfl⟩:=hm;simp[Instr.sliceBounds,z k' m cap _ (by omega),z k h m _ (by omega),z k0 l h _ (by omega)]
def Dg6 {C:Cx} (hC:C.J=J) (hG:GOk J G) (h:Cb C σ.t a.tmps.toList) {lo:Option Operand} {el:E} {k:IntKind} {n:Int} (hl:Jt P σ G lo (.c (.i .i64 0))=some el)
  (he:el.ev J=some (.i k n)) (h0:0<=n):match lo.map a.eval with|some v=>∃k,v= .int k (n.toNat:Int)|none=>n.toNat=0:=by
 unfold Jt at hl;cases lo with
 |none=>
  simp only[Bm] at hl;subst hl;simp only[E.ev,Bm,PV.i.injEq] at he;obtain⟨_,rfl⟩:=he;rfl
 |some x=>
  simp only at hl;obtain⟨p,hp,hpr⟩:=Ey (ds:=a.defers) hG hC hl h;subst hC;rw[he] at hp;injection hp with hp;subst hp;refine⟨k,?_⟩;have:a.eval x= .int k n:=hpr.int;rw[this];congr 1;omega
def Cz1 {C:Cx} (hC:C.J=J) (hG:GOk J G) (h:Cb C σ.t a.tmps.toList) {x:Operand} {d el:E} {k:IntKind} {n:Int} (hl:Jt P σ G (some x) d=some el)
  (he:el.ev J=some (.i k n)) (h0:0<=n):∃k,a.eval x= .int k (n.toNat:Int):=Dg6 (lo:=some x) hC hG h hl he h0
def Rep.lnil (M:Vw) (sz:Nat) (b:Option Addr) (cap:Nat):Rep M (.l sz []) (.slice b 0 cap):=
 Rep.l sz [] b cap ⟨0,0,none⟩ (fun _ _=>undef) (D9 _) (fun h=>absurd rfl h) (fun i x h=>by simp at h) (fun i x j c h=>by simp at h) (fun i x j c h=>by simp at h) (fun i x j c h=>by simp at h)
def Ck8 {t:TypeId} {x:Operand} {lo hi mx:Option Operand} {sv r:SV} {ε:Eff} (ho:o.op= .slice t x lo hi mx) (h:Rel w0 Oe J σ a.tmps w β hv O) (hG:GOk J G) (hx:opd P σ G t x=some sv)
  (hs:Lq P σ G t sv lo hi mx=some (ws,r,ε)) (hk:Chk J ws):Ed P o a w (G1 w0 Oe J σ a.tmps ε r):=by
 have hr:=Fw (ds:=a.defers) (C:=⟨J,Cr w O,β,hv,σ.m⟩) hG rfl hx h.tmps;have e0:a.eval=(Act.mk a.tmps a.defers).eval:=rfl;rw[<-e0] at hr;unfold Lq at hs;split at hs
 ·-- a string
  rename_i hu;split at hs
  .rename_i y hy;split at hs
   .rename_i el eh hel heh;simp only[Bm,B3] at hs;obtain⟨rfl,rfl,rfl⟩:=hs;obtain⟨q,hq⟩:=hk.g1 hG;obtain⟨p,hp,hpr⟩:=SV.asE_ok hy hr;have hp':y.ev J=some p:=hp;have hq':=hq;simp only[E.ev,hp',Bs,Bl] at hq';obtain⟨pl,hpl,ph,hph,hq'⟩:=hq';unfold tp at hq';split at hq'
    .rename_i s kl nl kh nh;split at hq'
     .rename_i hb;injection hq' with hq';obtain⟨z,hz,hzd⟩:=hpr.str;have hzs:z.size=s.length:=by rw[<-hzd,C3];rfl
      have hlo:=Dg6 (C:=⟨J,Cr w O,β,hv,σ.m⟩) rfl hG h.tmps hel hpl hb.1;have hhi:match hi.map a.eval with|some v=>∃k,v= .int k (nh.toNat:Int)|none=>nh.toNat=z.size∧(none:Option Value)=none:=by
       cases hi with
       |none=>
        simp only[Jt,Bm] at heh;subst heh;simp only[E.ev,hp',Bs,P1,Bm,PV.i.injEq] at hph;obtain⟨_,rfl⟩:=hph;exact⟨by rw[hzs];simp,rfl⟩
       |some x'=>exact Cz1 (x:=x') (C:=⟨J,Cr w O,β,hv,σ.m⟩) rfl hG h.tmps heh hph (by omega)
      have hrun:=Jk (P:=P) (w:=w) (b:=false) (len:=z.size) (cap:=z.size) (max:=none) (m:=z.size) rfl hhi hlo (by omega) (by omega) (B7 _);refine Ed.value (v:= .string (z.extract nl.toNat nh.toNat)) (w':=w) ?_ (.keep h ?_)
      .simp[execOp,ho,Instr.sliceAt,Instr.slice,run_underlying hu,hz,hrun]
      .simp only[Cj];refine⟨q,hq,?_⟩;rw[<-hq'];refine .s _ _ ?_;rw[ByteArray.data_extract,Nw,Iw,hzd,List.drop_take]
     .cases hq'
    .cases hq'
   .cases hs
  .cases hs
 .rename_i e hu;split at hs
  .cases hs
  rename_i hsz;have hsize:=Fg (P:=P) (w:=w) (t:=e) rfl hsz;split at hs
  ·-- nothing of it
   rename_i hz;simp only[Bt,Dw] at hz;obtain⟨⟨hlo,hhi⟩,hmx⟩:=hz;subst hlo;have zer:∀u,pr u=true->u=some (.const (.int .i64 0)):=by
    intro u hu;unfold pr at hu;split at hu
    .rfl
    .cases hu
   have:=zer _ hhi;subst this;have:=zer _ hmx;subst this;have key:∃b n cap,a.eval x= .slice b n cap:=by
    split at hs
    .rename_i y;simp only[Bm,B3] at hs;obtain⟨rfl,rfl,rfl⟩:=hs;obtain⟨q,hq⟩:=hk.g1 hG;simp only[Cj] at hr;obtain⟨p,hp,hpr⟩:=hr;have hp':y.ev J=some p:=hp;simp only[E.ev,hp',Bs] at hq;unfold Hg at hq;split at hq
     .rename_i sz xs;generalize a.eval x=v1 at hpr;cases hpr with
      |l _ _ base cap ad el _ _ _ _ _ _=>exact⟨_,_,_,rfl⟩
     .cases hq
    .simp only[Cj] at hr;exact⟨_,_,_,hr⟩
    .cases hs
   have hε:ε=Gm σ∧r= .lit (B8 P e) (.c (.l (B8 P e) [])):=by
    split at hs
    .simp only[Bm,B3] at hs;exact⟨hs.2.2.symm,hs.2.1.symm⟩
    .simp only[Bm,B3] at hs;exact⟨hs.2.2.symm,hs.2.1.symm⟩
    .cases hs
   obtain⟨rfl,rfl⟩:=hε;obtain⟨b,n,cap,hv1⟩:=key;have hrun:=Jk (P:=P) (w:=w) (b:=true) (len:=n) (cap:=cap) (low:=none) (high:=some (.int .i64 0)) (max:=some (.int .i64 0)) (l:=0) (h:=0) (m:=0) ⟨_,rfl⟩ ⟨_,rfl⟩ rfl (B7 _) (B7 _) (D9 _);refine Ed.value (v:= .slice b 0 0) (w':=w) ?_ (.keep h ?_)
   .have hev:∀v,a.eval (.const v)=v:=fun v=>rfl;simp[execOp,ho,Instr.sliceAt,Instr.slice,run_underlying hu,hv1,hrun,hsize,hev]
   .simp only[Cj];exact⟨[],b,rfl,rfl,Rep.lnil _ _ _ _⟩
  .split at hs
   .rename_i y ss hy;split at hs
    .cases hs
    .have fin:∀{el eh:E},Jt P σ G lo (.c (.i .i64 0))=some el->Jt P σ G hi (.len y)=some eh->
       (mx=none∨∃m em,mx=some m∧Gx P σ G 0 m=some em∧eh.same em=true∧hi.isSome=true)->Chk J [Gp G (.lsl (B8 P e) y el eh)]->Ed P o a w (G1 w0 Oe J σ a.tmps ⟨Ks ss σ.m,σ.n,none⟩ (.e (.lsl (B8 P e) y el eh))):=by
      intro el eh hel heh hmx hk;obtain⟨O',hrel,hM,hop,_⟩:=h.frz ss (n:=σ.n);obtain⟨p,hp,hpr⟩:=Ry h hM 20 sv _ y ss hy hr (fun s hs=>hop s (by simpa using hs));obtain⟨q,hq⟩:=hk.g1 hG;have hq':=hq;simp only[E.ev,hp,Bs,Bl] at hq';obtain⟨pl,hpl,ph,hph,hq'⟩:=hq';unfold J3 at hq';split at hq'
      .rename_i sz' xs kl nl kh nh;split at hq'
       .rename_i hszz;subst hszz;split at hq'
        .rename_i hb;injection hq' with hq';have hlo:=Dg6 (C:=⟨J,Cr w O,β,hv,σ.m⟩) rfl hG h.tmps hel hpl hb.1;generalize hv1:a.eval x=v1 at hpr;cases hpr with
         |l _ _ base cap ad elv hc hbase hs1 hMm h1 hh=>
          have hhi:match hi.map a.eval with|some v=>∃k,v= .int k (nh.toNat:Int)|none=>nh.toNat=xs.length∧mx.map a.eval=none:=by
           cases hi with
           |none=>
            simp only[Jt,Bm] at heh;subst heh;simp only[E.ev,hp,Bs,Hg,Bm,PV.i.injEq] at hph;obtain⟨_,rfl⟩:=hph;refine⟨by simp,?_⟩;rcases hmx with rfl|⟨_,_,_,_,_,hno⟩
            .rfl
            .cases hno
           |some x'=>exact Cz1 (x:=x') (C:=⟨J,Cr w O,β,hv,σ.m⟩) rfl hG h.tmps heh hph (by omega)
          obtain⟨m,hm1,hm2,hm3⟩:∃m:Nat,(match mx.map a.eval with|some v=>∃k,v= .int k (m:Int)|none=>m=cap)∧nh.toNat<=m∧m<=cap:=by
           rcases hmx with rfl|⟨mo,em,rfl,hem,hsame,_⟩
           .exact⟨cap,rfl,by omega,B7 _⟩
           .have:=E.same_eq _ _ hsame;subst this;exact⟨nh.toNat,Cz1 (x:=mo) (C:=⟨J,Cr w O,β,hv,σ.m⟩) rfl hG h.tmps (d:= .c .u) hem hph (by omega),B7 _,by omega⟩
          have hrun:=Jk (P:=P) (w:=w) (b:=true) (len:=xs.length) (cap:=cap) hm1 hhi hlo (by omega) hm2 hm3;refine Ed.value (v:= .slice (if m=nl.toNat then base else base.map (·.add (nl.toNat*B8 P e))) (nh.toNat - nl.toNat) (m - nl.toNat)) (w':=w) ?_ ⟨β,hv,O',hrel,?_⟩
          .simp[execOp,ho,Instr.sliceAt,Instr.slice,run_underlying hu,hv1,hrun,hsize]
          .simp only[Cj];refine⟨q,hq,?_⟩;rw[<-hq'];have hlen:((xs.take nh.toNat).drop nl.toNat).length=nh.toNat - nl.toNat:=by rw[C1,Cv];omega
           have hget:∀(i:Nat) (z:PV),((xs.take nh.toNat).drop nl.toNat)[i]? =some z->xs[nl.toNat+i]? =some z:=by
            intro i z hz;rw[Cl,Ch] at hz;split at hz
            .exact hz
            .cases hz
           rw[<-hlen];have hadd:∀i j,(ad.add (nl.toNat*B8 P e)).add (i*B8 P e+j)=ad.add ((nl.toNat+i)*B8 P e+j):=by intro i j;rw[Addr.add_add];congr 1;rw[C9];omega
           refine .l _ _ _ _ (ad.add (nl.toNat*B8 P e)) (fun i j=>elv (nl.toNat+i) j) (by rw[hlen];omega) (fun hne=> ?_) (fun i z hz=>hs1 _ z (hget i z hz)) (fun i z j c hz hc=> ?_) (fun i z j c hz hc=>h1 _ z j c (hget i z hz) hc) (fun i z j c hz hc=>hh _ z j c (hget i z hz) hc)
           .have hpos:0<nh.toNat - nl.toNat:=by rw[<-hlen];exact C2.2 hne
            have hxs:xs≠[]:=by intro hx0;subst hx0;simp at hb;omega
            rw[if_neg (by omega),hbase hxs];rfl
           .rw[hadd];exact hMm _ z j c (hget i z hz) hc
        .cases hq'
       .cases hq'
      .cases hq'
     split at hs
     .rename_i el eh hel heh;split at hs
      .simp only[Bm,B3] at hs;obtain⟨rfl,rfl,rfl⟩:=hs;exact fin hel heh (.inl rfl) hk
      .rename_i _ mo _;split at hs
       .rename_i em hem;split at hs
        .rename_i hsame;simp only[Bm,B3] at hs;obtain⟨rfl,rfl,rfl⟩:=hs;refine fin hel heh (.inr ⟨mo,em,rfl,hem,hsame.1,hsame.2⟩) hk
        .cases hs
       .cases hs
     .cases hs
   .cases hs
 .cases hs
def P2 {t:TypeId} {x:Operand} {lo hi mx:Option Operand} {n:Nat} {y:E} {sv r:SV} {ε:Eff} (ho:o.op= .slice t x lo hi mx) (h:Rel w0 Oe J σ a.tmps w β hv O) (hG:GOk J G) (hx:opd P σ G t x=some sv)
  (hsv:sv= .lit n y∨sv= .nil n∧y= .c (.l n [])) (hs:F2 P σ G t n y lo hi mx=some (ws,r,ε)) (hk:Chk J ws):Ed P o a w (G1 w0 Oe J σ a.tmps ε r):=by
 have hr:=Fw (ds:=a.defers) (C:=⟨J,Cr w O,β,hv,σ.m⟩) hG rfl hx h.tmps;have hlit:∃xs b,y.ev J=some (.l n xs)∧a.eval x= .slice b xs.length xs.length∧Rep (Cr w O) (.l n xs) (a.eval x):=by
  rcases hsv with rfl|⟨rfl,rfl⟩
  .simp only[Cj] at hr;exact hr
  .simp only[Cj] at hr;have hr':a.eval x= .slice none 0 0:=hr;exact⟨[],none,by simp only[E.ev],hr',by rw[hr'];exact Rep.lnil _ _ _ _⟩
 obtain⟨xs,b,hy,hv1,hrep⟩:=hlit;unfold F2 at hs;split at hs
 .rename_i e h0 he;have hu:P.underlying t=some (.slice e):=by
   unfold H1 at he;split at he
   .rename_i h;rw[h];injection he with he;rw[he]
   .cases he
  split at hs
  .rename_i eh heh;split at hs
   .rename_i hcond;obtain⟨rfl,hne⟩:=hcond;simp only[Bm,B3] at hs;obtain⟨rfl,rfl,rfl⟩:=hs;obtain⟨q1,hq1⟩:=Chk.g hk hG (.head _);obtain⟨q2,hq2⟩:=Chk.g hk hG (.tail _ (.head _));simp only[E.ev,hy,Bs,Bl] at hq1;obtain⟨ph,hph,hq1⟩:=hq1;unfold J3 at hq1;split at hq1
    .rename_i sz' xs' kl nl kh nh heq1 heq2;injection heq1 with e1 e2;subst e1;subst e2;injection heq2 with e3 e4;subst e3;subst e4;have hlen:nh=xs.length:=by
      simp only[Ew7,E.ev,hph,hy,Bs,Hg,X.bin] at hq2;by_cases hkk:kh= .i64
      .subst hkk;simp only[Gc,if_true,Bs] at hq2;by_cases hn:nh=xs.length
       .exact hn
       .have:(nh==(xs.length:Int))=false:=by simpa using hn
        rw[this] at hq2;simp[PV.scal] at hq2
      .simp[hkk] at hq2
     subst hlen;have hhi:=Cz1 (x:=h0) (C:=⟨J,Cr w O,β,hv,σ.m⟩) rfl hG h.tmps (d:= .c .u) heh hph (by omega);obtain⟨k,hk2⟩:∃k,a.eval h0= .int k (xs.length:Int):=by obtain⟨k,hk2⟩:=hhi;exact⟨k,by simpa using hk2⟩
     have hsize:=Fg (P:=P) (w:=w) (t:=e) rfl hne;have hrun:=Jk (P:=P) (w:=w) (b:=true) (len:=xs.length) (cap:=xs.length) (low:=none) (high:=some (a.eval h0)) (max:=none) (l:=0) (h:=xs.length) (m:=xs.length) rfl ⟨k,hk2⟩ rfl (D9 _) (B7 _) (B7 _);refine Ed.value (v:=a.eval x) (w':=w) ?_ (.keep h ?_)
     .have:∀(m:Nat) (b:Option Addr),Option.map (fun a:Addr=>a.add 0) b=b:=fun _ b=>by cases b<;>rfl
      simp[execOp,ho,Instr.sliceAt,Instr.slice,run_underlying hu,hv1,hrun,hsize];intro _;cases b<;>rfl
     .simp only[Cj];exact⟨xs,b,hy,hv1,hrep⟩
    .cases hq1
   .cases hs
  .cases hs
 .cases hs
end
section
variable {P:Program} {w0:Fr} {Oe:Nat->Option Nat} {J:List PV} {σ:St} {a:Act} {w:World} {β:Nat->Nat} {hv:Nat->Value} {O:Nat->Option Nat} {G:Option E} {o:Oper} {ws:List W}
def Fw2 {src dst e:TypeId} {x:Operand} {ex:E} (ho:o.op= .convert src dst x) (hs:P.underlying src=some .string) (hd:P.underlying dst=some (.slice e)) (he:P.underlying e=some (.int .u8))
  (h:Rel w0 Oe J σ a.tmps w β hv O) (hG:GOk J G) (hx:Gx P σ G 0 x=some ex) (hk:Chk J [Gp G (.s2b ex)]):Ed P o a w (G1 w0 Oe J σ a.tmps (Gm σ) (.e (.s2b ex))):=by
 obtain⟨q,hq⟩:=hk.g1 hG;obtain⟨p,hp,hpr⟩:=Ey (ds:=a.defers) (C:=⟨J,Cr w O,β,hv,σ.m⟩) hG rfl hx h.tmps;have hp':ex.ev J=some p:=hp;have hq':=hq;simp only[E.ev,hp',Bs] at hq';unfold t6 at hq';split at hq'
 .rename_i s;split at hq'
  .injection hq' with hq';obtain⟨z,hz,hzd⟩:=hpr.str;have hz':a.eval x= .string z:=hz;have hzs:z.size=s.length:=by rw[<-hzd,C3];rfl
   have hrun:=run_bytes_of_string (P:=P) w src dst e z hs hd he;generalize hR:bytesRow z (grownCap w z.size 0 e)=R at hrun;have hbel:Blw w.heap.size w (w.drew.alloc (.cells R e (R.size,R.size+1))):=((Blw.refl _ _).drew).alloc (B7 _) _;have hrel:=h.below hbel;refine Ed.value (v:= .slice (some ⟨w.heap.size,0,none⟩) z.size (grownCap w z.size 0 e)) (w':=w.drew.alloc (.cells R e (R.size,R.size+1))) ?_ (.keep hrel ?_)
   .simp only[execOp,ho,hz',Sem.run_bind,hrun,Result.andThen];rfl
   .simp only[Cj];refine⟨q,hq,?_⟩;rw[<-hq'];have hl:(bytesPV s).length=z.size:=by simp[bytesPV,hzs]
    rw[<-hl];have each:∀(i:Nat) (y:PV),(bytesPV s)[i]? =some y->∃b,s[i]? =some b∧y= .i .u8 (b.toNat:Int):=by intro i y hy;simp only[bytesPV,C4,Bp] at hy;obtain⟨b,hb,rfl⟩:=hy;exact⟨b,hb,rfl⟩
    have each2:∀(i:Nat) (y:PV) (j:Nat) (c:PV),(bytesPV s)[i]? =some y->y.cells[j]? =some c->∃b,s[i]? =some b∧j=0∧c= .i .u8 (b.toNat:Int):=by
     intro i y j c hy hc;obtain⟨b,hb,rfl⟩:=each i y hy;cases j with
     |zero=>simp[PV.cells] at hc;exact⟨b,hb,rfl,hc.symm⟩
     |succ j=>simp[PV.cells] at hc
    refine .l _ _ _ _ ⟨w.heap.size,0,none⟩ (fun i _=> .int .u8 ((s.getD i 0).toNat:Int)) (by rw[hl];exact grownCap_ge _ _ _ _) (fun _=>rfl) (fun i y hy=> ?_) (fun i y j c hy hc=> ?_) (fun i y j c hy hc=>rfl) (fun i y j c hy hc=> ?_)
    .obtain⟨b,_,rfl⟩:=each i y hy;rfl
    .obtain⟨b,hb,rfl,rfl⟩:=each2 i y j c hy hc;rw[add_lit];refine Fy ?_ fun lim hl=> ?_
     .have h1:=World.cell?_alloc_mark w.drew R e (R.size,R.size+1) (0+(i*1+0));have h2:w.drew.heap.size=w.heap.size:=rfl;rw[h2] at h1;rw[h1,<-hR];have hi:i<s.length:=(Bn.1 hb).1;have hi2:i<z.data.size:=by rw[<-C3,hzd];exact hi
      have hb2:z.data[i]? =some b:=by rw[<-B6,hzd];exact hb
      simp only[bytesRow,Fl,Nat.mul_one,E5];rw[Ej (by simpa using hi2)];simp[hb2,hb,Ct]
     .have:=h.out w.heap.size (B7 _);rw[show O w.heap.size=none from this] at hl;cases hl
    .obtain⟨b,hb,rfl,rfl⟩:=each2 i y j c hy hc;simp only[Ct,hb,D2];exact .i _ _
  .cases hq'
 .cases hq'
def Ll:∀(ns:List Int) (r:ByteArray),(ns.foldl (fun r n=>r.push (UInt8.ofNat n.toNat)) r).data.toList=r.data.toList++ns.map fun n=>UInt8.ofNat n.toNat
 |[],r=>by simp
 |n::ns,r=>by simp only[List.foldl_cons,Gs];rw[Ll ns];simp[ByteArray.push]
def Mx:∀{xs:List PV} {s:List UInt8},xs.mapM byteOf? =some s->∃ns:List Int,xs=ns.map (.i .u8)∧s=(ns.map fun n=>UInt8.ofNat n.toNat)∧∀n∈ns,0<=n∧n<256
 |[],s,h=>by simp at h;exact⟨[],rfl,h,by simp⟩
 |x::xs,s,h=>by
  simp only[Jw,Qs,Bl,Yl,Bm] at h;obtain⟨b,hb,r,hr,rfl⟩:=h;obtain⟨ns,rfl,rfl,hrg⟩:=Mx hr;unfold byteOf? at hb;split at hb
  .rename_i n;split at hb
   .rename_i hr0;injection hb with hb;refine⟨n::ns,rfl,by rw[<-hb];rfl,fun m hm=> ?_⟩;rcases Cg.1 hm with rfl|hm
    .exact hr0
    .exact hrg m hm
   .cases hb
  .cases hb
def Fx1 {src dst e:TypeId} {x:Operand} {sv:SV} {ex:E} {ss:List Nat} (ho:o.op= .convert src dst x) (hs:P.underlying src=some (.slice e)) (hd:P.underlying dst=some .string) (he:P.underlying e=some (.int .u8))
  (h:Rel w0 Oe J σ a.tmps w β hv O) (hG:GOk J G) (hx:opd P σ G 0 x=some sv) (hy:toE σ.m 20 sv=some (ex,ss)) (hk:Chk J [Gp G (.b2s ex)]):Ed P o a w (G1 w0 Oe J σ a.tmps (Gm σ) (.e (.b2s ex))):=by
 obtain⟨q,hq⟩:=hk.g1 hG;have hr:=Fw (ds:=a.defers) (C:=⟨J,Cr w O,β,hv,σ.m⟩) hG rfl hx h.tmps;obtain⟨O',_,hM,hop,_⟩:=h.frz ss (n:=σ.n);obtain⟨p,hp,hpr⟩:=Ry h hM 20 sv _ ex ss hy hr (fun s hs=>hop s (by simpa using hs));have hq':=hq;simp only[E.ev,hp,Bs] at hq';unfold Ub at hq';split at hq'
 .rename_i xs;obtain⟨s,hs',hq''⟩:=Bp.1 hq';obtain⟨ns,rfl,rfl,_⟩:=Mx hs';have hpr':Rep (Cr w O') (.l 1 (ns.map (.i .u8))) (a.eval x):=hpr;generalize hv1:a.eval x=v1 at hpr';have fin:∀z:ByteArray,(convert src dst v1).run P w= .ok (.string z) w->z.data.toList=ns.map (fun n=>UInt8.ofNat n.toNat)->Ed P o a w (G1 w0 Oe J σ a.tmps (Gm σ) (.e (.b2s ex))):=by
   intro z hz1 hz2;refine Ed.value (v:= .string z) (w':=w) ?_ (.keep h ?_)
   .simp only[execOp,ho,hv1,Sem.run_bind,hz1,Result.andThen];rfl
   .simp only[Cj];exact⟨q,hq,by rw[<-hq''];exact .s _ _ hz2⟩
  cases hpr' with
  |l _ _ base cap ad el hc hb hs1 hMm h1 hh=>
   cases hbase:base with
   |none=>
    have hns:ns=[]:=by refine Classical.byContradiction fun hne=> ?_;have:=hb (by simpa using hne);rw[hbase] at this;cases this
    subst hns;subst hbase;exact fin ByteArray.empty (run_convert_bytes_nil w src e hs he _ _ dst hd) rfl
   |some ad'=>
    subst hbase;have hloads:(loadCells ad' (ns.map (PV.i .u8)).length).run P w= .ok (ns.map (Value.int .u8)).toArray w:=by
     have:=run_loadCells_list (P:=P) w ad' (ns.map (Value.int .u8)) fun j v hj=> ?_
     .simpa using this
     .simp only[C4,Bp] at hj;obtain⟨n,hn,rfl⟩:=hj;have hne:ns.map (PV.i .u8)≠[]:=by intro h0;simp at h0;subst h0;simp at hn
      have:=hb hne;injection this with this;subst this;have hx1:(ns.map (PV.i .u8))[j]? =some (.i .u8 n):=by simp[hn]
      have h2:=hMm j _ 0 _ hx1 (show (PV.i .u8 n).cells[0]? =some (.i .u8 n) from rfl);have h3:=hh j _ 0 _ hx1 (show (PV.i .u8 n).cells[0]? =some (.i .u8 n) from rfl);rw[h3.int] at h2;have:=(Lj h2).1;simpa using this
    refine fin _ ((run_convert_bytes_string w src dst e _ _ _ hs he hd).trans (run_bytesToString w ad' _ cap ns hloads)) ?_;rw[Ll];rfl
 .cases hq'
end
end Go.X
