/- Functions. -/
import Derived.Test.YtjjbngkgndckcaaGreatDoorValidateAnswersG1
import GoSem.ClaimChange
import Derived.WideShapes
import Derived.ChangeShapes
import Derived.OpenShut
import Derived.Carry
import Derived.SizedLaws
import Derived.Lib.Bytealg
import Derived.IntWalk
open Array renaming getElem?_toList->B9,getD_eq_getD_getElem?->Cg,length_toList->Dv,getElem?_append_left->Em,getElem?_eq_getElem->E8
open Bool renaming and_eq_true->Bt,false_eq_true->B5,or_eq_true->Cz,not_eq_true'->Dp,false_or->Hb,not_true->qd,or_eq_false_iff->Bb1
open Int renaming toNat_natCast->Eg
open List renaming length_append->Bp,getElem?_eq_some_iff->Br,getElem?_eq_getElem->B3,length_cons->Cq,append_assoc->Cy,getElem?_append_right->Cf,getElem?_append_left->Cm,getElem?_take->Cp,getElem?_drop->Cr,length_nil->Cs,length_pos_iff->Ct,eq_nil_of_length_eq_zero->C1,getD_eq_getElem?_getD->C4,take_append_drop->C8,getElem?_map->Dk,cons_append->Db,getElem?_range->Dn,all_eq_true->Ds,nil_append->D3,getElem?_cons_zero->D7,drop_eq_getElem_cons->Et,length_map->Fq,drop_drop->Fy,getElem?_cons_succ->Fs,getElem?_of_mem->F4,drop_zero->Gp,mem_range->Ih,drop_eq_nil_of_le->Im,mapM_cons->Kx,getElem?_replicate->K3,all_cons->Mb,length_range->zm
open Nat renaming le_refl->B7,zero_le->Dz,add_mul->Dl,mod_eq_of_lt->Fj,one_mul->Gh,lt_of_lt_of_le->Gl,add_zero->G6,zero_add->Ig,lt_or_ge->Dl8,le_max_right->Dl9,le_max_left->Ht1
open Option renaming bind_eq_some_iff->Bl,map_eq_some_iff->Bs,bind_some->B0,map_some->Cc,isSome_iff_exists->Dt,isNone_iff_eq_none->D5,bind_eq_bind->T8,isSome_none->bf,pure_def->ib
open Option.some renaming injEq->Bn
set_option maxHeartbeats 1000000
set_option linter.defProp false
set_option linter.unusedVariables false
set_option linter.unusedSimpArgs false
namespace Go.X
open Go Go.RowKit
section
variable {P:Program} {sig:Nat->Option Nat} {fn:Fns} {w0:Fr} {Oe:Nat->Option Nat} {N:Nat}
def Dp8 {func:Func} {args:List PV} {w:World} {O:Nat->Option Nat} {cargs:Array Value} (hg:Given w O func.params.size args cargs) (hl:args.length=func.params.size+func.nfree) (ht:func.params.size+func.nfree<=func.ntmps) {fa:Option Nat} (hfa:∀e,fa=some e->∃xs b,args[0]? =some (.l (Cj P e) xs)∧cargs[0]? =some (.slice b xs.length xs.length)):
  gn ⟨w,none⟩ O args (Qj P none fa func) (cargs++Array.replicate (func.ntmps - cargs.size) undef) w:=by
 refine⟨fun _=>0,fun _=>undef,O,Bel.refl ⟨w,none⟩,fun _ _ _=>rfl,hg.out,?_,fun s b hs=>by simp[Qj,mget] at hs,fun s s' b b' hs=>by simp[Qj,mget] at hs,fun v hv=>by cases hv⟩;have hsz:=hg.size;refine Cd.mk (by simp[Qj];omega) fun j x v hx hv=> ?_;simp only[Qj,bf,B5,false_and,if_false] at hx;rw[Cy] at hx;by_cases h1:j<func.params.size
 .rw[Cm (by simpa using h1)] at hx;simp only[Dk,Bs] at hx;obtain⟨k,hk,rfl⟩:=hx;rw[Dn h1] at hk;injection hk with hk;subst hk;have hp:args[j]? =some args[j]:=B3 (by omega);rw[B9,Em (by omega)] at hv;have hval:=hg.val j _ v h1 hp hv;have plain:Cw ⟨args,C5 w O,fun _=>0,fun _=>undef,(Qj P none fa func).m⟩ (.e (.v j)) v:=by simp only[Cw,E.ev];exact⟨args[j],hp,hval⟩
  by_cases hj0:j=0
  .rw[if_pos hj0];cases fa with
   |none=>exact plain
   |some e=>
    obtain⟨xs,b,h5,h6⟩:=hfa e rfl;subst hj0;rw[hp] at h5;injection h5 with h5;rw[hv] at h6;injection h6 with h6;simp only[Cw,E.ev];exact⟨xs,b,by rw[hp,h5],h6,by rw[<-h5];exact hval⟩
  .rw[if_neg hj0];exact plain
 .rw[Cf (by simpa using Nat.le_of_not_lt h1)] at hx;simp only[Fq,zm] at hx;by_cases h2:j<func.params.size+func.nfree
  .rw[Cm (by simp;omega)] at hx;simp only[Dk,Bs] at hx;obtain⟨k,hk,rfl⟩:=hx;rw[Dn (by omega)] at hk;injection hk with hk;subst hk;simp only[Cw,E.ev,Gp];have hjj:func.params.size+(j - func.params.size)=j:=by omega
   rw[hjj];have hp:args[j]? =some args[j]:=B3 (by omega);refine⟨args[j],hp,hg.cap j _ v (by omega) hp ?_⟩;rw[B9,Em (by omega)] at hv;exact hv
  .rw[Cf (by simp;omega),K3] at hx;split at hx
   .injection hx with hx;subst hx;simp only[Cw]
   .cases hx
def Own.mono' {B B':Nat->Prop} {w:World} {e size n:Nat} {v:Value} {xs:List Value} (h:Own w B e size v n xs) (hb:∀g,Dd v=some g->B' g):Own w B' e size v n xs:=by
 refine⟨h.1,?_⟩;rcases h.2 with h1|⟨g,cap,cur,h1,h2,h3,h4⟩
 .exact .inl h1
 .exact .inr ⟨g,cap,cur,h1,h2,hb g (by rw[h1];simp only[Dd,if_neg (show¬cap=0 by omega)]),h4⟩
def Cq8 {func:Func} {e:Nat} {r:Bool} {args:List PV} {w:World} {O:Nat->Option Nat} {cargs:Array Value} {v0:Value} {xs:List PV} {us:List Value} (hg:GivenM P e w O func.params.size args cargs v0 xs us) (hl:args.length=func.params.size+func.nfree) (ht:func.params.size+func.nfree<=func.ntmps):
  gn ⟨w,some v0⟩ O args (Qj P (some (e,r)) none func) (cargs++Array.replicate (func.ntmps - cargs.size) undef) w:=by
 have hsz:=hg.size;have hpos:=hg.pos;have hmem:∀s b,mget (Qj P (some (e,r)) none func).m s=some b->s=S0∧b= .arr e (Cj P e) (.v 0) .no:=by
  intro s b hs;simp only[Qj,mget] at hs;split at hs
  .rename_i h1;injection hs with hs;exact⟨h1.symm,hs.symm⟩
  .cases hs
 have harg:∀v,(cargs++Array.replicate (func.ntmps - cargs.size) undef)[0]? =some v->v=v0:=by intro v hv;rw[Em (by omega),hg.arg] at hv;injection hv with hv;exact hv.symm
 refine⟨fun _=>(Dd v0).getD 0,fun _=>v0,O,Bel.refl ⟨w,some v0⟩,fun _ _ _=>rfl,hg.out,?_,fun s b hs=> ?_,fun s s' b b' hs hs' hne=> ?_,fun v hv _=> ?_⟩
 .refine Cd.mk (by simp[Qj];omega) fun j x v hx hv=> ?_;simp only[Qj,Option.isSome_some,true_and] at hx;rw[Cy] at hx;by_cases h1:j<func.params.size
  .rw[Cm (by simpa using h1)] at hx;simp only[Dk,Bs] at hx;obtain⟨k,hk,rfl⟩:=hx;rw[Dn h1] at hk;injection hk with hk;subst hk;by_cases hj:j=0
   .subst hj;simp only[if_true,Cw];exact harg v (by rw[<-B9];exact hv)
   .simp only[if_neg hj,Cw,E.ev];have hp:args[j]? =some args[j]:=B3 (by omega);refine⟨args[j],hp,hg.val j _ v (by omega) h1 hp ?_⟩;rw[B9,Em (by omega)] at hv;exact hv
  .rw[Cf (by simpa using Nat.le_of_not_lt h1)] at hx;simp only[Fq,zm] at hx;by_cases h2:j<func.params.size+func.nfree
   .rw[Cm (by simp;omega)] at hx;simp only[Dk,Bs] at hx;obtain⟨k,hk,rfl⟩:=hx;rw[Dn (by omega)] at hk;injection hk with hk;subst hk;simp only[Cw,E.ev,Gp];have hjj:func.params.size+(j - func.params.size)=j:=by omega
    rw[hjj];have hp:args[j]? =some args[j]:=B3 (by omega);refine⟨args[j],hp,hg.cap j _ v (by omega) hp ?_⟩;rw[B9,Em (by omega)] at hv;exact hv
   .rw[Cf (by simp;omega),K3] at hx;split at hx
    .injection hx with hx;subst hx;simp only[Cw]
    .cases hx
 .obtain⟨rfl,rfl⟩:=hmem s b hs;refine⟨hg.sz,xs,us,?_,hg.own.mono' fun g hgb=> .inr hgb,hg.el,fun g hgb=> ?_,trivial⟩
  .show (E.v 0).ev args=_;simp only[E.ev];exact hg.fst
  .have hgb':Dd v0=some g:=hgb;refine⟨?_,0,hg.shut g hgb',Dz _,fun _=>rfl⟩;show g=(Dd v0).getD 0;rw[hgb'];rfl
 .obtain⟨rfl,_⟩:=hmem s b hs;obtain⟨rfl,_⟩:=hmem s' b' hs';exact absurd rfl hne
 .injection hv with hv;subst hv;rw[Em (by omega)];exact hg.arg
def Ab5 {D:Type} {w:World} {g:D->Sem Value}:∀{l:List D} {us:List Value},us.length=l.length->(∀(j:Nat) (x:D) (u:Value),l[j]? =some x->us[j]? =some u->(g x).run P w= .ok u w)->(l.mapM g).run P w= .ok us w
 |[],us,hl,_=>by have:us=[]:=C1 (by simpa using hl);subst this;simp
 |x::l,[],hl,_=>by simp at hl
 |x::l,u::us,hl,h=>by have h1:=h 0 x u rfl rfl;have h2:=Ab5 (l:=l) (us:=us) (by simpa using hl) (fun j y v hy hv=>h (j+1) y v (by simpa using hy) (by simpa using hv));simp[Kx,h1,h2]
def gR (tm:Array Value):ResultVar->Sem Value
 | .tmp t=>pure (tm.getD t undef)
 | .cell a t=>do loadVar t (<-asAddr (tm.getD a undef))
def Vt {func:Func} {U:St} {J:List PV} {tm:Array Value} {w:World} {K:Nat->Nat} {hv:Nat->Value} {O:Nat->Option Nat} {svs:List SV} (h:Rel w0 Oe J U tm w K hv O) (hs:Md P U func.results.toList=some svs):
  ∃us,Cd ⟨J,C5 w O,K,hv,U.m⟩ svs us∧(Go.results func tm).run P w= .ok (if h:us.length=1 then us[0] else .tuple us.toArray) w:=by
 have go:∀{l:List ResultVar} {svs:List SV},Md P U l=some svs->∃us:List Value,Cd ⟨J,C5 w O,K,hv,U.m⟩ svs us∧us.length=l.length∧∀(j:Nat) (x:ResultVar) (u:Value),l[j]? =some x->us[j]? =some u->
   (gR tm x).run P w= .ok u w:=by
  intro l
  induction l with
  |nil=>
   intro svs h;simp only[Md,Bn] at h;subst h;exact⟨[],by simp only[Cd],rfl,fun j x u hx=>by simp at hx⟩
  |cons r l ih=>
   intro svs hs;simp only[Md] at hs;split at hs
   .rename_i x xs hx hxs;injection hs with hs;subst hs;obtain⟨us,u1,u2,u3⟩:=ih hxs;have one:∃u,Cw ⟨J,C5 w O,K,hv,U.m⟩ x u∧(gR tm r).run P w= .ok u w:=by
     cases r with
     |tmp t=>
      simp only[Ds3] at hx;obtain⟨u,h1,h2⟩:=h.tmps.get t x hx;refine⟨u,h2,?_⟩;rw[B9] at h1;simp[gR,Cg,h1]
     |cell p t=>
      simp only[Ds3] at hx;split at hx
      .rename_i sv hsv;split at hx
       .rename_i v hl;injection hx with hx;subst hx;obtain⟨u0,h1,h2⟩:=h.tmps.get p sv hsv;rw[B9] at h1;obtain⟨ad,u,g1,g2,g3⟩:=Cr0 (G:=none) h (fun g hg=>by cases hg) h2 hl (fun x hx=>by simp at hx);subst g1;refine⟨u,g3,?_⟩;simp[gR,Cg,h1,asAddr,g2]
       .cases hx
      .cases hx
    obtain⟨u,v1,v2⟩:=one;refine⟨u::us,by simp only[Cd];exact⟨u,us,rfl,v1,u1⟩,by simp[u2],fun j y u' hy hu=> ?_⟩;cases j with
    |zero=>simp at hy hu;subst hy;subst hu;exact v2
    |succ j=>exact u3 j y u' (by simpa using hy) (by simpa using hu)
   .cases hs
 obtain⟨us,u1,u2,u3⟩:=go hs;refine⟨us,u1,?_⟩;have hm:=Ab5 (P:=P) (w:=w) (g:=gR tm) u2 u3;have e:Go.results func tm=(do let vs<-List.toArray<$>func.results.toList.mapM (gR tm);pure (if h:vs.size=1 then vs[0] else .tuple vs)):=by
  unfold Go.results;rw[Array.mapM_eq_mapM_toList];have he:∀x,(match x with|ResultVar.tmp t=>pure (tm.getD t undef)|ResultVar.cell a t=>do loadVar t (<-asAddr (tm.getD a undef)):Sem Value)=gR tm x:=fun x=>by cases x<;>rfl
  congr
 rw[e];simp only[Sem.run_bind,Sem.run_map];rw[hm];simp only[Result.andThen,Sem.run_pure];by_cases h1:us.length=1
 .rw[dif_pos h1];have:us.toArray.size=1:=by simpa using h1
  simp only[this,dif_pos];simp
 .rw[dif_neg h1];have:¬us.toArray.size=1:=by simpa using h1
  rw[dif_neg this]
def tp {func:Func} {U:St} {J:List PV} {tm:Array Value} {w:World} {K:Nat->Nat} {hv:Nat->Value} {O:Nat->Option Nat} {cs:List SV} (h:Rel w0 Oe J U tm w K hv O) {svs:List SV} (hsv:Md P U func.results.toList=some svs) (hs:Qx P U func.results.toList=some cs):
  ∃vs:Array Value,(Go.results func tm).run P w= .ok (.agg vs) w∧Cd ⟨J,C5 w O,K,hv,U.m⟩ cs vs.toList:=by
 have e:∀x:ResultVar,func.results.toList=[x]->∀v,(gR tm x).run P w= .ok v w->(Go.results func tm).run P w= .ok v w:=by
  intro x hx v hv1;have e:Go.results func tm=(do let vs<-List.toArray<$>func.results.toList.mapM (gR tm);pure (if h:vs.size=1 then vs[0] else .tuple vs)):=by
   unfold Go.results;rw[Array.mapM_eq_mapM_toList];have he:∀x,(match x with|ResultVar.tmp t=>pure (tm.getD t undef)|ResultVar.cell a t=>do loadVar t (<-asAddr (tm.getD a undef)):Sem Value)=gR tm x:=fun x=>by cases x<;>rfl
   congr
  rw[e,hx];simp[Kx,hv1,Result.andThen]
 unfold Qx at hs;split at hs
 .rename_i p t hr;split at hs
  .rename_i hag;split at hs
   .rename_i s off hp;split at hs
    .rename_i cs0 ro hb;injection hs with hs;subst hs;obtain⟨_,_,vs,T,g3,g4,g5,_⟩:=h.mem s _ hb;obtain⟨u0,h1,h2⟩:=h.tmps.get p _ hp;rw[B9] at h1;simp only[Cw] at h2;subst h2;have hle:off+Cj P t<=cs0.length:=by
      rw[hr] at hsv;simp only[Md,Ds3,hp] at hsv;unfold Qg at hsv;by_cases hle:off+Cj P t<=cs0.length
      .exact hle
      .simp only[hb,hag,if_true,if_neg hle] at hsv;split at hsv
       .rename_i hx _;split at hx
        .rename_i hl;split at hl<;>cases hl
        .cases hx
       .cases hsv
     have hlen:=g5.length;refine⟨((vs.toList.drop off).take (Cj P t)).toArray,e _ hr _ ?_,?_⟩
     .have:=L4 (P:=P) w (a:=⟨K s,off,none⟩) (us:=(vs.toList.drop off).take (Cj P t)) hag (by simp at hlen ⊢;omega) fun j u hu=>by
       rw[Cp] at hu;split at hu
       .rw[Cr,B9] at hu;rw[add_lit,cell_of_row w (K s) (off+j) vs T (0,0) g3];exact hu
       .cases hu
      simp[gR,Cg,h1,asAddr,this]
     .refine Cd.mk (by simp[hlen]) fun j y u hy hu=> ?_;rw[Cp] at hy;split at hy
      .rename_i hj;have hu':((vs.toList.drop off).take (Cj P t))[j]? =some u:=by simpa using hu
       rw[Cp,if_pos hj] at hu';rw[Cr] at hy hu';obtain⟨u',hu2,hr'⟩:=g5.get _ y hy;rw[hu'] at hu2;injection hu2 with hu2;subst hu2;exact hr'
      .cases hy
    .cases hs
   .cases hs
  .cases hs
 .rename_i t hr;split at hs
  .rename_i cs0 hp;injection hs with hs;subst hs;obtain⟨u0,h1,h2⟩:=h.tmps.get t _ hp;rw[B9] at h1;simp only[Cw] at h2;obtain⟨vs,rfl,_,h3⟩:=h2;exact⟨vs,e _ hr _ (by simp[gR,Cg,h1]),h3⟩
  .cases hs
 .cases hs
def rk (hC:Contract P sig fn) {f:Nat} (hmu:g8 (sig f)=none) {func:Func} {H:Hints} {t:T} {args rs:List PV} (hf:P.funcs[f]? =some func) (hx:Dl1 P sig f func H=some t) (hev:t.ev fn N args=some (.ret rs)) (hl:args.length=func.params.size+func.nfree) {w:World} {O:Nat->Option Nat} {cargs:Array Value} (hg:Given w O func.params.size args cargs) (hfa:∀e,Bv0 (sig f)=some e->∃xs b,args[0]? =some (.l (Cj P e) xs)∧cargs[0]? =some (.slice b xs.length xs.length)):
  Calls P f cargs w fun e w'=>∃v,e= .returned v∧Eh3 P (sig f) w O rs v w':=by
 unfold Dl1 at hx;split at hx
 .rename_i c hb;split at hx
  .rename_i ht;rw[hmu] at hx;simp only[bf,B5,false_and,if_false] at hx;refine calls_of_wp hf hb ?_;refine Rp hC c 0 0 (Qj P none (Bv0 (sig f)) func) _ t args (.ret rs) _ w _ hx hev (by rw[hl];rfl) (Dp8 hg hl ht hfa) ?_;intro x σ' T' η' I a' w' h1 h2 h3 h4 h5 h6;have main:∀svs,Md P σ' func.results.toList=some svs->(match rkOf (sig f) with
     | .own e=>Uy P σ' e svs
     | .ownt e=>Qh P σ' e svs
     | .full nl m=>match Qx P σ' func.results.toList with
       |some cs=>if Ab4 nl m cs then(Aj7 σ'.m svs).map fun r=> .ret r.1 else none
       |none=>none
     | .plain=>(Aj7 σ'.m svs).map fun r=> .ret r.1)=some T'->∃v,(Go.results func a'.tmps).run P w'= .ok v w'∧Eh3 P (sig f) w O rs v w':=by
    intro svs hs hT;obtain⟨K,hv,O',rel⟩:=h5;obtain⟨us,u1,u2⟩:=Vt rel hs;refine⟨_,u2,rel.bel.below rfl,?_⟩;have plainly:((Aj7 σ'.m svs).map fun r=>T.ret r.1)=some T'->∃O'',(∀c,c<w.heap.size->O'' c=O c)∧(∀c,w'.heap.size<=c->O'' c=none)∧N1 (C5 w' O'') rs (if h:us.length=1 then us[0] else .tuple us.toArray):=by
     intro hT;obtain⟨⟨es,ss⟩,he,rfl⟩:=Bs.1 hT;obtain⟨O'',hrel,hM,hop,_⟩:=rel.frz ss (n:=0);obtain⟨ps,q1,q2,q3⟩:=U9 rel hM he u1 (fun s hs=>hop s (by simpa using hs));simp only[T.ev,Bs] at h2;obtain⟨vs,hvs,hret⟩:=h2;injection hret with hret;subst hret;rw[q1] at hvs;injection hvs with hvs;subst hvs;refine⟨O'',fun c hc=>hrel.ext c hc (by simp[Fr.x]),hrel.out,?_⟩;show N1 (C5 w' O'') ps _
     match ps,us,q2,q3 with
     |[p],[u],_,q3=>exact q3 0 p u rfl rfl
     |[],[],_,_=>exact⟨#[],by simp,rfl,fun j p u hp=>by simp at hp⟩
     |p::p'::ps,u::u'::us,q2,q3=>
      have:¬(u::u'::us).length=1:=by simp
      rw[dif_neg this];exact⟨_,rfl,by simpa using q2.symm,fun j p v hp hv=>q3 j p v hp (by simpa using hv)⟩
     |[],_::_,q2,_=>simp at q2
     |_::_,[],q2,_=>simp at q2
     |[_],_::_::_,q2,_=>simp at q2
     |_::_::_,[_],q2,_=>simp at q2
    cases hsig:rkOf (sig f) with
    |plain=>
     rw[hsig] at hT;exact plainly hT
    |full nl m=>
     rw[hsig] at hT;simp only at hT;split at hT
     .rename_i cs hcs;split at hT
      .rename_i hmask;obtain⟨O'',g1,g2,g3⟩:=plainly hT;refine⟨O'',g1,g2,g3,?_⟩;have hagg:∃vs:Array Value,(Go.results func a'.tmps).run P w'= .ok (.agg vs) w'∧Cd ⟨η',C5 w' O',K,hv,σ'.m⟩ cs vs.toList:=tp rel hs hcs;obtain⟨vs,hrun,hcells⟩:=hagg;rw[u2] at hrun;injection hrun with hrun _;rw[hrun];intro j hj;simp only[Ab4,Bt,decide_eq_true_eq,Ds,Ih,Cz,Dp] at hmask;have hjl:j<cs.length:=by
        rcases Dl8 j cs.length with h|h
        .exact h
        .have:=Nat.testBit_lt_two_pow (Gl hmask.1 (Nat.pow_le_pow_right (by omega) h));rw[this] at hj;cases hj
       have hcj:cs[j]? =some cs[j]:=B3 hjl;obtain⟨u,hu,hru⟩:=hcells.get j _ hcj;rw[B9] at hu;have hnr:=(hmask.2 j hjl).resolve_left (by rw[hj];simp);have hgd:cs.getD j .und=cs[j]:=by simp[C4,hcj]
       rw[hgd] at hnr;generalize cs[j]=x at hru hnr;cases x with
       |nil sz=>
        simp only[Cw] at hru;exact⟨vs,none,0,rfl,by rw[hu,hru],fun _=>⟨rfl,rfl⟩⟩
       |lit sz y=>
        simp only[Cw] at hru;obtain⟨xs,b,_,h5,_⟩:=hru;refine⟨vs,b,xs.length,rfl,by rw[hu,h5],fun hn=> ?_⟩;rw[hn] at hnr;simp[SV.noRoom] at hnr
       |_=>simp[SV.noRoom] at hnr
      .cases hT
     .cases hT
    |ownt e=>
     rw[hsig] at hT;simp only at hT;refine⟨O',fun c hc=>rel.ext c hc (by simp[Fr.x]),rel.out,?_⟩;unfold Qh at hT;split at hT
     .rename_i s y;split at hT
      .rename_i e' sz x lk hb';split at hT
       .rename_i hcond;obtain⟨rfl,rfl⟩:=hcond;injection hT with hT;subst hT;obtain⟨q0,xs,cs,q1,q2,q3,q4,_⟩:=rel.mem s _ hb';have q1':x.ev η'=some (.l (Cj P e') xs):=q1;simp only[Cd,Cw] at u1;obtain⟨v,r,rfl,hv1,v2,r2,rfl,⟨p,hp,hrep⟩,rfl⟩:=u1;have hp':y.ev η'=some p:=hp;simp only[T.ev,E.evs,q1',hp',B0,Cc,Bn,Out.ret.injEq] at h2;refine⟨q0,xs,cs,p,v,v2,h2.symm,rfl,?_,q3,fun g hg'=> ?_,hrep⟩
        .rw[hv1];refine q2.mono fun g hg=> ?_;rcases hg with hg|hg
         .exact hg
         .simp[Fr.x] at hg
        .rw[hv1] at hg';obtain⟨_,lim,h7,_,h8⟩:=q4 g hg';rw[h7,h8 rfl]
       .cases hT
      .cases hT
     .rename_i sz y;split at hT
      .rename_i hcond;obtain⟨rfl,h0⟩:=hcond;injection hT with hT;subst hT;simp only[Cd,Cw] at u1;obtain⟨v,r,rfl,hv1,v2,r2,rfl,⟨p,hp,hrep⟩,rfl⟩:=u1;have hp':y.ev η'=some p:=hp;simp only[T.ev,E.evs,E.ev,hp',B0,Cc,Bn,Out.ret.injEq] at h2;refine⟨h0,[],[],p,v,v2,h2.symm,rfl,?_,fun i x hx=>by simp at hx,fun g hg'=> ?_,hrep⟩
       .rw[hv1];exact⟨by simp,.inl ⟨none,rfl,rfl⟩⟩
       .rw[hv1] at hg';simp[Dd] at hg'
      .cases hT
     .cases hT
    |own e=>
     rw[hsig] at hT;simp only at hT;refine⟨O',fun c hc=>rel.ext c hc (by simp[Fr.x]),rel.out,?_⟩;unfold Uy at hT;split at hT
     .rename_i s;split at hT
      .rename_i e' sz x lk hb';split at hT
       .rename_i hcond;obtain⟨rfl,rfl⟩:=hcond;injection hT with hT;subst hT;obtain⟨q0,xs,cs,q1,q2,q3,q4,_⟩:=rel.mem s _ hb';have q1':x.ev η'=some (.l (Cj P e') xs):=q1;simp only[T.ev,E.evs,q1',B0,Cc,Bn,Out.ret.injEq] at h2;simp only[Cd,Cw] at u1;obtain⟨v,r,rfl,hv1,rfl⟩:=u1;refine⟨q0,xs,cs,h2.symm,?_,q3,fun g hg'=> ?_⟩
        .show Own w' (Bz7 w.heap.size) e' (Cj P e') v xs.length cs;rw[hv1];refine q2.mono fun g hg=> ?_;rcases hg with hg|hg
         .exact hg
         .simp[Fr.x] at hg
        .have hg2:Dd v=some g:=hg';rw[hv1] at hg2;obtain⟨_,lim,h7,_,h8⟩:=q4 g hg2;rw[h7,h8 rfl]
       .cases hT
      .cases hT
     .rename_i sz;split at hT
      .rename_i hcond;obtain⟨rfl,h0⟩:=hcond;injection hT with hT;subst hT;simp only[T.ev,E.evs,E.ev,B0,Cc,Bn,Out.ret.injEq] at h2;simp only[Cd,Cw] at u1;obtain⟨v,r,rfl,hv1,rfl⟩:=u1;refine⟨h0,[],[],h2.symm,?_,fun i x hx=>by simp at hx,fun g hg'=> ?_⟩
       .show Own w' (Bz7 w.heap.size) e (Cj P e) v 0 [];rw[hv1];exact⟨by simp,.inl ⟨none,rfl,rfl⟩⟩
       .have hg2:Dd v=some g:=hg';rw[hv1] at hg2;simp[Dd] at hg2
      .cases hT
     .rename_i sz x;split at hT
      .rename_i hcond;obtain⟨rfl,h0⟩:=hcond;injection hT with hT;subst hT;simp only[Cd,Cw] at u1;obtain⟨v,r,rfl,hv1,rfl⟩:=u1;obtain⟨xs,b,hxe,hvb,_⟩:=hv1;have hxe':x.ev η'=some (.l (Cj P e) xs):=hxe;simp only[T.ev,W.ev,Gd2,E.ev,E.evs,hxe',H7,X.bin,Gd,B0,if_true] at h2;have hx0:xs=[]:=by
        by_cases hx0:xs=[]
        .exact hx0
        .have hl:((xs.length:Int)==0)=false:=by have:=Ct.2 hx0;simp;omega
         rw[hl] at h2;simp[PV.scal] at h2
       subst hx0;simp only[Cs] at h2;have hrs:[PV.l (Cj P e) []]=rs:=by simpa using h2
       refine⟨h0,[],[],hrs.symm,?_,fun i x hx=>by simp at hx,fun g hg'=> ?_⟩
       .show Own w' (Bz7 w.heap.size) e (Cj P e) v 0 [];rw[hvb];exact⟨by simp,.inl ⟨b,rfl,rfl⟩⟩
       .have hg2:Dd v=some g:=hg';rw[hvb] at hg2;cases b<;>simp[Dd] at hg2
      .cases hT
     .cases hT
   unfold Ft8 at h1;simp only[hmu] at h1;have fin:∀svs,Md P σ' func.results.toList=some svs->(match rkOf (sig f) with
     | .own e=>Uy P σ' e svs
     | .ownt e=>Qh P σ' e svs
     | .full nl m=>match Qx P σ' func.results.toList with
       |some cs=>if Ab4 nl m cs then(Aj7 σ'.m svs).map fun r=> .ret r.1 else none
       |none=>none
     | .plain=>(Aj7 σ'.m svs).map fun r=> .ret r.1)=some T'->a'.defers=[]∧∃v,(Go.results func a'.tmps).run P w'= .ok v w'∧∃v',Ending.returned v= .returned v'∧Eh3 P (sig f) w O rs v' w':=by
    intro svs hs hT;obtain⟨v,k1,k2⟩:=main svs hs hT;exact⟨h6,v,k1,v,rfl,k2⟩
   cases x with
   |exit b=>simp at h1
   |normal=>
    simp only at h1;split at h1
    .rename_i svs hs;exact fin svs hs h1
    .cases h1
   |ret=>
    simp only at h1;split at h1
    .rename_i svs hs;exact fin svs hs h1
    .cases h1
  .cases hx
 .cases hx
def Dm3 (hC:Contract P sig fn) {f e:Nat} {r:Bool} (hmu:g8 (sig f)=some (e,r)) {func:Func} {H:Hints} {t:T} {args rs:List PV} (hf:P.funcs[f]? =some func) (hx:Dl1 P sig f func H=some t) (hev:t.ev fn N args=some (.ret rs)) (hl:args.length=func.params.size+func.nfree) {w:World} {O:Nat->Option Nat} {cargs:Array Value} {v0:Value} {xs:List PV} {us:List Value} (hg:GivenM P e w O func.params.size args cargs v0 xs us):
  Calls P f cargs w fun en w'=>∃v,en= .returned v∧Eh2 P e r v0 w O rs v w':=by
 unfold Dl1 at hx;split at hx
 .rename_i c hb;split at hx
  .rename_i ht;rw[hmu,Dw8 hmu] at hx;have hpos:=hg.pos;have hnp:¬((some (e,r):Option (Nat×Bool)).isSome=true∧func.params.size=0):=fun h=>by omega
   rw[if_neg hnp] at hx;refine calls_of_wp hf hb ?_;refine Rp hC c 0 0 (Qj P (some (e,r)) none func) _ t args (.ret rs) _ w _ hx hev (by rw[hl];rfl) (Cq8 hg hl ht) ?_;intro x σ' T' η' I a' w' h1 h2 h3 h4 h5 h6;have main:∀svs,Md P σ' func.results.toList=some svs->Ab9 P σ' e r svs=some T'->∃v,(Go.results func a'.tmps).run P w'= .ok v w'∧Eh2 P e r v0 w O rs v w':=by
    intro svs hs hT;obtain⟨K,hv,O',rel⟩:=h5;obtain⟨us1,u1,u2⟩:=Vt rel hs;refine⟨_,u2,rel.bel,O',fun c hc hx=>rel.ext c hc hx,rel.out,?_⟩;unfold Ab9 at hT;split at hT
    .rename_i s hsel;split at hT
     .rename_i e' sz x lk hb';split at hT
      .rename_i hcond;obtain⟨rfl,rfl⟩:=hcond;injection hT with hT;subst hT;obtain⟨q0,ys,cs,q1,q2,q3,q4,_⟩:=rel.mem s _ hb';have q1':x.ev η'=some (.l (Cj P e') ys):=q1;simp only[T.ev,E.evs,q1',B0,Cc,Bn,Out.ret.injEq] at h2;refine⟨ys,cs,h2.symm,q3,fun hr=> ?_,fun hr=> ?_⟩
       .subst hr;simp only[if_true] at hsel;split at hsel
        .rename_i s';injection hsel with hsel;subst hsel;simp only[Cd,Cw] at u1;obtain⟨v,r1,rfl,hv1,rfl⟩:=u1;refine⟨?_,fun g hg'=> ?_⟩
         .show Own w' _ e' (Cj P e') v ys.length cs;rw[hv1];exact q2
         .have hg2:Dd v=some g:=hg';rw[hv1] at hg2;obtain⟨_,lim,h7,_,h8⟩:=q4 g hg2;rw[h7,h8 rfl]
        .cases hsel
       .subst hr;simp only[B5,if_false] at hsel;split at hsel
        .rename_i s' ht0;split at hsel
         .rename_i hs0;injection hsel with hsel;subst hsel;subst hs0;have hvs:hv S0=v0:=by have g1:=rel.t0 v0 rfl ht0;obtain⟨v,g2,g3⟩:=rel.tmps.get 0 _ ht0;rw[B9,g1] at g2;injection g2 with g2;simp only[Cw] at g3;rw[<-g3,g2]
          simp only[Cd] at u1;subst u1;refine⟨rfl,?_,fun g hg'=> ?_⟩
          .have:=q2.mono (B':=fun _=>True) fun _ _=>trivial;show Own w' _ e' (Cj P e') v0 ys.length cs;rw[<-hvs];exact this
          .have hg2:Dd (hv S0)=some g:=by rw[hvs];exact hg'
           obtain⟨_,lim,h7,_,h8⟩:=q4 g hg2;rw[h7,h8 rfl]
         .cases hsel
        .cases hsel
      .cases hT
     .cases hT
    .cases hT
   unfold Ft8 at h1;simp only[hmu] at h1;have fin:∀svs,Md P σ' func.results.toList=some svs->Ab9 P σ' e r svs=some T'->a'.defers=[]∧∃v,(Go.results func a'.tmps).run P w'= .ok v w'∧∃v',Ending.returned v= .returned v'∧Eh2 P e r v0 w O rs v' w':=by intro svs hs hT;obtain⟨v,k1,k2⟩:=main svs hs hT;exact⟨h6,v,k1,v,rfl,k2⟩
   cases x with
   |exit b=>simp at h1
   |normal=>
    simp only at h1;split at h1
    .rename_i svs hs;exact fin svs hs h1
    .cases h1
   |ret=>
    simp only at h1;split at h1
    .rename_i svs hs;exact fin svs hs h1
    .cases h1
  .cases hx
 .cases hx
def Bx9 (sig:Nat->Option Nat) (f:Nat) (func:Func):Nat:=func.params.size+if(g8 (sig f)).isSome||(Bv0 (sig f)).isSome then TAG else 0
def Tab (P:Program) (sig:Nat->Option Nat) (tab:Nat->Option FT):Prop:=
 (∀ f ft, tab f = some ft → ∃ func H, P.funcs[f]? = some func ∧ (func.name == "runtime.NumGoroutine") = false ∧ Bx9 sig f func = ft.np ∧ func.params.size < TAG ∧ func.nfree = ft.nf ∧ ∃ t, Dl1 P sig f func H = some t ∧ t.slim = ft.t) ∧ Ik0 P sig
def Ur {f:Nat} {func:Func} {H:Hints} {t:T} (hx:Dl1 P sig f func H=some t):func.body.isSome=true:=by
 unfold Dl1 at hx;split at hx
 .rename_i h;rw[h];rfl
 .cases hx
def Cx1 {tab:Nat->Option FT} {ext:Fns->Fns} (hT:Tab P sig tab) (hE:∀fn,Contract P sig fn->Contract P sig (ext fn)):∀k,Contract P sig (Vn tab ext k)
 |0=>⟨fun f n vs rs h=>by simp[Vn] at h,hT.2⟩
 |k+1=>by
  refine⟨fun f n vs rs h=> ?_,hT.2⟩
  ·
   have ih:=Cx1 hT hE k;simp only[Vn] at h;split at h
   .rename_i ft hft;split at h
    .rename_i hc;obtain⟨o,ho,h⟩:=Bl.1 h;split at h
     .rename_i vs';injection h with h;subst h;obtain⟨func,H,hf,hn,hp,hlt,hnf,t0,hx,hs⟩:=hT.1 f ft hft;rw[<-hs,Jj] at ho;obtain⟨hc1,hc2⟩:=hc;unfold Bx9 at hp;refine⟨fun hn1 w O args hg=> ?_,fun hn1=> ?_⟩
      .have hno:((g8 (sig f)).isSome||(Bv0 (sig f)).isSome)=false:=by
        cases hb:((g8 (sig f)).isSome||(Bv0 (sig f)).isSome) with
        |false=>rfl
        |true=>
         rw[hb] at hp;simp only[if_true] at hp;omega
       rw[hno] at hp;simp only[B5,if_false,G6] at hp;simp only[Bb1,Option.isSome_eq_false_iff,D5] at hno;obtain⟨hmu,hfa⟩:=hno;refine I5.of_calls hf hn (Ur hx) ?_;refine rk ih hmu hf hx ho ?_ (by rw[hp,hc1];exact hg) (fun e he=>by rw[hfa] at he;cases he);rw[hc2,<-hp,Fj hlt,hnf]
      .have hyes:((g8 (sig f)).isSome||(Bv0 (sig f)).isSome)=true:=by
        cases hb:((g8 (sig f)).isSome||(Bv0 (sig f)).isSome) with
        |true=>rfl
        |false=>
         rw[hb] at hp;simp only[B5,if_false] at hp;omega
       rw[hyes] at hp;simp only[if_true] at hp;have e1:n - TAG=func.params.size:=by omega
       have e2:(func.params.size+TAG) % TAG=func.params.size:=by rw[Nat.add_mod_right];exact Fj hlt
       cases hmu:g8 (sig f) with
       |some er=>
        obtain⟨e,r⟩:=er;refine .inl ⟨e,r,rfl,fun w O args v0 xs us hg=> ?_⟩;refine I5.of_calls hf hn (Ur hx) ?_;rw[e1] at hg;refine Dm3 ih hmu hf hx ho ?_ hg;rw[hc2,<-hp,e2,hnf]
       |none=>
        rw[hmu] at hyes;simp only[bf,Hb] at hyes;obtain⟨e,hfa⟩:=Dt.1 hyes;refine .inr ⟨e,hfa,fun w O args b xs hg h0 h5=> ?_⟩;refine I5.of_calls hf hn (Ur hx) ?_;rw[e1] at hg;refine rk ih hmu hf hx ho ?_ hg (fun e' he=> ?_)
        .rw[hc2,<-hp,e2,hnf]
        .rw[hfa] at he;injection he with he;subst he;exact⟨xs,b,h0,h5⟩
     .cases h
    .cases h
   .exact(hE _ ih).says f n vs rs h
end
open Go
def Fle (fn fn':Fns):Prop:=∀f n vs rs,fn f n vs=some rs->fn' f n vs=some rs
def Fle.refl (fn:Fns):Fle fn fn:=fun _ _ _ _ h=>h
def Fle.trans {a b c:Fns} (h:Fle a b) (h':Fle b c):Fle a c:=fun f n vs rs e=>h' f n vs rs (h f n vs rs e)
def R5 {flat:Bool} {m:Nat} {J η':List PV} {r r':Option (List PV)} (hr:∀rs,r=some rs->r'=some rs) (h:results flat m J r=some η'):results flat m J r'=some η':=by unfold results at h ⊢;obtain⟨rs,h1,h2⟩:=Bl.1 h;rw[hr rs h1];exact h2
def Z8 {J η':List PV} {m:Nat} {g:Option E} {r r':Option (List PV)} (hr:∀x,r=some x->r'=some x) (h:Gb J m g r=some η'):Gb J m g r'=some η':=by
 unfold Gb at h ⊢;split at h
 .exact hr _ h
 .obtain⟨v,h1,h2⟩:=Bl.1 h;rw[h1];simp only[B0];split at h2
  .exact hr _ h2
  .exact h2
  .cases h2
def W.ev_le {fn fn':Fns} (hf:Fle fn fn') {J η':List PV}:∀{x:W},x.ev fn J=some η'->x.ev fn' J=some η'
 | .chk x,h=>h
 | .call g flat f ar m,h=>by simp only[W.ev] at h ⊢;refine Z8 (fun x hx=> ?_) h;obtain⟨vs,h1,h2⟩:=Bl.1 hx;rw[h1];exact R5 (fun rs hr=>hf _ _ _ _ hr) h2
 | .clo g flat c ar m,h=>by
   simp only[W.ev] at h ⊢;refine Z8 (fun x hx=> ?_) h;obtain⟨q,h0,hx⟩:=Bl.1 hx;obtain⟨vs,h1,h2⟩:=Bl.1 hx;rw[h0];simp only[B0];rw[h1];simp only[B0];split at h2
   .exact R5 (fun rs hr=>hf _ _ _ _ hr) h2
   .cases h2
 | .mcall f ar,h=>by simp only[W.ev] at h ⊢;obtain⟨vs,h1,h2⟩:=Bl.1 h;rw[h1];exact R5 (fun rs hr=>hf _ _ _ _ hr) h2
def Vr {s s':List PV->Option Out} (hs:∀vs o,s vs=some o->s' vs=some o) {id:Nat}:∀{n n':Nat} {st:List PV} {o:Out},n<=n'->H4 s id n st=some o->H4 s' id n' st=some o
 |0,_,_,_,_,h=>by simp[H4] at h
 |n+1,0,_,_,hn,_=>by omega
 |n+1,n'+1,st,o,hn,h=>by
  simp only[H4] at h ⊢;obtain⟨o1,h1,h2⟩:=Bl.1 h;rw[hs _ _ h1];simp only[B0];split at h2
  .split at h2
   .rename_i hj;rw[if_pos hj];exact Vr hs (by omega) h2
   .rename_i hj;rw[if_neg hj];exact h2
  .exact h2
def T.ev_le {fn fn':Fns} (hf:Fle fn fn') {N N':Nat} (hN:N<=N'):∀{t:T} {J:List PV} {o:Out},t.ev fn N J=some o->t.ev fn' N' J=some o
 | .w x k,J,o,h=>by simp only[T.ev] at h ⊢;obtain⟨η',h1,h2⟩:=Bl.1 h;rw[W.ev_le hf h1];exact T.ev_le hf hN h2
 | .ite c t e,J,o,h=>by
   simp only[T.ev] at h ⊢;obtain⟨r,h1,h2⟩:=Bl.1 h;rw[h1];simp only[B0];split at h2
   .exact T.ev_le hf hN h2
   .exact T.ev_le hf hN h2
   .cases h2
 | .ret es,J,o,h=>h
 | .yld id es,J,o,h=>h
 | .blk id body k,J,o,h=>by
   simp only[T.ev] at h ⊢;obtain⟨o1,h1,h2⟩:=Bl.1 h;rw[T.ev_le hf hN h1];simp only[B0];split at h2
   .split at h2
    .rename_i hj;rw[if_pos hj];exact T.ev_le hf hN h2
    .rename_i hj;rw[if_neg hj];exact h2
   .exact h2
 | .loop id init body,J,o,h=>by simp only[T.ev] at h ⊢;obtain⟨st,h1,h2⟩:=Bl.1 h;rw[h1];exact Vr (fun vs o ho=>T.ev_le hf hN ho) hN h2
def Lb (ext:Fns->Fns):Prop:=∀fn fn',Fle fn fn'->Fle (ext fn) (ext fn')
section
variable {tab:Nat->Option FT} {ext:Fns->Fns}
def kf (hE:Lb ext):∀k,Fle (Vn tab ext k) (Vn tab ext (k+1))
 |0=>fun f n vs rs h=>by simp[Vn] at h
 |k+1=>fun f n vs rs h=>by
  have ih:=kf hE k;rw[Vn] at h ⊢;cases ht:tab f with
  |none=>simp only[ht] at h ⊢;exact hE _ _ ih _ _ _ _ h
  |some t=>
   simp only[ht] at h ⊢;split at h
   .rename_i hc;rw[if_pos hc];obtain⟨o,h1,h2⟩:=Bl.1 h;rw[T.ev_le ih (Nat.le_succ k) h1];exact h2
   .cases h
def L0 (hE:Lb ext) {k k':Nat} (h:k<=k'):Fle (Vn tab ext k) (Vn tab ext k'):=by
 induction h with
 |refl=>exact Fle.refl _
 |step _ ih=>exact ih.trans (kf hE _)
open Classical in
noncomputable def sem (tab:Nat->Option FT) (ext:Fns->Fns):Fns:=fun f n args=>
 if h:∃rs k,Vn tab ext k f n args=some rs then some h.choose else none
def Vl (hE:Lb ext) {f n:Nat} {args rs:List PV}:sem tab ext f n args=some rs↔∃k,Vn tab ext k f n args=some rs:=by
 unfold sem;constructor
 .intro h;split at h
  .rename_i hex;injection h with h;subst h;exact hex.choose_spec
  .cases h
 .rintro⟨k,hk⟩;have hex:∃rs k,Vn tab ext k f n args=some rs:=⟨rs,k,hk⟩;rw[dif_pos hex];obtain⟨k',hk'⟩:=hex.choose_spec;have h1:=L0 hE (Ht1 k k') _ _ _ _ hk;have h2:=L0 hE (Dl9 k k') _ _ _ _ hk';rw[h1] at h2;exact h2.symm
def W.ev_cont (hE:Lb ext) {J η':List PV}:∀{x:W},x.ev (sem tab ext) J=some η'->∃k,x.ev (Vn tab ext k) J=some η':=by
 have res:∀{flat:Bool} {m f n:Nat} {vs:List PV},results flat m J (sem tab ext f n vs)=some η'->∃k,results flat m J (Vn tab ext k f n vs)=some η':=by intro flat m f n vs h;unfold results at h;obtain⟨rs,h1,h2⟩:=Bl.1 h;obtain⟨k,hk⟩:=(Vl hE).1 h1;exact⟨k,by unfold results;rw[hk];exact h2⟩
 intro x h;cases x with
 |chk x=>exact⟨0,h⟩
 |call g flat f ar m=>
  simp only[W.ev] at h ⊢;unfold Gb at h ⊢;split at h
  .obtain⟨vs,h1,h2⟩:=Bl.1 h;obtain⟨k,hk⟩:=res h2;exact⟨k,by rw[h1];exact hk⟩
  .obtain⟨v,h0,h⟩:=Bl.1 h;split at h
   .obtain⟨vs,h1,h2⟩:=Bl.1 h;obtain⟨k,hk⟩:=res h2;exact⟨k,by rw[h0];simp only[B0];rw[h1];exact hk⟩
   .exact⟨0,by rw[h0];exact h⟩
   .cases h
 |clo g flat c ar m=>
  have body:((c.ev J).bind fun q=>(E.evs J ar).bind fun vs=>match q with| .f f caps=>results flat m J (sem tab ext f vs.length (vs++caps))|_=>none)=some η'->∃k,((c.ev J).bind fun q=>(E.evs J ar).bind fun vs=>match q with| .f f caps=>results flat m J (Vn tab ext k f vs.length (vs++caps))|_=>none)=some η':=by
   intro hh;obtain⟨q,h0,hh⟩:=Bl.1 hh;obtain⟨vs,h1,hh⟩:=Bl.1 hh;cases q with
   |f f caps=>
    obtain⟨k,hk⟩:=res hh;exact⟨k,by rw[h0];simp only[B0];rw[h1];exact hk⟩
   |_=>simp at hh
  simp only[W.ev] at h ⊢;unfold Gb at h ⊢;split at h
  .exact body h
  .obtain⟨v,h0,h⟩:=Bl.1 h;split at h
   .obtain⟨k,hk⟩:=body h;exact⟨k,by rw[h0];exact hk⟩
   .exact⟨0,by rw[h0];exact h⟩
   .cases h
 |mcall f ar=>
  simp only[W.ev] at h ⊢;obtain⟨vs,h1,h2⟩:=Bl.1 h;obtain⟨k,hk⟩:=res h2;exact⟨k,by rw[h1];exact hk⟩
def T.ev_cont (hE:Lb ext) {N:Nat}:∀{t:T} {J:List PV} {o:Out},t.ev (sem tab ext) N J=some o->∃k,t.ev (Vn tab ext k) N J=some o
 | .w x t,J,o,h=>by simp only[T.ev] at h ⊢;obtain⟨η',h1,h2⟩:=Bl.1 h;obtain⟨k1,g1⟩:=W.ev_cont hE h1;obtain⟨k2,g2⟩:=T.ev_cont hE h2;refine⟨max k1 k2,?_⟩;rw[W.ev_le (L0 hE (Ht1 k1 k2)) g1];exact T.ev_le (L0 hE (Dl9 k1 k2)) (B7 _) g2
 | .ite c t e,J,o,h=>by
   simp only[T.ev] at h ⊢;obtain⟨r,h1,h2⟩:=Bl.1 h;split at h2
   .obtain⟨k,g⟩:=T.ev_cont hE h2;exact⟨k,by rw[h1];exact g⟩
   .obtain⟨k,g⟩:=T.ev_cont hE h2;exact⟨k,by rw[h1];exact g⟩
   .cases h2
 | .ret es,J,o,h=>⟨0,h⟩
 | .yld id es,J,o,h=>⟨0,h⟩
 | .blk id body t,J,o,h=>by
   simp only[T.ev] at h ⊢;obtain⟨o1,h1,h2⟩:=Bl.1 h;obtain⟨k1,g1⟩:=T.ev_cont hE h1;split at h2
   .split at h2
    .rename_i hj;obtain⟨k2,g2⟩:=T.ev_cont hE h2;refine⟨max k1 k2,?_⟩;rw[T.ev_le (L0 hE (Ht1 k1 k2)) (B7 _) g1];simp only[B0];rw[if_pos hj];exact T.ev_le (L0 hE (Dl9 k1 k2)) (B7 _) g2
    .rename_i hj;exact⟨k1,by rw[g1];simp only[B0];rw[if_neg hj];exact h2⟩
   .exact⟨k1,by rw[g1];exact h2⟩
 | .loop id init body,J,o,h=>by
   simp only[T.ev] at h ⊢;obtain⟨st,h1,h2⟩:=Bl.1 h;have key:∀(n:Nat) (st:List PV),H4 (fun vs=>body.ev (sem tab ext) N (J++vs)) id n st=some o->∃k,H4 (fun vs=>body.ev (Vn tab ext k) N (J++vs)) id n st=some o:=by
    intro n
    induction n with
    |zero=>intro st h;simp[H4] at h
    |succ n ih=>
     intro st h;simp only[H4] at h ⊢;obtain⟨o1,h1,h2⟩:=Bl.1 h;obtain⟨k1,g1⟩:=T.ev_cont hE h1;split at h2
     .split at h2
      .rename_i hj;obtain⟨k2,g2⟩:=ih _ h2;refine⟨max k1 k2,?_⟩;rw[T.ev_le (L0 hE (Ht1 k1 k2)) (B7 _) g1];simp only[B0];rw[if_pos hj];exact Vr (fun vs o ho=>T.ev_le (L0 hE (Dl9 k1 k2)) (B7 _) ho) (B7 _) g2
      .rename_i hj;exact⟨k1,by rw[g1];simp only[B0];rw[if_neg hj];exact h2⟩
     .exact⟨k1,by rw[g1];exact h2⟩
   obtain⟨k,g⟩:=key N st h2;exact⟨k,by rw[h1];exact g⟩
def Fn5 (hE:Lb ext) {f n N:Nat} {ft:FT} {args rs:List PV} (ht:tab f=some ft) (hn:ft.np=n) (hl:args.length=ft.np % TAG+ft.nf) (h:ft.t.ev (sem tab ext) N args=some (.ret rs)):sem tab ext f n args=some rs:=by obtain⟨k,hk⟩:=T.ev_cont hE h;refine(Vl hE).2 ⟨max k N+1,?_⟩;rw[Vn];simp only[ht];rw[if_pos ⟨hn,hl⟩,T.ev_le (L0 hE (Ht1 k N)) (Dl9 k N) hk];rfl
end
inductive Sh where
 |b|i (k:IntKind)|s
 |l (e:Sh)
 |st (fs:List Sh)
 deriving Inhabited
mutual
def Sh.size:Sh->Nat
 | .st fs=>Sh.sizes fs
 |_=>1
def Sh.sizes:List Sh->Nat
 |[]=>0
 |f::fs=>f.size+Sh.sizes fs
end
def Sh.agg:Sh->Bool
 | .st _=>true
 |_=>false
mutual
def Sh.okC:Sh->List PV->Prop
 | .b,cs=>∃x,cs=[.b x]
 | .i k,cs=>∃n,cs=[.i k n]∧k.min<=n∧n<=k.max
 | .s,cs=>∃x,cs=[.s x]∧x.length<=maxLen
 | .l e,cs=>∃xs,cs=[.l e.size xs]∧xs.length<=maxLen∧∀x,x∈xs->if e.agg then∃ds,x= .a ds∧e.okC ds else x.scal=true∧e.okC [x]
 | .st fs,cs=>Sh.okCs fs cs
def Sh.okCs:List Sh->List PV->Prop
 |[],cs=>cs=[]
 |f::fs,cs=>∃a b,cs=a++b∧f.okC a∧Sh.okCs fs b
end
def Sh.ok (sh:Sh) (p:PV):Prop:=if sh.agg then∃ds,p= .a ds∧sh.okC ds else p.scal=true∧sh.okC [p]
mutual
def Sh.okC_len:∀(sh:Sh) (cs:List PV),sh.okC cs->cs.length=sh.size
 | .b,cs,h=>by simp only[Sh.okC] at h;obtain⟨x,rfl⟩:=h;rfl
 | .i k,cs,h=>by simp only[Sh.okC] at h;obtain⟨n,rfl,_⟩:=h;rfl
 | .s,cs,h=>by simp only[Sh.okC] at h;obtain⟨x,rfl,_⟩:=h;rfl
 | .l e,cs,h=>by simp only[Sh.okC] at h;obtain⟨x,rfl,_⟩:=h;rfl
 | .st fs,cs,h=>by simp only[Sh.okC] at h;simp only[Sh.size];exact Sh.okCs_len fs cs h
def Sh.okCs_len:∀(fs:List Sh) (cs:List PV),Sh.okCs fs cs->cs.length=Sh.sizes fs
 |[],cs,h=>by simp only[Sh.okCs] at h;subst h;rfl
 |f::fs,cs,h=>by simp only[Sh.okCs] at h;obtain⟨a,b,rfl,h1,h2⟩:=h;rw[Bp,Sh.okC_len f a h1,Sh.okCs_len fs b h2];rfl
end
def Qk (P:Program) (f:TypeId->Option Sh):List Field->Nat->Option (List Sh)
 |[],_=>some []
 |x::fs,off=>if x.offset=off then match f x.type with
  |some sh=>if P.cellsOf x.type=sh.size then(Qk P f fs (off+sh.size)).map (sh::·) else none
  |none=>none
  else none
def Cv4 (P:Program):Nat->TypeId->Option Sh
 |0,_=>none
 |d+1,t=>match P.underlying t with
  |some .bool=>some .b
  |some (.int k)=>some (.i k)
  |some .string=>some .s
  |some (.slice e)=>match Cv4 P d e with
   |some sh=>if P.cellsOf e=sh.size then some (.l sh) else none
   |none=>none
  |some (.struct fs)=>match Qk P (Cv4 P d) fs.toList 0 with
   |some shs=>if P.cellsOf t=Sh.sizes shs then some (.st shs) else none
   |none=>none
  |some (.array n e)=>match Cv4 P d e with
   |some sh=>if P.cellsOf e=sh.size then(if P.cellsOf t=n*sh.size then some (.st (List.replicate n sh)) else none) else none
   |none=>none
  |_=>none
def d4 {D K:Type} {f:D->Option K}:∀{l:List D} {ys:List K},l.mapM f=some ys->ys.length=l.length∧∀(i:Nat) (x:D) (y:K),l[i]? =some x->ys[i]? =some y->f x=some y
 |[],ys,h=>by simp at h;subst h;exact⟨rfl,fun i x y hx=>by simp at hx⟩
 |x::l,ys,h=>by
  simp only[Kx,T8,Bl,ib,Bn] at h;obtain⟨y,hy,r,hr,rfl⟩:=h;obtain⟨h1,h2⟩:=d4 hr;refine⟨by simp[h1],fun i a b ha hb=> ?_⟩;cases i with
  |zero=>simp at ha hb;subst ha;subst hb;exact hy
  |succ i=>exact h2 i a b (by simpa using ha) (by simpa using hb)
def Sq (agg:Bool) (cs:List PV):PV:=if agg then .a cs else cs.headD .u
abbrev Ws:Nat->Option Nat:=fun _=>none
def qv (M:Vw) (pcs:List PV) (cs:List Value):Prop:=pcs.length=cs.length∧∀(j:Nat) (p:PV) (v:Value),pcs[j]? =some p->cs[j]? =some v->One v∧Rep M p v
def qv.append {M:Vw} {p q:List PV} {c d:List Value} (h:qv M p c) (h':qv M q d):qv M (p++q) (c++d):=by
 refine⟨by simp[h.1,h'.1],fun j x v hx hv=> ?_⟩;rw[List.getElem?_append] at hx hv;rw[h.1] at hx;split at hx
 .rename_i hj;rw[if_pos hj] at hv;exact h.2 j x v hx hv
 .rename_i hj;rw[if_neg hj] at hv;exact h'.2 _ x v hx hv
def qv.one {M:Vw} {p:PV} {v:Value} (h1:One v) (h:Rep M p v):qv M [p] [v]:=
 ⟨rfl,fun j q u hq hu=>by cases j with
  |zero=>simp at hq hu;subst hq;subst hu;exact⟨h1,h⟩
  |succ j=>simp at hq⟩
def dm {e:Sh} (he:e.agg=false) {cs:List PV} (h:e.okC cs):∃p,cs=[p]∧p.scal=true:=by
 cases e with
 |b=>simp only[Sh.okC] at h;obtain⟨x,rfl⟩:=h;exact⟨_,rfl,rfl⟩
 |i k=>simp only[Sh.okC] at h;obtain⟨n,rfl,_⟩:=h;exact⟨_,rfl,rfl⟩
 |s=>simp only[Sh.okC] at h;obtain⟨n,rfl,_⟩:=h;exact⟨_,rfl,rfl⟩
 |l e=>simp only[Sh.okC] at h;obtain⟨n,rfl,_⟩:=h;exact⟨_,rfl,rfl⟩
 |st fs=>simp[Sh.agg] at he
def dp {e:Sh} {cs:List PV} (h:e.okC cs):(Sq e.agg cs).cells=cs:=by
 cases he:e.agg with
 |true=>rfl
 |false=>
  obtain⟨p,rfl,hp⟩:=dm he h;exact PV.scal_cells hp
def cells?_get {w:World} {base:Nat} {a:Addr} {n:Nat} {cs:List Value} (h:w.cells? base a n=some cs):cs.length=n∧∀j v,cs[j]? =some v->w.cell? (a.add j)=some v:=by
 unfold World.cells? at h;split at h
 .obtain⟨h1,h2⟩:=d4 h;simp only[zm] at h1;refine⟨h1,fun j v hv=> ?_⟩;have hj:j<n:=by rw[<-h1];exact(Br.1 hv).1
  exact h2 j j v (Dn hj) hv
 .cases h
def cg {H:Type} {enc:TypeId×Value->H} {P:Program} {w:World} {base:Nat} {spare:Nat->Bool} {held:Bool}:∀(fuel d:Nat) (t:TypeId) (sh:Sh) (cs:List Value) (x:DataW H×List MemPlace),Cv4 P d t=some sh->DataW.trod enc P w base spare held fuel t cs=some x->
  ∃pcs,sh.okC pcs∧qv (C5 w Ws) pcs cs
 |0,d,t,sh,cs,x,hs,h=>by simp[DataW.trod] at h
 |fuel+1,0,t,sh,cs,x,hs,h=>by simp[Cv4] at hs
 |fuel+1,d+1,t,sh,cs,x,hs,h=>by
  simp only[Cv4] at hs;split at hs
  .rename_i hu;injection hs with hs;subst hs;simp only[DataW.trod,hu] at h;split at h<;>first|(rename_i heq;simp at heq;done)|(cases h;done)|skip
   exact⟨_,⟨_,rfl⟩,qv.one rfl (.b _)⟩
  .rename_i k hu;injection hs with hs;subst hs;simp only[DataW.trod,hu] at h;split at h<;>first|(rename_i heq;simp at heq;done)|(cases h;done)|skip
   rename_i k1 k2 n heq;injection heq with heq;injection heq with heq;subst heq;split at h
   .rename_i hc;obtain⟨rfl,hwf⟩:=hc;simp only[Lit.wf,Bt,decide_eq_true_eq] at hwf;exact⟨_,⟨_,rfl,hwf⟩,qv.one rfl (.i _ _)⟩
   .cases h
  .rename_i hu;injection hs with hs;subst hs;simp only[DataW.trod,hu] at h;split at h<;>first|(rename_i heq;simp at heq;done)|(cases h;done)|skip
   rename_i s heq;split at h
   .rename_i hc;refine⟨_,⟨s.data.toList,rfl,?_⟩,qv.one rfl (.s _ _ rfl)⟩;rw[Dv];exact hc
   .cases h
  ·-- a slice
   rename_i e hu;split at hs
   .rename_i she hse;split at hs
    .rename_i hsz;injection hs with hs;subst hs;simp only[DataW.trod,hu] at h;split at h<;>first|(rename_i heq;simp at heq;done)|(cases h;done)|skip
     .exact⟨_,⟨[],rfl,Dz _,fun x hx=>by simp at hx⟩,qv.one rfl (Rep.lnil _ _ _ _)⟩
     .rename_i e' a len cap heq;injection heq with heq;injection heq with heq;subst heq;split at h
      .rename_i hc;obtain⟨elems,hel,_⟩:=Bl.1 h;obtain⟨hl,hget⟩:=d4 hel;simp only[zm] at hl;have each:∀i,i<len->∃ecs pcs,w.cells? base (a.add (i*P.cellsOf e)) (P.cellsOf e)=some ecs∧she.okC pcs∧qv (C5 w Ws) pcs ecs:=by intro i hi;have hx:elems[i]? =some (elems[i]'(by omega)):=B3 (by omega);have:=hget i i _ (Dn hi) hx;obtain⟨ecs,h1,h2⟩:=Bl.1 this;obtain⟨pcs,h3,h4⟩:=cg fuel d e she ecs _ hse h2;exact⟨ecs,pcs,h1,h3,h4⟩
       have pick:∃f:Nat->List PV×List Value,∀i,i<len->w.cells? base (a.add (i*P.cellsOf e)) (P.cellsOf e)=some (f i).2∧she.okC (f i).1∧qv (C5 w Ws) (f i).1 (f i).2:=by
        have:∀i,∃y:List PV×List Value,i<len->w.cells? base (a.add (i*P.cellsOf e)) (P.cellsOf e)=some y.2∧she.okC y.1∧qv (C5 w Ws) y.1 y.2:=by
         intro i;by_cases hi:i<len
         .obtain⟨ecs,pcs,h1,h2,h3⟩:=each i hi;exact⟨(pcs,ecs),fun _=>⟨h1,h2,h3⟩⟩
         .exact⟨default,fun h=>absurd h hi⟩
        exact⟨fun i=>(this i).choose,fun i hi=>(this i).choose_spec hi⟩
       obtain⟨f,hf⟩:=pick;have hsz':P.cellsOf e=she.size:=hsz;have hxs:∀(i:Nat) (x:PV),((List.range len).map fun i=>Sq she.agg (f i).1)[i]? =some x->i<len∧x=Sq she.agg (f i).1∧x.cells=(f i).1:=by
        intro i x hx;simp only[Dk,Bs] at hx;obtain⟨k,hk,rfl⟩:=hx;have hi:i<len:=by have:=(Br.1 hk).1;simpa using this
        rw[Dn hi] at hk;injection hk with hk;subst hk;exact⟨hi,rfl,dp (hf i hi).2.1⟩
       have hlen:((List.range len).map fun i=>Sq she.agg (f i).1).length=len:=by simp
       refine⟨[.l she.size ((List.range len).map fun i=>Sq she.agg (f i).1)],⟨_,rfl,by rw[hlen];omega,fun x hx=> ?_⟩,qv.one rfl ?_⟩
       .obtain⟨i,hi⟩:=F4 hx;obtain⟨h1,h2,h3⟩:=hxs i x hi;cases he:she.agg with
        |true=>
         simp only[if_true];exact⟨(f i).1,by rw[h2,he];rfl,(hf i h1).2.1⟩
        |false=>
         simp only[B5,if_false];obtain⟨p,hp,hps⟩:=dm he (hf i h1).2.1;have:x=p:=by rw[h2,he,hp];rfl
         subst this;exact⟨hps,by rw[<-hp];exact(hf i h1).2.1⟩
       .have:=Rep.l (M:=C5 w Ws) she.size ((List.range len).map fun i=>Sq she.agg (f i).1) (some a) cap a (fun i j=>(f i).2.getD j undef) (by rw[hlen];exact hc.2.1) (fun _=>rfl)
         (fun i x hx=>by obtain⟨h1,h2,h3⟩:=hxs i x hx;rw[h3];exact Sh.okC_len _ _ (hf i h1).2.1) ?_ ?_ ?_
        .rw[hlen] at this;exact this
        all_goals
         intro i x j c hx hcj;obtain⟨h1,h2,h3⟩:=hxs i x hx;obtain⟨g1,g2,g3⟩:=hf i h1;rw[h3] at hcj;obtain⟨c1,c2⟩:=cells?_get g1;have hj:j<(f i).2.length:=by rw[<-g3.1];exact(Br.1 hcj).1
         have hv:(f i).2[j]? =some ((f i).2[j]):=B3 hj;have hd:(f i).2.getD j undef=(f i).2[j]:=by rw[C4,hv];rfl
        .rw[hd];refine F8 ?_ (fun lim hl=>by cases hl);rw[<-hsz',<-Addr.add_add];exact c2 j _ hv
        .rw[hd];exact(g3.2 j c _ hcj hv).1
        .rw[hd];exact(g3.2 j c _ hcj hv).2
      .cases h
    .cases hs
   .cases hs
  ·-- a struct
   rename_i fs hu;split at hs
   .rename_i shs hshs;split at hs
    .rename_i hsz;injection hs with hs;subst hs;have h':∃ys,cs.length=P.cellsOf t∧(fs.toList.mapM fun f=>DataW.trod enc P w base spare held fuel f.type ((cs.drop f.offset).take (P.cellsOf f.type)))=some ys:=by
      simp only[DataW.trod,hu] at h;by_cases hl:cs.length=P.cellsOf t
      .rw[if_pos hl] at h;obtain⟨ys,hy,_⟩:=Bs.1 h;exact⟨ys,hl,hy⟩
      .rw[if_neg hl] at h;cases h
     obtain⟨ys,hlen,hys⟩:=h';have go:∀(l:List Field) (off:Nat) (shs:List Sh) (ys:List (DataW H×List MemPlace)),Qk P (Cv4 P d) l off=some shs->(l.mapM fun f=>DataW.trod enc P w base spare held fuel f.type ((cs.drop f.offset).take (P.cellsOf f.type)))=some ys->cs.length=off+Sh.sizes shs->
       ∃pcs,Sh.okCs shs pcs∧qv (C5 w Ws) pcs (cs.drop off):=by
      intro l
      induction l with
      |nil=>
       intro off shs ys h1 h2 h3;simp only[Qk,Bn] at h1;subst h1;refine⟨[],rfl,?_⟩;have:cs.drop off=[]:=Im (by simp only[Sh.sizes] at h3;omega);rw[this];exact⟨rfl,fun j p v hp=>by simp at hp⟩
      |cons fl l ih=>
       intro off shs ys h1 h2 h3;simp only[Qk] at h1;split at h1
       .rename_i hoff;subst hoff;split at h1
        .rename_i sh hsh;split at h1
         .rename_i hsize;obtain⟨rest,hrest,rfl⟩:=Bs.1 h1;simp only[Kx,T8,Bl,ib,Bn] at h2;obtain⟨y,hy,r,hr,rfl⟩:=h2;obtain⟨pcs,p1,p2⟩:=cg fuel d fl.type sh _ _ hsh hy;simp only[Sh.sizes] at h3;obtain⟨qcs,q1,q2⟩:=ih (fl.offset+sh.size) rest r hrest hr (by omega);refine⟨pcs++qcs,⟨pcs,qcs,rfl,p1,q1⟩,?_⟩;have e:cs.drop fl.offset=(cs.drop fl.offset).take (P.cellsOf fl.type)++cs.drop (fl.offset+sh.size):=by rw[hsize,<-Fy,C8]
          rw[e];exact p2.append q2
         .cases h1
        .cases h1
       .cases h1
     obtain⟨pcs,p1,p2⟩:=go fs.toList 0 shs ys hshs hys (by omega);exact⟨pcs,p1,by simpa using p2⟩
    .cases hs
   .cases hs
  ·-- an array
   rename_i n e hu;split at hs
   .rename_i sh hse;split at hs
    .rename_i hsz;split at hs
     .rename_i hsz2;injection hs with hs;subst hs;have h':∃ys,cs.length=P.cellsOf t∧((List.range n).mapM fun i=>DataW.trod enc P w base spare held fuel e ((cs.drop (i*P.cellsOf e)).take (P.cellsOf e)))=some ys:=by
       simp only[DataW.trod,hu] at h;by_cases hl:cs.length=P.cellsOf t
       .rw[if_pos hl] at h;obtain⟨ys,hy,_⟩:=Bs.1 h;exact⟨ys,hl,hy⟩
       .rw[if_neg hl] at h;cases h
      obtain⟨ys,hlen,hys⟩:=h';have go:∀(m off:Nat) (ys:List (DataW H×List MemPlace)),((List.range' off m).mapM fun i=>DataW.trod enc P w base spare held fuel e ((cs.drop (i*P.cellsOf e)).take (P.cellsOf e)))=some ys->cs.length=off*sh.size+m*sh.size->
        ∃pcs,Sh.okCs (List.replicate m sh) pcs∧qv (C5 w Ws) pcs (cs.drop (off*sh.size)):=by
       intro m
       induction m with
       |zero=>
        intro off ys h2 h3;refine⟨[],rfl,?_⟩;have:cs.drop (off*sh.size)=[]:=Im (by omega);rw[this];exact⟨rfl,fun j p v hp=>by simp at hp⟩
       |succ m ih=>
        intro off ys h2 h3;simp only[List.range'_succ,Kx,T8,Bl,ib,Bn] at h2;obtain⟨y,hy,r,hr,rfl⟩:=h2;obtain⟨pcs,p1,p2⟩:=cg fuel d e sh _ _ hse hy;have e1:(off+1)*sh.size=off*sh.size+sh.size:=by rw[Dl,Gh]
        have e2:(m+1)*sh.size=m*sh.size+sh.size:=by rw[Dl,Gh]
        obtain⟨qcs,q1,q2⟩:=ih (off+1) r hr (by omega);refine⟨pcs++qcs,⟨pcs,qcs,rfl,p1,q1⟩,?_⟩;rw[hsz] at p2;have e3:cs.drop (off*sh.size)=(cs.drop (off*sh.size)).take sh.size++cs.drop ((off+1)*sh.size):=by rw[e1,<-Fy,C8]
        rw[e3];exact p2.append q2
      rw[List.range_eq_range'] at hys;obtain⟨pcs,p1,p2⟩:=go n 0 ys hys (by omega);refine⟨pcs,?_,by simpa using p2⟩;simpa only[Sh.okC] using p1
     .cases hs
    .cases hs
   .cases hs
  .cases hs
open Go Go.RowKit Go.ChangeShapes Go.WideShapes
section
variable {H:Type} {enc:TypeId×Value->H} {P:Program} {sig:Nat->Option Nat} {tab:Nat->Option FT} {ext:Fns->Fns}
def Cw3 (hM:Lb ext) (hT:Tab P sig tab) (hE:∀fn,Contract P sig fn->Contract P sig (ext fn)) {f n:Nat} {ft:FT} {vs rs:List PV} (hf:tab f=some ft) (hmu:g8 (sig f)=none) (hfa:Bv0 (sig f)=none) (h:sem tab ext f n vs=some rs) {w:World} {O:Nat->Option Nat} {args:Array Value} (hg:Given w O n vs args):
  Calls P f args w fun e w'=>∃v,e= .returned v∧Eh3 P (sig f) w O rs v w':=by
 obtain⟨k,hk⟩:=(Vl hM).1 h;cases k with
 |zero=>simp[Vn] at hk
 |succ k=>
  rw[Vn] at hk;simp only[hf] at hk;split at hk
  .rename_i hc;obtain⟨o,ho,hk⟩:=Bl.1 hk;split at hk
   .injection hk with hk;subst hk;obtain⟨func,Hn,hfn,hn,hp,hlt,hnf,t0,hx,hs⟩:=hT.1 f ft hf;rw[<-hs,Jj] at ho;unfold Bx9 at hp;rw[hmu,hfa] at hp;simp only[bf,Bool.or_self,B5,if_false,G6] at hp;exact rk (Cx1 hT hE k) hmu hfn hx ho (by rw[hc.2,<-hp,Fj hlt,hnf]) (by rw[hp,hc.1];exact hg) (fun e he=>by rw[hfa] at he;cases he)
   .cases hk
  .cases hk
def Oks:List Sh->List PV->Prop
 |[],[]=>True
 |sh::ss,p::ps=>sh.ok p∧Oks ss ps
 |_,_=>False
def Oks.len:∀{ss:List Sh} {ps:List PV},Oks ss ps->ps.length=ss.length
 |[],[],_=>rfl
 |_::_,_::_,h=>by simp[Oks.len h.2]
 |[],_::_,h=>h.elim
 |_::_,[],h=>h.elim
def kq (P:Program) (ts:List TypeId):Option (List Sh):=ts.mapM (Cv4 P 30)
def Ek5 {w:World} {base b0:Nat} {spare:Nat->Bool} {held:Bool} {t:TypeId} {v:Value} {d:DataW H} {ps:List MemPlace} {sh:Sh} {n:Nat} (hs:Cv4 P n t=some sh) (hok:Value.okWide P w .any base t v) (h:DataW.Trod enc P w b0 spare held t v d ps):
  ∃p,sh.ok p∧Rep (C5 w Ws) p v:=by
 obtain⟨fuel,hf⟩:=h;obtain⟨pcs,h1,h2⟩:=cg fuel n t sh _ _ hs hf;have single:sh.agg=false->v.cells= #[v]->∃p,sh.ok p∧Rep (C5 w Ws) p v:=by intro ha hv;obtain⟨p,rfl,hp⟩:=dm ha h1;rw[hv] at h2;refine⟨p,?_,(h2.2 0 p v rfl rfl).2⟩;unfold Sh.ok;rw[ha];simp only[B5,if_false];exact⟨hp,h1⟩
 cases n with
 |zero=>simp[Cv4] at hs
 |succ n=>
  simp only[Cv4] at hs;split at hs
  .rename_i hu;injection hs with hs;subst hs;obtain⟨b,rfl⟩:=okWide_bool hu hok;exact single rfl rfl
  .rename_i k hu;injection hs with hs;subst hs;obtain⟨b,rfl⟩:=okWide_int hu hok;exact single rfl rfl
  .rename_i hu;injection hs with hs;subst hs;obtain⟨b,rfl⟩:=okWide_string hu hok;exact single rfl rfl
  .rename_i e hu;split at hs
   .split at hs
    .injection hs with hs;subst hs;obtain⟨a,l,c,rfl⟩:=okWide_slice hu hok;exact single rfl rfl
    .cases hs
   .cases hs
  .rename_i fs hu;split at hs
   .split at hs
    .injection hs with hs;subst hs;simp only[Value.okWide,hu] at hok;obtain⟨cs,rfl,_,_⟩:=hok;refine⟨.a pcs,?_,?_⟩
     .unfold Sh.ok;simp only[Sh.agg,if_true];exact⟨pcs,rfl,h1⟩
     .have hl:pcs.length=cs.toList.length:=h2.1;refine Rep.a pcs cs (by rw[hl,Dv]) (fun u hu=> ?_) (fun j c u hc hu=>(h2.2 j c u hc (by show cs.toList[j]? =some u;rw[B9];exact hu)).2);obtain⟨j,hj⟩:=F4 hu;have hj1:=(Br.1 hj).1;exact(h2.2 j _ u (B3 (by omega)) hj).1
    .cases hs
   .cases hs
  .rename_i n e hu;split at hs
   .split at hs
    .split at hs
     .injection hs with hs;subst hs;simp only[Value.okWide,hu] at hok;obtain⟨cs,rfl,_,_⟩:=hok;refine⟨.a pcs,?_,?_⟩
      .unfold Sh.ok;simp only[Sh.agg,if_true];exact⟨pcs,rfl,h1⟩
      .have hl:pcs.length=cs.toList.length:=h2.1;refine Rep.a pcs cs (by rw[hl,Dv]) (fun u hu=> ?_) (fun j c u hc hu=>(h2.2 j c u hc (by show cs.toList[j]? =some u;rw[B9];exact hu)).2);obtain⟨j,hj⟩:=F4 hu;have hj1:=(Br.1 hj).1;exact(h2.2 j _ u (B3 (by omega)) hj).1
     .cases hs
    .cases hs
   .cases hs
  .cases hs
def Aq4 {w:World} {base b0:Nat} {spare:Nat->Bool} {held:Bool}:∀{ts:List TypeId} {shs:List Sh} {vs:List Value} {ds:List (DataW H)} {ps:List MemPlace},kq P ts=some shs->(∀(j:Nat) t v,ts[j]? =some t->vs[j]? =some v->Value.okWide P w .any base t v)->
  DataW.TrodAll enc P w b0 spare held ts vs ds ps->∃qs,Oks shs qs∧qs.length=vs.length∧∀(j:Nat) (p:PV) (v:Value),qs[j]? =some p->vs[j]? =some v->Rep (C5 w Ws) p v
 |[],shs,vs,ds,ps,hs,hok,h=>by simp only[kq,List.mapM_nil,ib,Bn] at hs;subst hs;obtain⟨rfl,rfl,rfl⟩:=trodAll_nil h;exact⟨[],trivial,rfl,fun j p v hp=>by simp at hp⟩
 |t::ts,shs,vs,ds,ps,hs,hok,h=>by
  simp only[kq,Kx,T8,Bl,ib,Bn] at hs;obtain⟨sh,hsh,rest,hrest,rfl⟩:=hs;obtain⟨v,vs',d,ds',p,q,rfl,rfl,rfl,h1,h2⟩:=trodAll_cons h;obtain⟨x,x1,x2⟩:=Ek5 hsh (hok 0 t v rfl rfl) h1;obtain⟨qs,q1,q2,q3⟩:=Aq4 hrest (fun j t' v' ht hv=>hok (j+1) t' v' (by simpa using ht) (by simpa using hv)) h2;refine⟨x::qs,⟨x1,q1⟩,by simp[q2],fun j p' v' hp hv=> ?_⟩;cases j with
  |zero=>simp at hp hv;subst hp;subst hv;exact x2
  |succ j=>exact q3 j p' v' (by simpa using hp) (by simpa using hv)
def Al0 (hl:laidOutB P=true) {W W':World} (hb:Below W.heap.size W W'):∀{ts:List TypeId} {vs:List Value} {ds:List (DataW H)} {ps:List MemPlace},(ts.all fun t=>P.readableRec t && decide (t<P.types.size))=true->DataW.TrodAll enc P W 0 (fun _=>true) true ts vs ds ps->
  DataW.TrodAll enc P W' 0 (fun b=>decide (b<W.heap.size)) true ts vs ds ps
 |[],vs,ds,ps,_,h=>by obtain⟨rfl,rfl,rfl⟩:=trodAll_nil h;exact trodAll_mk0
 |t::ts,vs,ds,ps,hr,h=>by simp only[Mb,Bt,decide_eq_true_eq] at hr;obtain⟨v,vs',d,ds',p,q,rfl,rfl,rfl,h1,h2⟩:=trodAll_cons h;refine trodAll_cons_mk (Below.trod hl hr.1.1 hr.1.2 h1 hb ?_) (Al0 hl hb (by simpa using hr.2) h2);obtain⟨m,hm⟩:=h1;exact DataW.trod_lt m _ _ _ hm
def law_calls (hM:Lb ext) (hT:Tab P sig tab) (hE:∀fn,Contract P sig fn->Contract P sig (ext fn)) {f:Nat} {ft:FT} (hf:tab f=some ft) (hsig:sig f=none) {ts:List TypeId} {shs:List Sh} (hs:kq P ts=some shs)
  (law:∀qs,Oks shs qs->sem tab ext f shs.length qs=some [.b true]) {W:World} {base b0:Nat} {spare:Nat->Bool} {held:Bool} {args:Array Value} {ds:List (DataW H)} {ps:List MemPlace}
  (hok:∀(j:Nat) t v,ts[j]? =some t->args[j]? =some v->Value.okWide P W .any base t v) (h:DataW.TrodAll enc P W b0 spare held ts args.toList ds ps):
  Calls P f args W fun e W'=>e= .returned (.bool true)∧Below W.heap.size W W':=by
 obtain⟨qs,q1,q2,q3⟩:=Aq4 hs (fun j t v ht hv=>hok j t v ht (by simpa using hv)) h;have hlen:=q1.len;refine(Cw3 hM hT hE hf (by rw[hsig];rfl) (by rw[hsig];rfl) (law qs q1) (O:=Ws) ⟨fun _ _=>rfl,by rw[q2,Dv],fun j p v _ hp hv=>q3 j p v hp (by simpa using hv),fun j p v hj hp _=> ?_⟩).mono fun e w' ⟨v,he,hb⟩=> ?_
 .have:=(Br.1 hp).1;omega
 .subst he;rw[hsig] at hb;obtain⟨hbel,O',_,_,hres⟩:=hb;have hr:Rep (C5 w' O') (.b true) v:=hres;exact⟨by rw[hr.bool],hbel.to⟩
end
open Go Go.RowKit
inductive XK where
 |countS|indexS|cmpS
 deriving DecidableEq
def XK.entry:XK->Array Value->Sem Value
 | .countS=>Extern.BytealgCount.count
 | .indexS=>Extern.BytealgIndexByte.indexByte
 | .cmpS=>Extern.BytealgCompare.compare
def Ap2 (f:List UInt8->UInt8->Int):List PV->Option (List PV)
 |[.s x,.i .u8 c]=>some [.i .i64 (f x c.toNat.toUInt8)]
 |_=>none
def Ds2 (f:List UInt8->List UInt8->Int):List PV->Option (List PV)
 |[.s x,.s y]=>some [.i .i64 (f x y)]
 |_=>none
def XK.run:XK->List PV->Option (List PV)
 | .countS=>Ap2 fun x c=>(Lib.countByte x c:Int)
 | .indexS=>Ap2 Lib.indexByte
 | .cmpS=>Ds2 Lib.compareBytes
def N7 {f:List UInt8->UInt8->Int} {vs rs:List PV} (h:Ap2 f vs=some rs):∃x c,vs=[.s x,.i .u8 c]∧rs=[.i .i64 (f x c.toNat.toUInt8)]:=by
 unfold Ap2 at h;split at h
 .rename_i x c;injection h with h;exact⟨x,c,rfl,h.symm⟩
 .cases h
def Zw {f:List UInt8->List UInt8->Int} {vs rs:List PV} (h:Ds2 f vs=some rs):∃x y,vs=[.s x,.s y]∧rs=[.i .i64 (f x y)]:=by
 unfold Ds2 at h;split at h
 .rename_i x c;injection h with h;exact⟨x,c,rfl,h.symm⟩
 .cases h
def lkX:List (Nat×XK)->Nat->Option XK
 |[],_=>none
 |(k,t)::r,f=>if k=f then some t else lkX r f
def o0 (xs:List (Nat×XK)):Fns->Fns:=fun _ f n args=>match lkX xs f with
 |some k=>if n=args.length then k.run args else none
 |none=>none
def ak (xs:List (Nat×XK)):Lb (o0 xs):=fun _ _ _ _ _ _ _ h=>h
def XOK (P : Program) (f : Nat) (k : XK) : Prop := ∃ func, P.funcs[f]? = some func ∧ (func.name == "runtime.NumGoroutine") = false ∧ func.body.isNone = true ∧ Extern.findNext func = none ∧ Extern.find func = some k.entry
def Ij7 (P:Program):List (Nat×XK)->Prop
 |[]=>True
 |p::r=>XOK P p.1 p.2∧Ij7 P r
def Er7 {P:Program}:∀{xs:List (Nat×XK)} {f:Nat} {k:XK},Ij7 P xs->lkX xs f=some k->XOK P f k
 |[],_,_,_,h=>by simp[lkX] at h
 |(j,t)::r,f,k,hx,h=>by
  simp only[lkX] at h;split at h
  .rename_i e;injection h with h;subst h;subst e;exact hx.1
  .exact Er7 hx.2 h
def R7 {w:World} {O:Nat->Option Nat} {n:Nat} {vs:List PV} {args:Array Value} (hg:Given w O n vs args) (hn:n=vs.length) {j:Nat} {p:PV} (hp:vs[j]? =some p):∃v,args[j]? =some v∧Rep (C5 w O) p v:=by have hj:=(Br.1 hp).1;have hs:=hg.size;obtain⟨v,hv⟩:∃v,args[j]? =some v:=⟨args[j]'(by omega),E8 (by omega)⟩;exact⟨v,hv,hg.val j p v (by omega) hp hv⟩
def cz {args:Array Value} {a b:Value} (hs:args.size=2) (ha:args[0]? =some a) (hb:args[1]? =some b):args= #[a,b]:=by
 obtain⟨l⟩:=args
 match l,hs with
 |[x,y],_=>simp at ha hb;simp[ha,hb]
def Ad2 {sig:Nat->Option Nat}:∀{xs:List (Nat×XK)},(xs.all fun p=>(sig p.1).isNone)=true->∀f k,lkX xs f=some k->sig f=none
 |[],_,f,k,h=>by simp[lkX] at h
 |(j,t)::r,h,f,k,hk=>by
  simp only[Mb,Bt,D5] at h;simp only[lkX] at hk;split at hk
  .rename_i e;subst e;exact h.1
  .exact Ad2 h.2 f k hk
def XK.run_len {k:XK} {vs rs:List PV} (h:k.run vs=some rs):vs.length=2:=by
 cases k with
 |countS=>obtain⟨x,c,rfl,_⟩:=N7 (by simpa only[XK.run] using h);rfl
 |indexS=>obtain⟨x,c,rfl,_⟩:=N7 (by simpa only[XK.run] using h);rfl
 |cmpS=>obtain⟨x,c,rfl,_⟩:=Zw h;rfl
def Ec6 {P:Program} {sig:Nat->Option Nat} {xs:List (Nat×XK)} (hx:Ij7 P xs) (hsig:∀f k,lkX xs f=some k->sig f=none) (fn:Fns) (hC:Contract P sig fn):Contract P sig (o0 xs fn):=by
 refine⟨fun f n vs rs h=> ?_,hC.bld⟩
 .simp only[o0] at h;split at h
  .rename_i k hk;split at h
   .rename_i hn;refine⟨fun _ w O args hg=> ?_,fun hT=>by rw[hn,XK.run_len h] at hT;simp[TAG] at hT⟩;obtain⟨func,h1,h2,h3,h4,h5⟩:=Er7 hx hk;have hrun:=fun a=>run_callFunc_extern h1 h2 h3 h4 h5 a w;have fin:∀(z:Int) (a:Array Value),args=a->(k.entry a).run P w= .ok (.int .i64 z) w->I5 P f args w (Eh3 P (sig f) w O [.i .i64 z]):=by
     intro z a ha hr;subst ha;refine .inl ⟨.int .i64 z,w,?_,Blw.refl _ _,O,fun _ _=>rfl,hg.out,?_⟩
     .rw[hrun,hr];rfl
     .rw[hsig f k hk];exact Rep.i .i64 z
    cases k with
    |countS=>
     obtain⟨x,c,rfl,rfl⟩:=N7 (by simpa only[XK.run] using h);obtain⟨a,ha,ra⟩:=R7 hg hn (j:=0) rfl;obtain⟨b,hb,rb⟩:=R7 hg hn (j:=1) rfl;have e:=cz (by rw[hg.size];rfl) ha hb;obtain⟨s,rfl,rfl⟩:=ra.str;have:=rb.int;subst this;exact fin _ _ e (Lib.run_countString s c w)
    |indexS=>
     obtain⟨x,c,rfl,rfl⟩:=N7 (by simpa only[XK.run] using h);obtain⟨a,ha,ra⟩:=R7 hg hn (j:=0) rfl;obtain⟨b,hb,rb⟩:=R7 hg hn (j:=1) rfl;have e:=cz (by rw[hg.size];rfl) ha hb;obtain⟨s,rfl,rfl⟩:=ra.str;have:=rb.int;subst this;exact fin _ _ e (Lib.run_indexByteString s c w)
    |cmpS=>
     obtain⟨x,y,rfl,rfl⟩:=Zw h;obtain⟨a,ha,ra⟩:=R7 hg hn (j:=0) rfl;obtain⟨b,hb,rb⟩:=R7 hg hn (j:=1) rfl;have e:=cz (by rw[hg.size];rfl) ha hb;obtain⟨s,rfl,rfl⟩:=ra.str;obtain⟨t,rfl,rfl⟩:=rb.str;exact fin _ _ e (Lib.run_compareString s t w)
   .cases h
  .cases h
def td {tab:Nat->Option FT} {xs:List (Nat×XK)} {f:Nat} {k:XK} {args rs:List PV} (ht:tab f=none) (hk:lkX xs f=some k) (h:k.run args=some rs):sem tab (o0 xs) f args.length args=some rs:=by refine(Vl (ak xs)).2 ⟨1,?_⟩;rw[Vn];simp only[ht];simp only[o0,hk,if_true];exact h
open Go
def C3 (j:Nat) (p:PV):Option PV:=p.cells[j]?
def Lw (off n:Nat) (p:PV):Option PV:=if off+n<=p.cells.length then some (.a ((p.cells.drop off).take n)) else none
def Sy (n:Nat):PV->Option PV
 | .a cs=>if cs.length=n then some (.a cs) else none
 |_=>none
def Jf (p:PV):Option PV:=if p.scal then some p else none
def brE (J:List PV) (x y:E):PV->Option PV
 | .b true=>x.ev J
 | .b false=>y.ev J
 |_=>none
def brT (fn:Fns) (N:Nat) (t e:T) (J:List PV):PV->Option Out
 | .b true=>t.ev fn N J
 | .b false=>e.ev fn N J
 |_=>none
def goT (fn:Fns) (N:Nat) (k:T) (J:List PV):Option Out:=k.ev fn N J
def aft (fn:Fns) (N:Nat) (id:Nat) (k:T) (J:List PV):Out->Option Out
 | .yld j vs=>if j=id then k.ev fn N (J++vs) else some (.yld j vs)
 | .ret vs=>some (.ret vs)
def Ef1 (fn:Fns) (J:List PV) (fl:Bool) (f:Nat) (ar:List E) (m:Nat):PV->Option (List PV)
 | .b true=>(E.evs J ar).bind fun vs=>results fl m J (fn f vs.length vs)
 | .b false=>some (J++List.replicate m .u)
 |_=>none
section
variable {J:List PV}
def Im1 (n:Nat):(E.v n).ev J=J[n]? :=by simp only[E.ev]
def Im5 (x:PV):(E.c x).ev J=some x:=by simp only[E.ev]
def Hn5 (op:BinOp) (x y:E):(E.bin op x y).ev J=(x.ev J).bind fun p=>(y.ev J).bind fun q=>X.bin op p q:=by simp only[E.ev]
def Im2 (op:UnOp) (x:E):(E.un op x).ev J=(x.ev J).bind (X.un op):=by simp only[E.ev]
def Hn0 (g x y:E):(E.ite g x y).ev J=(g.ev J).bind (brE J x y):=by simp only[E.ev];rfl
def Gq5 (j:Nat) (x:E):(E.proj j x).ev J=(x.ev J).bind (C3 j):=by simp only[E.ev];rfl
def Hm3 (o n:Nat) (x:E):(E.sub o n x).ev J=(x.ev J).bind (Lw o n):=by simp only[E.ev];rfl
def Hn8 (xs:List E):(E.agg xs).ev J=(E.evs J xs).map .a:=by simp only[E.ev]
def Hn2 (n:Nat) (x:E):(E.fit n x).ev J=(x.ev J).bind (Sy n):=by simp only[E.ev];congr 1;funext p;cases p<;>rfl
def Gq4 (x:E):(E.scal x).ev J=(x.ev J).bind Jf:=by simp only[E.ev];rfl
def Hn1 (sz:Nat) (x i:E):(E.idx sz x i).ev J=(x.ev J).bind fun p=>(i.ev J).bind fun q=>Lg sz p q:=by simp only[E.ev]
def ev_len (x:E):(E.len x).ev J=(x.ev J).bind H7:=by simp only[E.ev]
def Gq2 (x:E):(E.slen x).ev J=(x.ev J).bind Zk:=by simp only[E.ev]
def Gq3 (x i:E):(E.sidx x i).ev J=(x.ev J).bind fun p=>(i.ev J).bind fun q=>Vf p q:=by simp only[E.ev]
def Hm4 (x lo hi:E):(E.ssl x lo hi).ev J=(x.ev J).bind fun p=>(lo.ev J).bind fun q=>(hi.ev J).bind fun r=>s7 p q r:=by simp only[E.ev]
def Hm8 (sz:Nat) (x lo hi:E):(E.lsl sz x lo hi).ev J=(x.ev J).bind fun p=>(lo.ev J).bind fun q=>(hi.ev J).bind fun r=>Kt sz p q r:=by simp only[E.ev]
def Hn7 (sz:Nat) (x y:E):(E.app sz x y).ev J=(x.ev J).bind fun p=>(y.ev J).bind fun q=>Jm sz p q:=by simp only[E.ev]
def Hm9 (sz:Nat) (xs:List E):(E.lit sz xs).ev J=(E.evs J xs).bind (Lf sz):=by simp only[E.ev]
def Hm7 (sz:Nat) (n z:E):(E.rep sz n z).ev J=(n.ev J).bind fun p=>(z.ev J).bind fun q=>M6 sz p q:=by simp only[E.ev]
def Hm5 (sz:Nat) (x i:E) (o:Nat) (vs:List E):(E.set sz x i o vs).ev J=(x.ev J).bind fun p=>(i.ev J).bind fun q=>(E.evs J vs).bind fun r=>Pw sz o r p q:=by simp only[E.ev]
def Gq8 (k:IntKind) (x:E):(E.conv k x).ev J=(x.ev J).bind (Ad9 k):=by simp only[E.ev]
def Hn6 (x:E):(E.b2s x).ev J=(x.ev J).bind Yf:=by simp only[E.ev]
def Hm6 (x:E):(E.s2b x).ev J=(x.ev J).bind Ap1:=by simp only[E.ev]
def Hn3 (n g:Bool) (ts:List Sc) (x y:E):(E.eqs n g ts x y).ev J=(x.ev J).bind fun p=>(y.ev J).bind fun q=>Nf n g ts p q:=by simp only[E.ev]
def Hn4 (g:Nat) (xs:List E):(E.clo g xs).ev J=(E.evs J xs).map (.f g):=by simp only[E.ev]
def Im4 (x y:E):(E.mn x y).ev J=(x.ev J).bind fun p=>(y.ev J).bind fun q=>Ex6 p q:=by simp only[E.ev]
def Im3 (x y:E):(E.mx x y).ev J=(x.ev J).bind fun p=>(y.ev J).bind fun q=>Fs6 p q:=by simp only[E.ev]
def Gq7 (x k z:E):(E.mget x k z).ev J=(x.ev J).bind fun p=>(k.ev J).bind fun q=>(z.ev J).bind fun r=>Ab3 p q r:=by simp only[E.ev]
def Gq6 (x k v:E):(E.mset x k v).ev J=(x.ev J).bind fun p=>(k.ev J).bind fun q=>(v.ev J).bind fun r=>Ab1 p q r:=by simp only[E.ev]
def I8 (x:E):(E.der x).ev J=(x.ev J).bind xz:=by simp only[E.ev]
def I7 (o:Nat) (x:E):(E.mkp o x).ev J=(x.ev J).bind (u6 o):=by simp only[E.ev]
def wq:E.evs J []=some []:=by simp only[E.evs]
def fk (x:E) (xs:List E):E.evs J (x::xs)=(x.ev J).bind fun p=>(E.evs J xs).map fun ps=>p::ps:=by simp only[E.evs]
def Ef4 (x y:E):brE J x y (.b true)=x.ev J:=rfl
def Dc9 (x y:E):brE J x y (.b false)=y.ev J:=rfl
def In8 (x y:E) (v:Bool):brE J x y (.b v)=if v=true then x.ev J else y.ev J:=by cases v<;>rfl
end
section
variable {fn:Fns} {N:Nat} {J:List PV}
def Cb {t t':T} (h:t=t'):∀(fn:Fns) (N:Nat) (J:List PV),T.ev fn N t J=T.ev fn N t' J:=by subst h;intro fn N J;exact Eq.refl _
def xc {t t':T} {q:Prop} (h:t=t') (r:q):(∀(fn:Fns) (N:Nat) (J:List PV),T.ev fn N t J=T.ev fn N t' J)∧q:=⟨Cb h,r⟩
def xd {a b:E} {q:Prop} (h:a=b) (r:q):(a=b)∧q:=⟨by subst h;exact Eq.refl _,r⟩
def xd0:(TAG=TAG)=True:=eq_self _
def Fz3 (x:E) (k:T):(T.w (.chk x) k).ev fn N J=(x.ev J).bind fun _=>k.ev fn N J:=by simp only[T.ev,W.ev];cases x.ev J<;>rfl
def Dn9 (fl:Bool) (f:Nat) (ar:List E) (m:Nat) (k:T):(T.w (.call none fl f ar m) k).ev fn N J=(((E.evs J ar).bind fun vs=>results fl m J (fn f vs.length vs))).bind (goT fn N k):=by simp only[T.ev,W.ev,Gb];rfl
def Bf8 (g:E) (fl:Bool) (f:Nat) (ar:List E) (m:Nat) (k:T):(T.w (.call (some g) fl f ar m) k).ev fn N J=(W.ev fn J (.call (some g) fl f ar m)).bind (goT fn N k):=by simp only[T.ev];rfl
def Fz2 (g:Option E) (fl:Bool) (c:E) (ar:List E) (m:Nat) (k:T):(T.w (.clo g fl c ar m) k).ev fn N J=(W.ev fn J (.clo g fl c ar m)).bind (goT fn N k):=by simp only[T.ev];rfl
def G7 (f:Nat) (ar:List E) (k:T):(T.w (.mcall f ar) k).ev fn N J=((E.evs J ar).bind fun vs=>results false 1 J (fn f (vs.length+TAG) vs)).bind (goT fn N k):=by simp only[T.ev,W.ev];rfl
def Tc:TAG=1048576:=rfl
def Hl3 (k:T):goT fn N k J=k.ev fn N J:=rfl
def Fz1 (c:E) (t e:T):(T.ite c t e).ev fn N J=(c.ev J).bind (brT fn N t e J):=by simp only[T.ev];rfl
def Ef3 (t e:T):brT fn N t e J (.b true)=t.ev fn N J:=rfl
def Dc8 (t e:T):brT fn N t e J (.b false)=e.ev fn N J:=rfl
def In7 (t e:T) (v:Bool):brT fn N t e J (.b v)=if v=true then t.ev fn N J else e.ev fn N J:=by cases v<;>rfl
def Fz0 (es:List E):(T.ret es).ev fn N J=(E.evs J es).map .ret:=by simp only[T.ev]
def Fy9 (id:Nat) (es:List E):(T.yld id es).ev fn N J=(E.evs J es).map (.yld id):=by simp only[T.ev]
def Fz4 (id:Nat) (b k:T):(T.blk id b k).ev fn N J=(b.ev fn N J).bind (aft fn N id k J):=by simp only[T.ev];rfl
def Dg4 (id:Nat) (k:T) (vs:List PV):aft fn N id k J (.ret vs)=some (.ret vs):=rfl
def Gb1 (id j:Nat) (k:T) (vs:List PV):aft fn N id k J (.yld j vs)=if j=id then k.ev fn N (J++vs) else some (.yld j vs):=rfl
def Gb2 (id:Nat) (k:T) (p:Prop) [Decidable p] (x y:Out):aft fn N id k J (if p then x else y)=if p then aft fn N id k J x else aft fn N id k J y:=by split<;>rfl
def Bf4 (g:E) (fl:Bool) (f:Nat) (ar:List E) (m:Nat):W.ev fn J (.call (some g) fl f ar m)=(g.ev J).bind (Ef1 fn J fl f ar m):=by simp only[W.ev,Gb];rfl
def Bx5 (fl:Bool) (f:Nat) (ar:List E) (m:Nat):Ef1 fn J fl f ar m (.b true)=(E.evs J ar).bind fun vs=>results fl m J (fn f vs.length vs):=rfl
def xp (fl:Bool) (f:Nat) (ar:List E) (m:Nat):Ef1 fn J fl f ar m (.b false)=some (J++List.replicate m .u):=rfl
def Gx4 (fl:Bool) (f:Nat) (ar:List E) (m:Nat) (v:Bool):Ef1 fn J fl f ar m (.b v)=if v=true then((E.evs J ar).bind fun vs=>results fl m J (fn f vs.length vs)) else some (J++List.replicate m .u):=by cases v<;>rfl
def Fy6 (fl:Bool) (c:E) (ar:List E) (m:Nat):W.ev fn J (.clo none fl c ar m)=(c.ev J).bind fun q=>(E.evs J ar).bind fun vs=>match q with| .f f caps=>results fl m J (fn f vs.length (vs++caps))|_=>none:=by simp only[W.ev,Gb];rfl
def Ez6 {D K:Type} (p:Prop) [Decidable p] (x y:Option D) (f:D->Option K):(if p then x else y).bind f=if p then x.bind f else y.bind f:=by split<;>rfl
def Ez5 (p:Prop) [Decidable p] (x y:PV):(if p then some x else some y)=some (if p then x else y):=by split<;>rfl
def Dv2 (p:Prop) [Decidable p] (x y:Out):(if p then some x else some y)=some (if p then x else y):=by split<;>rfl
def Hl2 (p:Prop) [Decidable p] (x y:Bool):(if p then PV.b x else PV.b y)=PV.b (if p then x else y):=by split<;>rfl
def Hl1 (p:Prop) [Decidable p] (k:IntKind) (x y:Int):(if p then PV.i k x else PV.i k y)=PV.i k (if p then x else y):=by split<;>rfl
def Hl0 (p:Prop) [Decidable p] (x y:List UInt8):(if p then PV.s x else PV.s y)=PV.s (if p then x else y):=by split<;>rfl
def Out.goes (id:Nat):Out->Bool
 | .yld j _=>j==id
 |_=>false
def Vp {step:List PV->Option Out} {id:Nat} {D:Type} (st:D->List PV) (res:D->Out) (Bd:D->Prop) (μ:D->Nat)
  (h:∀a,Bd a->(∃b,step (st a)=some (.yld id (st b))∧Bd b∧μ b<μ a∧res b=res a)∨(step (st a)=some (res a)∧(res a).goes id=false)):
  ∀(n:Nat) (a:D),Bd a->μ a<n->H4 step id n (st a)=some (res a)
 |0,a,_,hn=>by omega
 |n+1,a,ha,hn=>by
  simp only[H4];rcases h a ha with⟨b,h1,h2,h3,h4⟩|⟨h1,h2⟩
  .rw[h1];simp only[B0,if_true];rw[Vp st res Bd μ h n b h2 (by omega),h4]
  .rw[h1];simp only[B0];cases hr:res a with
   |ret vs=>rfl
   |yld j vs=>
    rw[hr] at h2;simp only[Out.goes,beq_eq_false_iff_ne,ne_eq] at h2;simp only[];rw[if_neg h2]
def Gj {id:Nat} {init:List E} {body:T} {D:Type} (st:D->List PV) (res:D->Out) (Bd:D->Prop) (μ:D->Nat) (a0:D)
  (h0:E.evs J init=some (st a0)) (hI:Bd a0) (hN:μ a0<N)
  (h:∀a,Bd a->(∃b,body.ev fn N (J++st a)=some (.yld id (st b))∧Bd b∧μ b<μ a∧res b=res a)∨(body.ev fn N (J++st a)=some (res a)∧(res a).goes id=false)):
  (T.loop id init body).ev fn N J=some (res a0):=by
 simp only[T.ev,h0,B0];exact Vp st res Bd μ h N a0 hI hN
def F6 {id:Nat} {init:List E} {body:T} (n:Nat) (st:Nat->List PV) (res:Nat->Out)
  (h0:E.evs J init=some (st 0)) (hN:n<N)
  (h:∀i,i<n->(body.ev fn N (J++st i)=some (.yld id (st (i+1)))∧res (i+1)=res i)∨(body.ev fn N (J++st i)=some (res i)∧(res i).goes id=false))
  (hn:body.ev fn N (J++st n)=some (res n)∧(res n).goes id=false):
  (T.loop id init body).ev fn N J=some (res 0):=by
 refine Gj st res (fun i=>i<=n) (fun i=>n - i) 0 h0 (Dz _) (by omega) fun i hi=> ?_;by_cases hlt:i<n
 .rcases h i hlt with⟨h1,h2⟩|h1
  .exact .inl ⟨i+1,h1,by omega,by omega,h2⟩
  .exact .inr h1
 .have:i=n:=by omega
  subst this;exact .inr hn
end
def Fl {fn:Fns} {N:Nat} {J:List PV} {id:Nat} {init:List E} {body:T} {K γ:Type} (l:List K) (st:Nat->γ->List PV) (f:Nat->γ->List K->Out) (Bd:Nat->γ->Prop) (g0:γ)
  (h0:E.evs J init=some (st 0 g0)) (hI:Bd 0 g0) (hN:l.length<N)
  (step:∀i g c r,l.drop i=c::r->i<l.length->l[i]? =some c->Bd i g->
   (∃g',body.ev fn N (J++st i g)=some (.yld id (st (i+1) g'))∧Bd (i+1) g'∧f (i+1) g' r=f i g (c::r))∨(body.ev fn N (J++st i g)=some (f i g (c::r))∧(f i g (c::r)).goes id=false))
  (stop:∀g,Bd l.length g->body.ev fn N (J++st l.length g)=some (f l.length g [])∧(f l.length g []).goes id=false):
  (T.loop id init body).ev fn N J=some (f 0 g0 l):=by
 have:=Gj (fn:=fn) (N:=N) (J:=J) (id:=id) (init:=init) (body:=body) (D:=Nat×γ) (fun a=>st a.1 a.2) (fun a=>f a.1 a.2 (l.drop a.1)) (fun a=>a.1<=l.length∧Bd a.1 a.2) (fun a=>l.length - a.1) (0,g0) h0 ⟨Dz _,hI⟩ (by simpa using hN) ?_
 .simpa using this
 .rintro⟨i,g⟩ ⟨hi,hg⟩;simp only at hi hg ⊢;by_cases hlt:i<l.length
  .have hd:l.drop i=l[i]::l.drop (i+1):=Et hlt;rcases step i g l[i] (l.drop (i+1)) hd hlt (B3 hlt) hg with⟨g',h1,h2,h3⟩|h1
   .exact .inl ⟨(i+1,g'),h1,⟨hlt,h2⟩,by simp only;omega,by simp only;rw[h3,hd]⟩
   .exact .inr (by rw[hd];exact h1)
  .have hi':i=l.length:=by omega
   subst hi';have hd:l.drop l.length=[]:=List.drop_length;exact .inr (by rw[hd];exact stop g hg)
def Df {fn:Fns} {N:Nat} {J:List PV} {id:Nat} {init:List E} {body:T} {K:Type} (l:List K) (st:Nat->List PV) (f:Nat->List K->Out)
  (h0:E.evs J init=some (st 0)) (hN:l.length<N)
  (step:∀i c r,l.drop i=c::r->i<l.length->l[i]? =some c->
   (body.ev fn N (J++st i)=some (.yld id (st (i+1)))∧f (i+1) r=f i (c::r))∨(body.ev fn N (J++st i)=some (f i (c::r))∧(f i (c::r)).goes id=false))
  (stop:body.ev fn N (J++st l.length)=some (f l.length [])∧(f l.length []).goes id=false):
  (T.loop id init body).ev fn N J=some (f 0 l):=
 Fl (γ:=Unit) l (fun i _=>st i) (fun i _ r=>f i r) (fun _ _=>True) () h0 trivial hN (fun i _ c r h1 h2 h3 _=>by
  rcases step i c r h1 h2 h3 with⟨a,b⟩|h
  .exact .inl ⟨(),a,trivial,b⟩
  .exact .inr h) (fun _ _=>stop)
def w64 {x:Int} (h1: -9223372036854775808<=x) (h2:x<=9223372036854775807):IntKind.i64.wrap x=x:=IntWalk.i64_in x ⟨h1,h2⟩
def w8 {x:Int} (h1:0<=x) (h2:x<=255):IntKind.u8.wrap x=x:=IntWalk.u8_in x ⟨h1,h2⟩
def Fy4 {x:Int} (h1:0<=x) (h2:x<=18446744073709551615):IntKind.u64.wrap x=x:=by simp[IntKind.wrap,IntKind.bits,IntKind.signed];omega
def In3 {p:Prop} [Decidable p] (h:p):decide p=true:=decide_eq_true h
def In4 {p:Prop} [Decidable p] (h:¬p):decide p=false:=decide_eq_false h
def Gz6 (k:IntKind) (x y:Int):X.bin .add (.i k x) (.i k y)=some (.i k (k.wrap (x+y))):=by simp[X.bin,Gd]
def Gy5 (k:IntKind) (x y:Int):X.bin .sub (.i k x) (.i k y)=some (.i k (k.wrap (x - y))):=by simp[X.bin,Gd]
def Gz0 (k:IntKind) (x y:Int):X.bin .mul (.i k x) (.i k y)=some (.i k (k.wrap (x*y))):=by simp[X.bin,Gd]
def Gy8 (k:IntKind) (x y:Int):X.bin .quo (.i k x) (.i k y)=if y=0 then none else some (.i k (k.wrap (x.tdiv y))):=by simp[X.bin,Gd]
def Gy7 (k:IntKind) (x y:Int):X.bin .rem (.i k x) (.i k y)=if y=0 then none else some (.i k (x.tmod y)):=by simp[X.bin,Gd]
def Hd8 (k:IntKind) (x y:Int) (h:0<=x) (h':0<y):X.bin .quo (.i k x) (.i k y)=some (.i k (k.wrap (x / y))):=by rw[Gy8,if_neg (by omega),Int.tdiv_eq_ediv_of_nonneg h]
def Hd6 (k:IntKind) (x y:Int) (h:0<=x) (h':0<y):X.bin .rem (.i k x) (.i k y)=some (.i k (x % y)):=by rw[Gy7,if_neg (by omega),Int.tmod_eq_emod_of_nonneg h]
def Mq (k:IntKind) (x y:Int):X.bin .and (.i k x) (.i k y)=some (.i k (k.wrap (BitVec.ofInt k.bits x &&& BitVec.ofInt k.bits y).toNat)):=by simp[X.bin,Gd]
def D2 (k:IntKind) (x y:Int):X.bin .andNot (.i k x) (.i k y)=some (.i k (k.wrap (BitVec.ofInt k.bits x &&& ~~~ BitVec.ofInt k.bits y).toNat)):=by simp[X.bin,Gd]
def Gz5 (k:IntKind) (x y:Int):X.bin .eql (.i k x) (.i k y)=some (.b (decide (x=y))):=by simp[X.bin,Gd];rfl
def Gy9 (k:IntKind) (x y:Int):X.bin .neq (.i k x) (.i k y)=some (.b (decide (x≠y))):=by simp[X.bin,Gd];by_cases h:x=y<;>simp[h]
def Gz1 (k:IntKind) (x y:Int):X.bin .lss (.i k x) (.i k y)=some (.b (decide (x<y))):=by simp[X.bin,Gd]
def Gz2 (k:IntKind) (x y:Int):X.bin .leq (.i k x) (.i k y)=some (.b (decide (x<=y))):=by simp[X.bin,Gd]
def Gz3 (k:IntKind) (x y:Int):X.bin .gtr (.i k x) (.i k y)=some (.b (decide (y<x))):=by simp[X.bin,Gd]
def Gz4 (k:IntKind) (x y:Int):X.bin .geq (.i k x) (.i k y)=some (.b (decide (y<=x))):=by simp[X.bin,Gd]
def Df0 (k k':IntKind) (x y:Int):X.bin .shl (.i k x) (.i k' y)=if y<0 then none else some (.i k (k.wrap (x*2 ^ (min y.toNat k.bits)))):=by simp[X.bin,Oh]
def Gy6 (k k':IntKind) (x y:Int):X.bin .shr (.i k x) (.i k' y)=if y<0 then none else some (.i k (x.fdiv (2 ^ (min y.toNat k.bits)))):=by simp[X.bin,Oh]
def Tf (k k':IntKind) (x:Int) (t:Nat) (h:t<k.bits):X.bin .shr (.i k x) (.i k' (t:Int))=some (.i k (x / 2 ^ t)):=by
 rw[Gy6,if_neg (by omega)];congr 2;have:min ((t:Int)).toNat k.bits=t:=by simp;omega
 rw[this,Int.fdiv_eq_ediv_of_nonneg];exact Int.le_of_lt (Int.pow_pos (by decide))
def Eg1 (x y:List UInt8) (h:x.length+y.length<=9223372036854775807):X.bin .add (.s x) (.s y)=some (.s (x++y)):=by simp only[X.bin,bj];rw[if_neg];simp[IntKind.max,IntKind.bits,IntKind.signed];omega
def Eg0 (x y:List UInt8):X.bin .eql (.s x) (.s y)=some (.b (decide (x=y))):=by simp only[X.bin,bj];by_cases h:x=y<;>simp[h]
def Ef7 (x y:List UInt8):X.bin .neq (.s x) (.s y)=some (.b (decide (x≠y))):=by simp only[X.bin,bj];by_cases h:x=y<;>simp[h]
def Ef8 (x y:List UInt8):X.bin .lss (.s x) (.s y)=some (.b (Op.bytesLess x y)):=rfl
def Ef9 (x y:List UInt8):X.bin .gtr (.s x) (.s y)=some (.b (!(Op.bytesLess x y||x==y))):=rfl
def Gm8 (x:Bool):X.un .not (.b x)=some (.b (!x)):=rfl
def Fr8 (p:Prop) [Decidable p]:(!decide p)=decide (¬p):=by by_cases h:p<;>simp[h]
def vl (sz:Nat) (xs:List PV) (k:IntKind) (z:Int) (h:0<=z):Lg sz (.l sz xs) (.i k z)=xs[z.toNat]? :=by simp[Lg,h]
def Il7 (sz:Nat) (xs:List PV):H7 (.l sz xs)=some (.i .i64 (xs.length:Int)):=rfl
def Gr8 (x:List UInt8):Zk (.s x)=some (.i .i64 (x.length:Int)):=rfl
def Gr9 (x:List UInt8) (k:IntKind) (n:Int) (h:0<=n):Vf (.s x) (.i k n)=(x[n.toNat]?).map fun c=> .i .u8 (c.toNat:Int):=by simp[Vf,h]
def Fm8 (x:List UInt8) (k k':IntKind) (a b:Int) (h1:0<=a) (h2:a<=b) (h3:b<=(x.length:Int)):s7 (.s x) (.i k a) (.i k' b)=some (.s ((x.take b.toNat).drop a.toNat)):=by simp[s7,h1,h2,h3]
def Cp9 (sz:Nat) (x:List PV) (k k':IntKind) (a b:Int) (h1:0<=a) (h2:a<=b) (h3:b<=(x.length:Int)):Kt sz (.l sz x) (.i k a) (.i k' b)=some (.l sz ((x.take b.toNat).drop a.toNat)):=by simp[Kt,h1,h2,h3]
def T6 (sz:Nat) (xs ys:List PV) (h:xs.length+ys.length<=1073741824):Jm sz (.l sz xs) (.l sz ys)=some (.l sz (xs++ys)):=by simp[Jm,LIM,h]
def Hs4 (sz:Nat) (xs:List PV) (y:PV) (h:xs.length+1<=1073741824):Jm sz (.l sz xs) (.l sz [y])=some (.l sz (xs++[y])):=T6 sz xs [y] h
def Ft5 (sz:Nat):Lf sz []=some (.l sz []):=rfl
def Gs1 (x:List UInt8):Jf (.s x)=some (.s x):=rfl
def Gs3 (k:IntKind) (x:Int):Jf (.i k x)=some (.i k x):=rfl
def Gs5 (x:Bool):Jf (.b x)=some (.b x):=rfl
def Gs2 (sz:Nat) (x:List PV):Jf (.l sz x)=some (.l sz x):=rfl
def Il5 (x:List UInt8):Lf 1 [.s x]=some (.l 1 [.s x]):=rfl
def Hf0 (x:List UInt8):C3 0 (.s x)=some (.s x):=rfl
def Hf1 (k:IntKind) (x:Int):C3 0 (.i k x)=some (.i k x):=rfl
def Hf3 (j:Nat) (cs:List PV):C3 j (.a cs)=cs[j]? :=rfl
def Il3 (k:IntKind) (x y:Int) (h:x<=y):Ex6 (.i k x) (.i k y)=some (.i k x):=by simp only[Ex6,if_true];rw[if_neg (by omega)]
def Il4 (k:IntKind) (x y:Int) (h:y<x):Ex6 (.i k x) (.i k y)=some (.i k y):=by simp only[Ex6,if_true];rw[if_pos h]
def Il2 (k:IntKind) (x y:Int) (h:y<=x):Fs6 (.i k x) (.i k y)=some (.i k x):=by simp only[Fs6,if_true];rw[if_neg (by omega)]
def Il1 (k:IntKind) (x y:Int) (h:x<y):Fs6 (.i k x) (.i k y)=some (.i k y):=by simp only[Fs6,if_true];rw[if_pos (by omega)]
def Hr5 (k k':IntKind) (x:Int):Ad9 k (.i k' x)=some (.i k (k.wrap x)):=rfl
def Gn0 (n:Nat):((n:Int)).toNat=n:=Eg n
def H8 (x:List UInt8):Yf (.l 1 (bytesPV x))=some (.s x):=by
 have:∀x:List UInt8,(x.map fun c=>PV.i .u8 (c.toNat:Int)).mapM byteOf? =some x:=by
  intro x
  induction x with
  |nil=>rfl
  |cons c r ih=>
   have hc:=c.toNat_lt;have h1:byteOf? (PV.i .u8 (c.toNat:Int))=some c:=by simp only[byteOf?];rw[if_pos (by omega)];simp
   simp[Kx,h1,ih]
 simp[Yf,bytesPV,this]
def Ih4 (x:List UInt8) (h:x.length<=1073741824):Ap1 (.s x)=some (.l 1 (bytesPV x)):=by simp[Ap1,LIM,h]
def Sn (x:List UInt8) (c:UInt8):bytesPV x++[.i .u8 (c.toNat:Int)]=bytesPV (x++[c]):=by simp[bytesPV]
def G0 (x:List UInt8):(bytesPV x).length=x.length:=by simp[bytesPV]
def Il6 (k:IntKind) (x:Int):Lf 1 [.i k x]=some (.l 1 [.i k x]):=rfl
def Im7 (x y:Bool):Nf false false [.b] (.b x) (.b y)=some (.b (x==y)):=by simp[Nf,PV.scal,Hs,Dl3]
def Hg8 (x y:Bool):Nf true false [.b] (.b x) (.b y)=some (.b (!(x==y))):=by simp[Nf,PV.scal,Hs,Dl3]
def der_pt (cs:List PV):xz (.pt cs)=some (.a cs):=by simp only[xz]
def scal_pt (cs:List PV):Jf (.pt cs)=some (.pt cs):=by simp[Jf,PV.scal]
def Gk2 (x y:PV):Sy 2 (.a [x,y])=some (.a [x,y]):=rfl
def Hl8 (x:Bool):PV.flat (.b x)=true:=rfl
def Hl7 (k:IntKind) (x:Int):PV.flat (.i k x)=true:=rfl
def Hl5 (x:List UInt8):PV.flat (.s x)=true:=rfl
def Hd5 (J:List PV) (x:PV):results false 1 J (some [x])=some (J++[x]):=rfl
def Hd4 (J:List PV) (x y:PV):results false 2 J (some [x,y])=some (J++[x,y]):=rfl
def Hd3 (J:List PV) (x y z:PV):results false 3 J (some [x,y,z])=some (J++[x,y,z]):=rfl
def Hd2 (J:List PV):results true 0 J (some [])=some (J++[]):=rfl
def Hd1 (J:List PV) (x:PV):results true 1 J (some [x])=if x.flat=true then some (J++[x]) else none:=by simp[results,PV.flat.flats]
def Hd0 (J:List PV) (x y:PV):results true 2 J (some [x,y])=if x.flat=true then(if y.flat=true then some (J++[x,y]) else none) else none:=by simp only[results,B0,PV.flat.flats];by_cases h:x.flat=true<;>by_cases h':y.flat=true<;>simp[h,h']
def Dn7 (c:UInt8) (k:Nat) (hk:k<256):((c.toNat:Int)=(k:Int))↔c=UInt8.ofNat k:=by
 constructor
 .intro h;have h':c.toNat=k:=by omega
  rw[<-h'];simp
 .rintro rfl;simp;omega
end Go.X
namespace Go.X
open Go
def Fn1 {o:Option T} {t:T} (h:o.map T.slim=some t):∃t0,o=some t0∧t0.slim=t:=Bs.1 h
def FOK (P:Program) (sig:Nat->Option Nat) (f:Nat) (ft:FT):Prop:=
 ∃ func H, P.funcs[f]? = some func ∧ (func.name == "runtime.NumGoroutine") = false ∧ Bx9 sig f func = ft.np ∧ func.params.size < TAG ∧ func.nfree = ft.nf ∧ ∃ t, Dl1 P sig f func H = some t ∧ t.slim = ft.t
def Ip8 (P:Program) (sig:Nat->Option Nat) (f a b:Nat) (H:Hints):Option T:=
 match P.funcs[f]? with
 |none=>none
 | some fu => if (fu.name == "runtime.NumGoroutine") = false ∧ Bx9 sig f fu = a ∧ fu.params.size < TAG ∧ fu.nfree = b then (Dl1 P sig f fu H).map T.slim else none
def fok {P:Program} {sig:Nat->Option Nat} {f a b:Nat} {t:T} (H:Hints) (h:Ip8 P sig f a b H=some t:=by kernel_rfl):FOK P sig f ⟨a,b,t⟩:=by
 unfold Ip8 at h;split at h
 .exact nomatch h
 .next fu hf=>
  split at h
  .next hc=>
   obtain⟨t0,h1,h2⟩:=Fn1 h;exact⟨fu,H,hf,hc.1,hc.2.1,hc.2.2.1,hc.2.2.2,t0,h1,h2⟩
  .exact nomatch h
def lkF:List (Nat×FT)->Nat->Option FT
 |[],_=>none
 |(k,t)::r,f=>if k=f then some t else lkF r f
def bz (P:Program) (sig:Nat->Option Nat):List (Nat×FT)->Prop
 |[]=>True
 |p::r=>FOK P sig p.1 p.2∧bz P sig r
def Gc4 (P:Program):List (Nat×Nat)->Prop
 |[]=>True
 |p::r=>(match yq (some p.2) with|some (T,k)=>Sp P p.1 T k|none=>True)∧Gc4 P r
def Dd4 {P:Program}:∀{l:List (Nat×Nat)},Gc4 P l->Ik0 P (Cr1 l)
 |[],_=>fun f T k h=>by simp[Cr1,yq] at h
 |p::r,hl=>fun f T k h=>by
  simp only[Cr1] at h;split at h
  .rename_i e;subst e;have:=hl.1;rw[h] at this;exact this
  .exact Dd4 hl.2 f T k h
def Ef5 {P:Program}:Gc4 P []:=trivial
def Nt {P:Program} {p:Nat×Nat} {r:List (Nat×Nat)} (h:yq (some p.2)=none) (hr:Gc4 P r):Gc4 P (p::r):=⟨by rw[h];trivial,hr⟩
def yk {P:Program} {p:Nat×Nat} {r:List (Nat×Nat)} {T k:Nat} (h:yq (some p.2)=some (T,k)) (hs:Sp P p.1 T k) (hr:Gc4 P r):Gc4 P (p::r):=⟨by rw[h];exact hs,hr⟩
def Bf9 {P : Program} {sig : Nat → Option Nat} : ∀ (l : List (Nat × FT)), bz P sig l → ∀ f ft, lkF l f = some ft → ∃ func H, P.funcs[f]? = some func ∧ (func.name == "runtime.NumGoroutine") = false ∧ Bx9 sig f func = ft.np ∧ func.params.size < TAG ∧ func.nfree = ft.nf ∧ ∃ t, Dl1 P sig f func H = some t ∧ t.slim = ft.t
 |[],_=>fun f ft h=>by simp[lkF] at h
 |(k,t)::r,hl=>fun f ft h=>by
  simp only[lkF] at h;split at h
  .rename_i e;injection h with h;subst h;subst e;exact hl.1
  .exact Bf9 r hl.2 f ft h
def Gn3 {P:Program} {sig:Nat->Option Nat} (l:List (Nat×FT)) (h:bz P sig l) (hB:Ik0 P sig):Tab P sig (lkF l):=⟨Bf9 l h,hB⟩
end Go.X
namespace Go.X
def t6 {D K:Type} (a:D) (f:D->Option K):(some a).bind f=f a:=by rw[B0]
def t7 {D K:Type} (f:D->Option K):(none:Option D).bind f=none:=by rw[Option.bind_none]
def Ar5 {D K:Type} (a:D) (f:D->K):(some a).map f=some (f a):=by rw[Cc]
def Ar6 {D K:Type} (f:D->K):(none:Option D).map f=none:=by rw[Option.map_none]
def dj {D:Type} (a:D) (l m:List D):(a::l)++m=a::(l++m):=by rw[Db]
def kt {D:Type} (m:List D):[]++m=m:=by rw[D3]
def Ar9 {D:Type} (a:D) (l:List D) (i:Nat):(a::l)[i+1]? =l[i]? :=by rw[Fs]
def Ar8 {D:Type} (a:D) (l:List D):(a::l)[0]? =some a:=by rw[D7]
def Ar7 {D:Type} (a:D) (l:List D):(a::l).length=l.length+1:=by rw[Cq]
def Cy3 {D:Type}:([]:List D).length=0:=by rw[Cs]
def Ar4 {D:Type} (a:D) (n:Nat):List.replicate (n+1) a=a::List.replicate n a:=by rw[List.replicate_succ]
def Ar3 {D:Type} (a:D):List.replicate 0 a=[]:=by rw[List.replicate_zero]
def Cy5 {D K:Type} (f:D->K) (l:List D) (i:Nat):(l.map f)[i]? =l[i]?.map f:=by rw[Dk]
def Cy4 {D K:Type} (f:D->K) (l:List D):(l.map f).length=l.length:=by rw[Fq]
set_option linter.defProp false
def EV:=(And.intro @t6 (And.intro @Ar5 (And.intro @t7 (And.intro @Ar6 (And.intro @dj (And.intro @kt (And.intro @Ar9 (And.intro @Ar8 (And.intro @qd (And.intro @Bool.not_false (And.intro @Ar7 (And.intro @Cy3 (And.intro @Ar4 (And.intro @Ar3 (And.intro @Cy5 (And.intro @Cy4 (And.intro @Bool.if_true_left (And.intro @Bool.if_false_right (And.intro @Bool.decide_eq_true (And.intro @Int.natCast_add (And.intro @Int.cast_ofNat_Int (And.intro @Ig (And.intro @decide_eq_true_eq (And.intro @B5 (And.intro @decide_true (And.intro @decide_false (And.intro @Im1 (And.intro @Im5 (And.intro @Hn5 (And.intro @Im2 (And.intro @Hn0 (And.intro @Gq5 (And.intro @Hm3 (And.intro @Hn8 (And.intro @Hn2 (And.intro @Gq4 (And.intro @Hn1 (And.intro @ev_len (And.intro @Gq2 (And.intro @Gq3 (And.intro @Hm4 (And.intro @Hm8 (And.intro @Hn7 (And.intro @Hm9 (And.intro @Hm7 (And.intro @Hm5 (And.intro @Gq8 (And.intro @Hn6 (And.intro @Hm6 (And.intro @Hn3 (And.intro @Hn4 (And.intro @Im4 (And.intro @Im3 (And.intro @Gq7 (And.intro @Gq6 (And.intro @wq (And.intro @fk (And.intro @Ef4 (And.intro @Dc9 (And.intro @In8 (And.intro @Fz3 (And.intro @Dn9 (And.intro @Bf8 (And.intro @Bf4 (And.intro @Bx5 (And.intro @xp (And.intro @Gx4 (And.intro @Fz2 (And.intro @Hl3 (And.intro @Fz1 (And.intro @Ef3 (And.intro @Dc8 (And.intro @In7 (And.intro @Fz0 (And.intro @Fy9 (And.intro @Fz4 (And.intro @Dg4 (And.intro @Gb2 (And.intro @Gb1 (And.intro @w64 (And.intro @w8 (And.intro @Fy4 (And.intro @Hd8 (And.intro @Hd6 (And.intro @In3 (And.intro @In4 (And.intro @Gz6 (And.intro @Gy5 (And.intro @Gz0 (And.intro @Gz5 (And.intro @Gy9 (And.intro @Gz1 (And.intro @Gz2 (And.intro @Gz3 (And.intro @Gz4 (And.intro @Eg1 (And.intro @Eg0 (And.intro @Ef7 (And.intro @Ef8 (And.intro @Ef9 (And.intro @Gm8 (And.intro @Fr8 (And.intro @vl (And.intro @Il7 (And.intro @Gr8 (And.intro @Gr9 (And.intro @Fm8 (And.intro @Cp9 (And.intro @Hs4 (And.intro @T6 (And.intro @Ft5 (And.intro @Il5 (And.intro @Il6 (And.intro @H8 (And.intro @Ih4 (And.intro @Gs1 (And.intro @Gs3 (And.intro @Gs5 (And.intro @Gs2 (And.intro @Hf0 (And.intro @Hf1 (And.intro @Hf3 (And.intro @Il3 (And.intro @Il4 (And.intro @Il2 (And.intro @Il1 (And.intro @Im7 (And.intro @Hg8 (And.intro @Gk2 (And.intro @Hr5 (And.intro @Gn0 (And.intro @Hl8 (And.intro @Hl7 (And.intro @Hl5 (And.intro @Hd5 (And.intro @Hd4 (And.intro @Hd3 (And.intro @Hd2 (And.intro @Hd1 (And.intro @Hd0 (And.intro @Ez6 (And.intro @Ez5 (And.intro @Dv2 (And.intro @Hl2 (And.intro @Hl1 (And.intro @Hl0 (And.intro @if_true.{1} (And.intro @if_false.{1} (And.intro @ne_eq.{1} (And.intro @not_true (And.intro @not_false_eq_true @Bool.true_eq_false)))))))))))))))))))))))))))))))))))))))))))))))))))))))))))))))))))))))))))))))))))))))))))))))))))))))))))))))))))))))))))))))))))))))))))))))))))))))
end Go.X
namespace Go.X
def ch2 (a0 a1:Bool):(a0=false)∨(a0=true∧a1=false)∨(a0=true∧a1=true):=by cases a0<;>cases a1<;>simp
def ch3 (a0 a1 a2:Bool):(a0=false)∨(a0=true∧a1=false)∨(a0=true∧a1=true∧a2=false)∨(a0=true∧a1=true∧a2=true):=by cases a0<;>cases a1<;>cases a2<;>simp
def ch4 (a0 a1 a2 a3:Bool):(a0=false)∨(a0=true∧a1=false)∨(a0=true∧a1=true∧a2=false)∨(a0=true∧a1=true∧a2=true∧a3=false)∨(a0=true∧a1=true∧a2=true∧a3=true):=by cases a0<;>cases a1<;>cases a2<;>cases a3<;>simp
def ch5 (a0 a1 a2 a3 a4:Bool):(a0=false)∨(a0=true∧a1=false)∨(a0=true∧a1=true∧a2=false)∨(a0=true∧a1=true∧a2=true∧a3=false)∨(a0=true∧a1=true∧a2=true∧a3=true∧a4=false)∨(a0=true∧a1=true∧a2=true∧a3=true∧a4=true):=by cases a0<;>cases a1<;>cases a2<;>cases a3<;>cases a4<;>simp
def ch6 (a0 a1 a2 a3 a4 a5:Bool):(a0=false)∨(a0=true∧a1=false)∨(a0=true∧a1=true∧a2=false)∨(a0=true∧a1=true∧a2=true∧a3=false)∨(a0=true∧a1=true∧a2=true∧a3=true∧a4=false)∨(a0=true∧a1=true∧a2=true∧a3=true∧a4=true∧a5=false)∨(a0=true∧a1=true∧a2=true∧a3=true∧a4=true∧a5=true):=by
 cases a0
 .exact .inl rfl
 .rcases ch5 a1 a2 a3 a4 a5 with h|h|h|h|h|h
  .exact .inr (.inl ⟨rfl,h⟩)
  .exact .inr (.inr (.inl ⟨rfl,h⟩))
  .exact .inr (.inr (.inr (.inl ⟨rfl,h⟩)))
  .exact .inr (.inr (.inr (.inr (.inl ⟨rfl,h⟩))))
  .exact .inr (.inr (.inr (.inr (.inr (.inl ⟨rfl,h⟩)))))
  .exact .inr (.inr (.inr (.inr (.inr (.inr (⟨rfl,h⟩))))))
def ch7 (a0 a1 a2 a3 a4 a5 a6:Bool):(a0=false)∨(a0=true∧a1=false)∨(a0=true∧a1=true∧a2=false)∨(a0=true∧a1=true∧a2=true∧a3=false)∨(a0=true∧a1=true∧a2=true∧a3=true∧a4=false)∨(a0=true∧a1=true∧a2=true∧a3=true∧a4=true∧a5=false)∨(a0=true∧a1=true∧a2=true∧a3=true∧a4=true∧a5=true∧a6=false)∨(a0=true∧a1=true∧a2=true∧a3=true∧a4=true∧a5=true∧a6=true):=by
 cases a0
 .exact .inl rfl
 .rcases ch6 a1 a2 a3 a4 a5 a6 with h|h|h|h|h|h|h
  .exact .inr (.inl ⟨rfl,h⟩)
  .exact .inr (.inr (.inl ⟨rfl,h⟩))
  .exact .inr (.inr (.inr (.inl ⟨rfl,h⟩)))
  .exact .inr (.inr (.inr (.inr (.inl ⟨rfl,h⟩))))
  .exact .inr (.inr (.inr (.inr (.inr (.inl ⟨rfl,h⟩)))))
  .exact .inr (.inr (.inr (.inr (.inr (.inr (.inl ⟨rfl,h⟩))))))
  .exact .inr (.inr (.inr (.inr (.inr (.inr (.inr (⟨rfl,h⟩)))))))
def ch8 (a0 a1 a2 a3 a4 a5 a6 a7:Bool):(a0=false)∨(a0=true∧a1=false)∨(a0=true∧a1=true∧a2=false)∨(a0=true∧a1=true∧a2=true∧a3=false)∨(a0=true∧a1=true∧a2=true∧a3=true∧a4=false)∨(a0=true∧a1=true∧a2=true∧a3=true∧a4=true∧a5=false)∨(a0=true∧a1=true∧a2=true∧a3=true∧a4=true∧a5=true∧a6=false)∨(a0=true∧a1=true∧a2=true∧a3=true∧a4=true∧a5=true∧a6=true∧a7=false)∨(a0=true∧a1=true∧a2=true∧a3=true∧a4=true∧a5=true∧a6=true∧a7=true):=by
 cases a0
 .exact .inl rfl
 .rcases ch7 a1 a2 a3 a4 a5 a6 a7 with h|h|h|h|h|h|h|h
  .exact .inr (.inl ⟨rfl,h⟩)
  .exact .inr (.inr (.inl ⟨rfl,h⟩))
  .exact .inr (.inr (.inr (.inl ⟨rfl,h⟩)))
  .exact .inr (.inr (.inr (.inr (.inl ⟨rfl,h⟩))))
  .exact .inr (.inr (.inr (.inr (.inr (.inl ⟨rfl,h⟩)))))
  .exact .inr (.inr (.inr (.inr (.inr (.inr (.inl ⟨rfl,h⟩))))))
  .exact .inr (.inr (.inr (.inr (.inr (.inr (.inr (.inl ⟨rfl,h⟩)))))))
  .exact .inr (.inr (.inr (.inr (.inr (.inr (.inr (.inr (⟨rfl,h⟩))))))))
def ch9 (a0 a1 a2 a3 a4 a5 a6 a7 a8:Bool):(a0=false)∨(a0=true∧a1=false)∨(a0=true∧a1=true∧a2=false)∨(a0=true∧a1=true∧a2=true∧a3=false)∨(a0=true∧a1=true∧a2=true∧a3=true∧a4=false)∨(a0=true∧a1=true∧a2=true∧a3=true∧a4=true∧a5=false)∨(a0=true∧a1=true∧a2=true∧a3=true∧a4=true∧a5=true∧a6=false)∨(a0=true∧a1=true∧a2=true∧a3=true∧a4=true∧a5=true∧a6=true∧a7=false)∨(a0=true∧a1=true∧a2=true∧a3=true∧a4=true∧a5=true∧a6=true∧a7=true∧a8=false)∨(a0=true∧a1=true∧a2=true∧a3=true∧a4=true∧a5=true∧a6=true∧a7=true∧a8=true):=by
 cases a0
 .exact .inl rfl
 .rcases ch8 a1 a2 a3 a4 a5 a6 a7 a8 with h|h|h|h|h|h|h|h|h
  .exact .inr (.inl ⟨rfl,h⟩)
  .exact .inr (.inr (.inl ⟨rfl,h⟩))
  .exact .inr (.inr (.inr (.inl ⟨rfl,h⟩)))
  .exact .inr (.inr (.inr (.inr (.inl ⟨rfl,h⟩))))
  .exact .inr (.inr (.inr (.inr (.inr (.inl ⟨rfl,h⟩)))))
  .exact .inr (.inr (.inr (.inr (.inr (.inr (.inl ⟨rfl,h⟩))))))
  .exact .inr (.inr (.inr (.inr (.inr (.inr (.inr (.inl ⟨rfl,h⟩)))))))
  .exact .inr (.inr (.inr (.inr (.inr (.inr (.inr (.inr (.inl ⟨rfl,h⟩))))))))
  .exact .inr (.inr (.inr (.inr (.inr (.inr (.inr (.inr (.inr (⟨rfl,h⟩)))))))))
end Go.X
