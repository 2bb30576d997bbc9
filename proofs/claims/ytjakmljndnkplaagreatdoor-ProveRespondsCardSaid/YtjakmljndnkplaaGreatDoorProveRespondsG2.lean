/- Functions. -/
import Derived.Test.YtjakmljndnkplaaGreatDoorProveRespondsG1
import Derived.Lib.Bytealg
import Derived.Shelf.SlSortCmp.NoneTotal
open Array renaming getElem?_toList->Ck,getD_eq_getD_getElem?->Cr,getElem?_eq_some_iff->D6,getElem?_append_left->Ek,getElem?_eq_getElem->E7,getElem?_map->nq,getElem?_modify->Ac9
open Bool renaming and_eq_true->Bs,false_eq_true->B5,or_eq_true->Cy,not_eq_true'->Cn,or_eq_false_iff->Hb,false_or->Lx
open List renaming getElem?_eq_some_iff->Bp,getElem?_eq_getElem->Bt,mem_of_getElem?->B8,append_assoc->Cj,mem_cons->Cq,getElem?_append_right->Cb,length_pos_iff->Cg,getElem?_drop->Cl,getElem?_append_left->Cp,length_nil->C1,getElem?_take->C2,all_eq_true->C4,getD_eq_getElem?_getD->C9,getElem?_map->Dq,eq_nil_of_length_eq_zero->Dv,length_map->Dt,getElem?_cons_zero->D2,getElem?_range->D5,mem_map->Es,drop_zero->F3,mem_range->Hw,exists_mem_of_ne_nil->H2,mapM_cons->Lt,getElem?_replicate->Md,length_range->By5,getElem_take->By6,map_mergeSort->Jt8
open Nat renaming le_refl->B7,mul_le_mul_right->C0,zero_le->C3,add_mul->D1,mod_eq_of_lt->F2,mul_comm->Gk,zero_add->Gg,add_zero->Gh,one_mul->Gs,lt_of_lt_of_le->Hq,le_max_right->O5,mul_add_mod->Tf,le_max_left->Tg
open Option renaming bind_eq_some_iff->Bm,map_eq_some_iff->B0,bind_some->B3,map_some->Cf,isNone_iff_eq_none->Ex,isSome_iff_exists->Ed,isSome_none->m8
open Option.some renaming injEq->Bn
set_option maxHeartbeats 1000000
set_option linter.defProp false
set_option linter.unusedVariables false
set_option linter.unusedSimpArgs false
namespace Go.X
open Go Go.RowKit
section
variable {P:Program} {sig:Nat->Option Nat} {fn:Fns} {w0:Fr} {Oe:Nat->Option Nat} {N:Nat}
def Fp1 {func:Func} {args:List PV} {w:World} {O:Nat->Option Nat} {cargs:Array Value} (hg:Given w O func.params.size args cargs) (hl:args.length=func.params.size+func.nfree) (ht:func.params.size+func.nfree<=func.ntmps) {fa:Option Nat} (hfa:∀e,fa=some e->∃xs b,args[0]? =some (.l (Cv P e) xs)∧cargs[0]? =some (.slice b xs.length xs.length)):
  u6 ⟨w,none⟩ O args (Ux P none fa func) (cargs++Array.replicate (func.ntmps - cargs.size) undef) w:=by
 refine⟨fun _=>0,fun _=>undef,O,Bel.refl ⟨w,none⟩,fun _ _ _=>rfl,hg.out,?_,fun s b hs=>by simp[Ux,mget] at hs,fun s s' b b' hs=>by simp[Ux,mget] at hs,fun v hv=>by cases hv⟩;have hsz:=hg.size;refine Cm.mk (by simp[Ux];omega) fun j x v hx hv=> ?_;simp only[Ux,m8,B5,false_and,if_false] at hx;rw[Cj] at hx;by_cases h1:j<func.params.size
 .rw[Cp (by simpa using h1)] at hx;simp only[Dq,B0] at hx;obtain⟨k,hk,rfl⟩:=hx;rw[D5 h1] at hk;injection hk with hk;subst hk;have hp:args[j]? =some args[j]:=Bt (by omega);rw[Ck,Ek (by omega)] at hv;have hval:=hg.val j _ v h1 hp hv;have plain:Cc ⟨args,Dy w O,fun _=>0,fun _=>undef,(Ux P none fa func).m⟩ (.e (.v j)) v:=by simp only[Cc,E.ev];exact⟨args[j],hp,hval⟩
  by_cases hj0:j=0
  .rw[if_pos hj0];cases fa with
   |none=>exact plain
   |some e=>
    obtain⟨xs,b,h5,h6⟩:=hfa e rfl;subst hj0;rw[hp] at h5;injection h5 with h5;rw[hv] at h6;injection h6 with h6;simp only[Cc,E.ev];exact⟨xs,b,by rw[hp,h5],h6,by rw[<-h5];exact hval⟩
  .rw[if_neg hj0];exact plain
 .rw[Cb (by simpa using Nat.le_of_not_lt h1)] at hx;simp only[Dt,By5] at hx;by_cases h2:j<func.params.size+func.nfree
  .rw[Cp (by simp;omega)] at hx;simp only[Dq,B0] at hx;obtain⟨k,hk,rfl⟩:=hx;rw[D5 (by omega)] at hk;injection hk with hk;subst hk;simp only[Cc,E.ev,F3];have hjj:func.params.size+(j - func.params.size)=j:=by omega
   rw[hjj];have hp:args[j]? =some args[j]:=Bt (by omega);refine⟨args[j],hp,hg.cap j _ v (by omega) hp ?_⟩;rw[Ck,Ek (by omega)] at hv;exact hv
  .rw[Cb (by simp;omega),Md] at hx;split at hx
   .injection hx with hx;subst hx;simp only[Cc]
   .cases hx
def Own.mono' {B B':Nat->Prop} {w:World} {e size n:Nat} {v:Value} {xs:List Value} (h:Own w B e size v n xs) (hb:∀g,Ds v=some g->B' g):Own w B' e size v n xs:=by
 refine⟨h.1,?_⟩;rcases h.2 with h1|⟨g,cap,cur,h1,h2,h3,h4⟩
 .exact .inl h1
 .exact .inr ⟨g,cap,cur,h1,h2,hb g (by rw[h1];simp only[Ds,if_neg (show¬cap=0 by omega)]),h4⟩
def Dm7 {func:Func} {e:Nat} {r:Bool} {args:List PV} {w:World} {O:Nat->Option Nat} {cargs:Array Value} {v0:Value} {xs:List PV} {us:List Value} (hg:GivenM P e w O func.params.size args cargs v0 xs us) (hl:args.length=func.params.size+func.nfree) (ht:func.params.size+func.nfree<=func.ntmps):
  u6 ⟨w,some v0⟩ O args (Ux P (some (e,r)) none func) (cargs++Array.replicate (func.ntmps - cargs.size) undef) w:=by
 have hsz:=hg.size;have hpos:=hg.pos;have hmem:∀s b,mget (Ux P (some (e,r)) none func).m s=some b->s=S0∧b= .arr e (Cv P e) (.v 0) .no:=by
  intro s b hs;simp only[Ux,mget] at hs;split at hs
  .rename_i h1;injection hs with hs;exact⟨h1.symm,hs.symm⟩
  .cases hs
 have harg:∀v,(cargs++Array.replicate (func.ntmps - cargs.size) undef)[0]? =some v->v=v0:=by intro v hv;rw[Ek (by omega),hg.arg] at hv;injection hv with hv;exact hv.symm
 refine⟨fun _=>(Ds v0).getD 0,fun _=>v0,O,Bel.refl ⟨w,some v0⟩,fun _ _ _=>rfl,hg.out,?_,fun s b hs=> ?_,fun s s' b b' hs hs' hne=> ?_,fun v hv _=> ?_⟩
 .refine Cm.mk (by simp[Ux];omega) fun j x v hx hv=> ?_;simp only[Ux,Option.isSome_some,true_and] at hx;rw[Cj] at hx;by_cases h1:j<func.params.size
  .rw[Cp (by simpa using h1)] at hx;simp only[Dq,B0] at hx;obtain⟨k,hk,rfl⟩:=hx;rw[D5 h1] at hk;injection hk with hk;subst hk;by_cases hj:j=0
   .subst hj;simp only[if_true,Cc];exact harg v (by rw[<-Ck];exact hv)
   .simp only[if_neg hj,Cc,E.ev];have hp:args[j]? =some args[j]:=Bt (by omega);refine⟨args[j],hp,hg.val j _ v (by omega) h1 hp ?_⟩;rw[Ck,Ek (by omega)] at hv;exact hv
  .rw[Cb (by simpa using Nat.le_of_not_lt h1)] at hx;simp only[Dt,By5] at hx;by_cases h2:j<func.params.size+func.nfree
   .rw[Cp (by simp;omega)] at hx;simp only[Dq,B0] at hx;obtain⟨k,hk,rfl⟩:=hx;rw[D5 (by omega)] at hk;injection hk with hk;subst hk;simp only[Cc,E.ev,F3];have hjj:func.params.size+(j - func.params.size)=j:=by omega
    rw[hjj];have hp:args[j]? =some args[j]:=Bt (by omega);refine⟨args[j],hp,hg.cap j _ v (by omega) hp ?_⟩;rw[Ck,Ek (by omega)] at hv;exact hv
   .rw[Cb (by simp;omega),Md] at hx;split at hx
    .injection hx with hx;subst hx;simp only[Cc]
    .cases hx
 .obtain⟨rfl,rfl⟩:=hmem s b hs;refine⟨hg.sz,xs,us,?_,hg.own.mono' fun g hgb=> .inr hgb,hg.el,fun g hgb=> ?_,trivial⟩
  .show (E.v 0).ev args=_;simp only[E.ev];exact hg.fst
  .have hgb':Ds v0=some g:=hgb;refine⟨?_,0,hg.shut g hgb',C3 _,fun _=>rfl⟩;show g=(Ds v0).getD 0;rw[hgb'];rfl
 .obtain⟨rfl,_⟩:=hmem s b hs;obtain⟨rfl,_⟩:=hmem s' b' hs';exact absurd rfl hne
 .injection hv with hv;subst hv;rw[Ek (by omega)];exact hg.arg
def Bp5 {D:Type} {w:World} {g:D->Sem Value}:∀{l:List D} {us:List Value},us.length=l.length->(∀(j:Nat) (x:D) (u:Value),l[j]? =some x->us[j]? =some u->(g x).run P w= .ok u w)->(l.mapM g).run P w= .ok us w
 |[],us,hl,_=>by have:us=[]:=Dv (by simpa using hl);subst this;simp
 |x::l,[],hl,_=>by simp at hl
 |x::l,u::us,hl,h=>by have h1:=h 0 x u rfl rfl;have h2:=Bp5 (l:=l) (us:=us) (by simpa using hl) (fun j y v hy hv=>h (j+1) y v (by simpa using hy) (by simpa using hv));simp[Lt,h1,h2]
def gR (tm:Array Value):ResultVar->Sem Value
 | .tmp t=>pure (tm.getD t undef)
 | .cell a t=>do loadVar t (<-asAddr (tm.getD a undef))
def bg {func:Func} {U:St} {J:List PV} {tm:Array Value} {w:World} {K:Nat->Nat} {hv:Nat->Value} {O:Nat->Option Nat} {svs:List SV} (h:Rel w0 Oe J U tm w K hv O) (hs:Ot P U func.results.toList=some svs):
  ∃us,Cm ⟨J,Dy w O,K,hv,U.m⟩ svs us∧(Go.results func tm).run P w= .ok (if h:us.length=1 then us[0] else .tuple us.toArray) w:=by
 have go:∀{l:List ResultVar} {svs:List SV},Ot P U l=some svs->∃us:List Value,Cm ⟨J,Dy w O,K,hv,U.m⟩ svs us∧us.length=l.length∧∀(j:Nat) (x:ResultVar) (u:Value),l[j]? =some x->us[j]? =some u->
   (gR tm x).run P w= .ok u w:=by
  intro l
  induction l with
  |nil=>
   intro svs h;simp only[Ot,Bn] at h;subst h;exact⟨[],by simp only[Cm],rfl,fun j x u hx=>by simp at hx⟩
  |cons r l ih=>
   intro svs hs;simp only[Ot] at hs;split at hs
   .rename_i x xs hx hxs;injection hs with hs;subst hs;obtain⟨us,u1,u2,u3⟩:=ih hxs;have one:∃u,Cc ⟨J,Dy w O,K,hv,U.m⟩ x u∧(gR tm r).run P w= .ok u w:=by
     cases r with
     |tmp t=>
      simp only[Fs6] at hx;obtain⟨u,h1,h2⟩:=h.tmps.get t x hx;refine⟨u,h2,?_⟩;rw[Ck] at h1;simp[gR,Cr,h1]
     |cell p t=>
      simp only[Fs6] at hx;split at hx
      .rename_i sv hsv;split at hx
       .rename_i v hl;injection hx with hx;subst hx;obtain⟨u0,h1,h2⟩:=h.tmps.get p sv hsv;rw[Ck] at h1;obtain⟨ad,u,g1,g2,g3⟩:=Ef3 (G:=none) h (fun g hg=>by cases hg) h2 hl (fun x hx=>by simp at hx);subst g1;refine⟨u,g3,?_⟩;simp[gR,Cr,h1,asAddr,g2]
       .cases hx
      .cases hx
    obtain⟨u,v1,v2⟩:=one;refine⟨u::us,by simp only[Cm];exact⟨u,us,rfl,v1,u1⟩,by simp[u2],fun j y u' hy hu=> ?_⟩;cases j with
    |zero=>simp at hy hu;subst hy;subst hu;exact v2
    |succ j=>exact u3 j y u' (by simpa using hy) (by simpa using hu)
   .cases hs
 obtain⟨us,u1,u2,u3⟩:=go hs;refine⟨us,u1,?_⟩;have hm:=Bp5 (P:=P) (w:=w) (g:=gR tm) u2 u3;have e:Go.results func tm=(do let vs<-List.toArray<$>func.results.toList.mapM (gR tm);pure (if h:vs.size=1 then vs[0] else .tuple vs)):=by
  unfold Go.results;rw[Array.mapM_eq_mapM_toList];have he:∀x,(match x with|ResultVar.tmp t=>pure (tm.getD t undef)|ResultVar.cell a t=>do loadVar t (<-asAddr (tm.getD a undef)):Sem Value)=gR tm x:=fun x=>by cases x<;>rfl
  congr
 rw[e];simp only[Sem.run_bind,Sem.run_map];rw[hm];simp only[Result.andThen,Sem.run_pure];by_cases h1:us.length=1
 .rw[dif_pos h1];have:us.toArray.size=1:=by simpa using h1
  simp only[this,dif_pos];simp
 .rw[dif_neg h1];have:¬us.toArray.size=1:=by simpa using h1
  rw[dif_neg this]
def Ah3 {func:Func} {U:St} {J:List PV} {tm:Array Value} {w:World} {K:Nat->Nat} {hv:Nat->Value} {O:Nat->Option Nat} {cs:List SV} (h:Rel w0 Oe J U tm w K hv O) {svs:List SV} (hsv:Ot P U func.results.toList=some svs) (hs:Ug P U func.results.toList=some cs):
  ∃vs:Array Value,(Go.results func tm).run P w= .ok (.agg vs) w∧Cm ⟨J,Dy w O,K,hv,U.m⟩ cs vs.toList:=by
 have e:∀x:ResultVar,func.results.toList=[x]->∀v,(gR tm x).run P w= .ok v w->(Go.results func tm).run P w= .ok v w:=by
  intro x hx v hv1;have e:Go.results func tm=(do let vs<-List.toArray<$>func.results.toList.mapM (gR tm);pure (if h:vs.size=1 then vs[0] else .tuple vs)):=by
   unfold Go.results;rw[Array.mapM_eq_mapM_toList];have he:∀x,(match x with|ResultVar.tmp t=>pure (tm.getD t undef)|ResultVar.cell a t=>do loadVar t (<-asAddr (tm.getD a undef)):Sem Value)=gR tm x:=fun x=>by cases x<;>rfl
   congr
  rw[e,hx];simp[Lt,hv1,Result.andThen]
 unfold Ug at hs;split at hs
 .rename_i p t hr;split at hs
  .rename_i hag;split at hs
   .rename_i s off hp;split at hs
    .rename_i cs0 ro hb;injection hs with hs;subst hs;obtain⟨_,_,vs,T,g3,g4,g5,_⟩:=h.mem s _ hb;obtain⟨u0,h1,h2⟩:=h.tmps.get p _ hp;rw[Ck] at h1;simp only[Cc] at h2;subst h2;have hle:off+Cv P t<=cs0.length:=by
      rw[hr] at hsv;simp only[Ot,Fs6,hp] at hsv;unfold U4 at hsv;by_cases hle:off+Cv P t<=cs0.length
      .exact hle
      .simp only[hb,hag,if_true,if_neg hle] at hsv;split at hsv
       .rename_i hx _;split at hx
        .rename_i hl;split at hl<;>cases hl
        .cases hx
       .cases hsv
     have hlen:=g5.length;refine⟨((vs.toList.drop off).take (Cv P t)).toArray,e _ hr _ ?_,?_⟩
     .have:=Ox (P:=P) w (a:=⟨K s,off,none⟩) (us:=(vs.toList.drop off).take (Cv P t)) hag (by simp at hlen ⊢;omega) fun j u hu=>by
       rw[C2] at hu;split at hu
       .rw[Cl,Ck] at hu;rw[add_lit,cell_of_row w (K s) (off+j) vs T (0,0) g3];exact hu
       .cases hu
      simp[gR,Cr,h1,asAddr,this]
     .refine Cm.mk (by simp[hlen]) fun j y u hy hu=> ?_;rw[C2] at hy;split at hy
      .rename_i hj;have hu':((vs.toList.drop off).take (Cv P t))[j]? =some u:=by simpa using hu
       rw[C2,if_pos hj] at hu';rw[Cl] at hy hu';obtain⟨u',hu2,hr'⟩:=g5.get _ y hy;rw[hu'] at hu2;injection hu2 with hu2;subst hu2;exact hr'
      .cases hy
    .cases hs
   .cases hs
  .cases hs
 .rename_i t hr;split at hs
  .rename_i cs0 hp;injection hs with hs;subst hs;obtain⟨u0,h1,h2⟩:=h.tmps.get t _ hp;rw[Ck] at h1;simp only[Cc] at h2;obtain⟨vs,rfl,_,h3⟩:=h2;exact⟨vs,e _ hr _ (by simp[gR,Cr,h1]),h3⟩
  .cases hs
 .cases hs
def Ad3 (hC:Contract P sig fn) {f:Nat} (hmu:vk (sig f)=none) {func:Func} {H:Hints} {t:T} {args rs:List PV} (hf:P.funcs[f]? =some func) (hx:Fh1 P sig f func H=some t) (hev:t.ev fn N args=some (.ret rs)) (hl:args.length=func.params.size+func.nfree) {w:World} {O:Nat->Option Nat} {cargs:Array Value} (hg:Given w O func.params.size args cargs) (hfa:∀e,Ch2 (sig f)=some e->∃xs b,args[0]? =some (.l (Cv P e) xs)∧cargs[0]? =some (.slice b xs.length xs.length)):
  Calls P f cargs w fun e w'=>∃v,e= .returned v∧Gl6 P (sig f) w O rs v w':=by
 unfold Fh1 at hx;split at hx
 .rename_i c hb;split at hx
  .rename_i ht;rw[hmu] at hx;simp only[m8,B5,false_and,if_false] at hx;refine calls_of_wp hf hb ?_;refine Wh hC c 0 0 (Ux P none (Ch2 (sig f)) func) _ t args (.ret rs) _ w _ hx hev (by rw[hl];rfl) (Fp1 hg hl ht hfa) ?_;intro x σ' T' η' Z a' w' h1 h2 h3 h4 h5 h6;have main:∀svs,Ot P σ' func.results.toList=some svs->(match rkOf (sig f) with
     | .own e=>Zv P σ' e svs
     | .ownt e=>U7 P σ' e svs
     | .full nl m=>match Ug P σ' func.results.toList with
       |some cs=>if Bp4 nl m cs then(Bb8 σ'.m svs).map fun r=> .ret r.1 else none
       |none=>none
     | .plain=>(Bb8 σ'.m svs).map fun r=> .ret r.1)=some T'->∃v,(Go.results func a'.tmps).run P w'= .ok v w'∧Gl6 P (sig f) w O rs v w':=by
    intro svs hs hT;obtain⟨K,hv,O',rel⟩:=h5;obtain⟨us,u1,u2⟩:=bg rel hs;refine⟨_,u2,rel.bel.below rfl,?_⟩;have plainly:((Bb8 σ'.m svs).map fun r=>T.ret r.1)=some T'->∃O'',(∀c,c<w.heap.size->O'' c=O c)∧(∀c,w'.heap.size<=c->O'' c=none)∧Qr (Dy w' O'') rs (if h:us.length=1 then us[0] else .tuple us.toArray):=by
     intro hT;obtain⟨⟨es,ss⟩,he,rfl⟩:=B0.1 hT;obtain⟨O'',hrel,hM,hop,_⟩:=rel.frz ss (n:=0);obtain⟨ps,q1,q2,q3⟩:=aw rel hM he u1 (fun s hs=>hop s (by simpa using hs));simp only[T.ev,B0] at h2;obtain⟨vs,hvs,hret⟩:=h2;injection hret with hret;subst hret;rw[q1] at hvs;injection hvs with hvs;subst hvs;refine⟨O'',fun c hc=>hrel.ext c hc (by simp[Fr.x]),hrel.out,?_⟩;show Qr (Dy w' O'') ps _
     match ps,us,q2,q3 with
     |[p],[u],_,q3=>exact q3 0 p u rfl rfl
     |[],[],_,_=>exact⟨#[],by simp,rfl,fun j p u hp=>by simp at hp⟩
     |p::p'::ps,u::u'::us,q2,q3=>
      have:¬(u::u'::us).length=1:=by simp
      rw[dif_neg this];exact⟨_,rfl,by simpa using q2.symm,fun j p v hp hv=>q3 j p v hp (by simpa using hv)⟩
     |[],_::_,q2,_=>simp at q2
     |_::_,[],q2,_=>simp at q2
     |[_],_::_::_,q2,_=>simp at q2
     |_::_::_,[_],q2,_=>simp at q2
    cases hsig:rkOf (sig f) with
    |plain=>
     rw[hsig] at hT;exact plainly hT
    |full nl m=>
     rw[hsig] at hT;simp only at hT;split at hT
     .rename_i cs hcs;split at hT
      .rename_i hmask;obtain⟨O'',g1,g2,g3⟩:=plainly hT;refine⟨O'',g1,g2,g3,?_⟩;have hagg:∃vs:Array Value,(Go.results func a'.tmps).run P w'= .ok (.agg vs) w'∧Cm ⟨η',Dy w' O',K,hv,σ'.m⟩ cs vs.toList:=Ah3 rel hs hcs;obtain⟨vs,hrun,hcells⟩:=hagg;rw[u2] at hrun;injection hrun with hrun _;rw[hrun];intro j hj;simp only[Bp4,Bs,decide_eq_true_eq,C4,Hw,Cy,Cn] at hmask;have hjl:j<cs.length:=by
        rcases Nat.lt_or_ge j cs.length with h|h
        .exact h
        .have:=Nat.testBit_lt_two_pow (Hq hmask.1 (Nat.pow_le_pow_right (by omega) h));rw[this] at hj;cases hj
       have hcj:cs[j]? =some cs[j]:=Bt hjl;obtain⟨u,hu,hru⟩:=hcells.get j _ hcj;rw[Ck] at hu;have hnr:=(hmask.2 j hjl).resolve_left (by rw[hj];simp);have hgd:cs.getD j .und=cs[j]:=by simp[C9,hcj]
       rw[hgd] at hnr;generalize cs[j]=x at hru hnr;cases x with
       |nil sz=>
        simp only[Cc] at hru;exact⟨vs,none,0,rfl,by rw[hu,hru],fun _=>⟨rfl,rfl⟩⟩
       |lit sz y=>
        simp only[Cc] at hru;obtain⟨xs,b,_,h5,_⟩:=hru;refine⟨vs,b,xs.length,rfl,by rw[hu,h5],fun hn=> ?_⟩;rw[hn] at hnr;simp[SV.noRoom] at hnr
       |_=>simp[SV.noRoom] at hnr
      .cases hT
     .cases hT
    |ownt e=>
     rw[hsig] at hT;simp only at hT;refine⟨O',fun c hc=>rel.ext c hc (by simp[Fr.x]),rel.out,?_⟩;unfold U7 at hT;split at hT
     .rename_i s y;split at hT
      .rename_i e' sz x lk hb';split at hT
       .rename_i hcond;obtain⟨rfl,rfl⟩:=hcond;injection hT with hT;subst hT;obtain⟨q0,xs,cs,q1,q2,q3,q4,_⟩:=rel.mem s _ hb';have q1':x.ev η'=some (.l (Cv P e') xs):=q1;simp only[Cm,Cc] at u1;obtain⟨v,r,rfl,hv1,v2,r2,rfl,⟨p,hp,hrep⟩,rfl⟩:=u1;have hp':y.ev η'=some p:=hp;simp only[T.ev,E.evs,q1',hp',B3,Cf,Bn,Out.ret.injEq] at h2;refine⟨q0,xs,cs,p,v,v2,h2.symm,rfl,?_,q3,fun g hg'=> ?_,hrep⟩
        .rw[hv1];refine q2.mono fun g hg=> ?_;rcases hg with hg|hg
         .exact hg
         .simp[Fr.x] at hg
        .rw[hv1] at hg';obtain⟨_,lim,h7,_,h8⟩:=q4 g hg';rw[h7,h8 rfl]
       .cases hT
      .cases hT
     .rename_i sz y;split at hT
      .rename_i hcond;obtain⟨rfl,h0⟩:=hcond;injection hT with hT;subst hT;simp only[Cm,Cc] at u1;obtain⟨v,r,rfl,hv1,v2,r2,rfl,⟨p,hp,hrep⟩,rfl⟩:=u1;have hp':y.ev η'=some p:=hp;simp only[T.ev,E.evs,E.ev,hp',B3,Cf,Bn,Out.ret.injEq] at h2;refine⟨h0,[],[],p,v,v2,h2.symm,rfl,?_,fun i x hx=>by simp at hx,fun g hg'=> ?_,hrep⟩
       .rw[hv1];exact⟨by simp,.inl ⟨none,rfl,rfl⟩⟩
       .rw[hv1] at hg';simp[Ds] at hg'
      .cases hT
     .cases hT
    |own e=>
     rw[hsig] at hT;simp only at hT;refine⟨O',fun c hc=>rel.ext c hc (by simp[Fr.x]),rel.out,?_⟩;unfold Zv at hT;split at hT
     .rename_i s;split at hT
      .rename_i e' sz x lk hb';split at hT
       .rename_i hcond;obtain⟨rfl,rfl⟩:=hcond;injection hT with hT;subst hT;obtain⟨q0,xs,cs,q1,q2,q3,q4,_⟩:=rel.mem s _ hb';have q1':x.ev η'=some (.l (Cv P e') xs):=q1;simp only[T.ev,E.evs,q1',B3,Cf,Bn,Out.ret.injEq] at h2;simp only[Cm,Cc] at u1;obtain⟨v,r,rfl,hv1,rfl⟩:=u1;refine⟨q0,xs,cs,h2.symm,?_,q3,fun g hg'=> ?_⟩
        .show Own w' (Cs4 w.heap.size) e' (Cv P e') v xs.length cs;rw[hv1];refine q2.mono fun g hg=> ?_;rcases hg with hg|hg
         .exact hg
         .simp[Fr.x] at hg
        .have hg2:Ds v=some g:=hg';rw[hv1] at hg2;obtain⟨_,lim,h7,_,h8⟩:=q4 g hg2;rw[h7,h8 rfl]
       .cases hT
      .cases hT
     .rename_i sz;split at hT
      .rename_i hcond;obtain⟨rfl,h0⟩:=hcond;injection hT with hT;subst hT;simp only[T.ev,E.evs,E.ev,B3,Cf,Bn,Out.ret.injEq] at h2;simp only[Cm,Cc] at u1;obtain⟨v,r,rfl,hv1,rfl⟩:=u1;refine⟨h0,[],[],h2.symm,?_,fun i x hx=>by simp at hx,fun g hg'=> ?_⟩
       .show Own w' (Cs4 w.heap.size) e (Cv P e) v 0 [];rw[hv1];exact⟨by simp,.inl ⟨none,rfl,rfl⟩⟩
       .have hg2:Ds v=some g:=hg';rw[hv1] at hg2;simp[Ds] at hg2
      .cases hT
     .rename_i sz x;split at hT
      .rename_i hcond;obtain⟨rfl,h0⟩:=hcond;injection hT with hT;subst hT;simp only[Cm,Cc] at u1;obtain⟨v,r,rfl,hv1,rfl⟩:=u1;obtain⟨xs,b,hxe,hvb,_⟩:=hv1;have hxe':x.ev η'=some (.l (Cv P e) xs):=hxe;simp only[T.ev,W.ev,Iz9,E.ev,E.evs,hxe',Hj,X.bin,Hp,B3,if_true] at h2;have hx0:xs=[]:=by
        by_cases hx0:xs=[]
        .exact hx0
        .have hl:((xs.length:Int)==0)=false:=by have:=Cg.2 hx0;simp;omega
         rw[hl] at h2;simp[PV.scal] at h2
       subst hx0;simp only[C1] at h2;have hrs:[PV.l (Cv P e) []]=rs:=by simpa using h2
       refine⟨h0,[],[],hrs.symm,?_,fun i x hx=>by simp at hx,fun g hg'=> ?_⟩
       .show Own w' (Cs4 w.heap.size) e (Cv P e) v 0 [];rw[hvb];exact⟨by simp,.inl ⟨b,rfl,rfl⟩⟩
       .have hg2:Ds v=some g:=hg';rw[hvb] at hg2;cases b<;>simp[Ds] at hg2
      .cases hT
     .cases hT
   unfold Ht5 at h1;simp only[hmu] at h1;have fin:∀svs,Ot P σ' func.results.toList=some svs->(match rkOf (sig f) with
     | .own e=>Zv P σ' e svs
     | .ownt e=>U7 P σ' e svs
     | .full nl m=>match Ug P σ' func.results.toList with
       |some cs=>if Bp4 nl m cs then(Bb8 σ'.m svs).map fun r=> .ret r.1 else none
       |none=>none
     | .plain=>(Bb8 σ'.m svs).map fun r=> .ret r.1)=some T'->a'.defers=[]∧∃v,(Go.results func a'.tmps).run P w'= .ok v w'∧∃v',Ending.returned v= .returned v'∧Gl6 P (sig f) w O rs v' w':=by
    intro svs hs hT;obtain⟨v,k1,k2⟩:=main svs hs hT;exact⟨h6,v,k1,v,rfl,k2⟩
   cases x with
   |exit b=>simp at h1
   |normal=>
    simp only at h1;split at h1
    .rename_i svs hs;exact fin svs hs h1
    .cases h1
   |ret=>
    simp only at h1;split at h1
    .rename_i svs hs;exact fin svs hs h1
    .cases h1
  .cases hx
 .cases hx
def Fl3 (hC:Contract P sig fn) {f e:Nat} {r:Bool} (hmu:vk (sig f)=some (e,r)) {func:Func} {H:Hints} {t:T} {args rs:List PV} (hf:P.funcs[f]? =some func) (hx:Fh1 P sig f func H=some t) (hev:t.ev fn N args=some (.ret rs)) (hl:args.length=func.params.size+func.nfree) {w:World} {O:Nat->Option Nat} {cargs:Array Value} {v0:Value} {xs:List PV} {us:List Value} (hg:GivenM P e w O func.params.size args cargs v0 xs us):
  Calls P f cargs w fun en w'=>∃v,en= .returned v∧Cr6 P e r v0 w O rs v w':=by
 unfold Fh1 at hx;split at hx
 .rename_i c hb;split at hx
  .rename_i ht;rw[hmu,Et9 hmu] at hx;have hpos:=hg.pos;have hnp:¬((some (e,r):Option (Nat×Bool)).isSome=true∧func.params.size=0):=fun h=>by omega
   rw[if_neg hnp] at hx;refine calls_of_wp hf hb ?_;refine Wh hC c 0 0 (Ux P (some (e,r)) none func) _ t args (.ret rs) _ w _ hx hev (by rw[hl];rfl) (Dm7 hg hl ht) ?_;intro x σ' T' η' Z a' w' h1 h2 h3 h4 h5 h6;have main:∀svs,Ot P σ' func.results.toList=some svs->Br1 P σ' e r svs=some T'->∃v,(Go.results func a'.tmps).run P w'= .ok v w'∧Cr6 P e r v0 w O rs v w':=by
    intro svs hs hT;obtain⟨K,hv,O',rel⟩:=h5;obtain⟨us1,u1,u2⟩:=bg rel hs;refine⟨_,u2,rel.bel,O',fun c hc hx=>rel.ext c hc hx,rel.out,?_⟩;unfold Br1 at hT;split at hT
    .rename_i s hsel;split at hT
     .rename_i e' sz x lk hb';split at hT
      .rename_i hcond;obtain⟨rfl,rfl⟩:=hcond;injection hT with hT;subst hT;obtain⟨q0,ys,cs,q1,q2,q3,q4,_⟩:=rel.mem s _ hb';have q1':x.ev η'=some (.l (Cv P e') ys):=q1;simp only[T.ev,E.evs,q1',B3,Cf,Bn,Out.ret.injEq] at h2;refine⟨ys,cs,h2.symm,q3,fun hr=> ?_,fun hr=> ?_⟩
       .subst hr;simp only[if_true] at hsel;split at hsel
        .rename_i s';injection hsel with hsel;subst hsel;simp only[Cm,Cc] at u1;obtain⟨v,r1,rfl,hv1,rfl⟩:=u1;refine⟨?_,fun g hg'=> ?_⟩
         .show Own w' _ e' (Cv P e') v ys.length cs;rw[hv1];exact q2
         .have hg2:Ds v=some g:=hg';rw[hv1] at hg2;obtain⟨_,lim,h7,_,h8⟩:=q4 g hg2;rw[h7,h8 rfl]
        .cases hsel
       .subst hr;simp only[B5,if_false] at hsel;split at hsel
        .rename_i s' ht0;split at hsel
         .rename_i hs0;injection hsel with hsel;subst hsel;subst hs0;have hvs:hv S0=v0:=by have g1:=rel.t0 v0 rfl ht0;obtain⟨v,g2,g3⟩:=rel.tmps.get 0 _ ht0;rw[Ck,g1] at g2;injection g2 with g2;simp only[Cc] at g3;rw[<-g3,g2]
          simp only[Cm] at u1;subst u1;refine⟨rfl,?_,fun g hg'=> ?_⟩
          .have:=q2.mono (B':=fun _=>True) fun _ _=>trivial;show Own w' _ e' (Cv P e') v0 ys.length cs;rw[<-hvs];exact this
          .have hg2:Ds (hv S0)=some g:=by rw[hvs];exact hg'
           obtain⟨_,lim,h7,_,h8⟩:=q4 g hg2;rw[h7,h8 rfl]
         .cases hsel
        .cases hsel
      .cases hT
     .cases hT
    .cases hT
   unfold Ht5 at h1;simp only[hmu] at h1;have fin:∀svs,Ot P σ' func.results.toList=some svs->Br1 P σ' e r svs=some T'->a'.defers=[]∧∃v,(Go.results func a'.tmps).run P w'= .ok v w'∧∃v',Ending.returned v= .returned v'∧Cr6 P e r v0 w O rs v' w':=by intro svs hs hT;obtain⟨v,k1,k2⟩:=main svs hs hT;exact⟨h6,v,k1,v,rfl,k2⟩
   cases x with
   |exit b=>simp at h1
   |normal=>
    simp only at h1;split at h1
    .rename_i svs hs;exact fin svs hs h1
    .cases h1
   |ret=>
    simp only at h1;split at h1
    .rename_i svs hs;exact fin svs hs h1
    .cases h1
  .cases hx
 .cases hx
def Cp2 (sig:Nat->Option Nat) (f:Nat) (func:Func):Nat:=func.params.size+if(vk (sig f)).isSome||(Ch2 (sig f)).isSome then TAG else 0
def Tab (P:Program) (sig:Nat->Option Nat) (tab:Nat->Option FT):Prop:=
 (∀ f ft, tab f = some ft → ∃ func H, P.funcs[f]? = some func ∧ (func.name == "runtime.NumGoroutine") = false ∧ Cp2 sig f func = ft.np ∧ func.params.size < TAG ∧ func.nfree = ft.nf ∧ ∃ t, Fh1 P sig f func H = some t ∧ t.slim = ft.t) ∧ Jt7 P sig
def Z2 {f:Nat} {func:Func} {H:Hints} {t:T} (hx:Fh1 P sig f func H=some t):func.body.isSome=true:=by
 unfold Fh1 at hx;split at hx
 .rename_i h;rw[h];rfl
 .cases hx
def Dp9 {tab:Nat->Option FT} {ext:Fns->Fns} (hT:Tab P sig tab) (hE:∀fn,Contract P sig fn->Contract P sig (ext fn)):∀k,Contract P sig (Tl tab ext k)
 |0=>⟨fun f n vs rs h=>by simp[Tl] at h,hT.2⟩
 |k+1=>by
  refine⟨fun f n vs rs h=> ?_,hT.2⟩
  ·
   have ih:=Dp9 hT hE k;simp only[Tl] at h;split at h
   .rename_i ft hft;split at h
    .rename_i hc;obtain⟨o,ho,h⟩:=Bm.1 h;split at h
     .rename_i vs';injection h with h;subst h;obtain⟨func,H,hf,hn,hp,hlt,hnf,t0,hx,hs⟩:=hT.1 f ft hft;rw[<-hs,J9] at ho;obtain⟨hc1,hc2⟩:=hc;unfold Cp2 at hp;refine⟨fun hn1 w O args hg=> ?_,fun hn1=> ?_⟩
      .have hno:((vk (sig f)).isSome||(Ch2 (sig f)).isSome)=false:=by
        cases hb:((vk (sig f)).isSome||(Ch2 (sig f)).isSome) with
        |false=>rfl
        |true=>
         rw[hb] at hp;simp only[if_true] at hp;omega
       rw[hno] at hp;simp only[B5,if_false,Gh] at hp;simp only[Hb,Option.isSome_eq_false_iff,Ex] at hno;obtain⟨hmu,hfa⟩:=hno;refine K2.of_calls hf hn (Z2 hx) ?_;refine Ad3 ih hmu hf hx ho ?_ (by rw[hp,hc1];exact hg) (fun e he=>by rw[hfa] at he;cases he);rw[hc2,<-hp,F2 hlt,hnf]
      .have hyes:((vk (sig f)).isSome||(Ch2 (sig f)).isSome)=true:=by
        cases hb:((vk (sig f)).isSome||(Ch2 (sig f)).isSome) with
        |true=>rfl
        |false=>
         rw[hb] at hp;simp only[B5,if_false] at hp;omega
       rw[hyes] at hp;simp only[if_true] at hp;have e1:n - TAG=func.params.size:=by omega
       have e2:(func.params.size+TAG) % TAG=func.params.size:=by rw[Nat.add_mod_right];exact F2 hlt
       cases hmu:vk (sig f) with
       |some er=>
        obtain⟨e,r⟩:=er;refine .inl ⟨e,r,rfl,fun w O args v0 xs us hg=> ?_⟩;refine K2.of_calls hf hn (Z2 hx) ?_;rw[e1] at hg;refine Fl3 ih hmu hf hx ho ?_ hg;rw[hc2,<-hp,e2,hnf]
       |none=>
        rw[hmu] at hyes;simp only[m8,Lx] at hyes;obtain⟨e,hfa⟩:=Ed.1 hyes;refine .inr ⟨e,hfa,fun w O args b xs hg h0 h5=> ?_⟩;refine K2.of_calls hf hn (Z2 hx) ?_;rw[e1] at hg;refine Ad3 ih hmu hf hx ho ?_ hg (fun e' he=> ?_)
        .rw[hc2,<-hp,e2,hnf]
        .rw[hfa] at he;injection he with he;subst he;exact⟨xs,b,h0,h5⟩
     .cases h
    .cases h
   .exact(hE _ ih).says f n vs rs h
end
open Go
def Fle (fn fn':Fns):Prop:=∀f n vs rs,fn f n vs=some rs->fn' f n vs=some rs
def Fle.refl (fn:Fns):Fle fn fn:=fun _ _ _ _ h=>h
def Fle.trans {a b c:Fns} (h:Fle a b) (h':Fle b c):Fle a c:=fun f n vs rs e=>h' f n vs rs (h f n vs rs e)
def Wm {flat:Bool} {m:Nat} {J η':List PV} {r r':Option (List PV)} (hr:∀rs,r=some rs->r'=some rs) (h:results flat m J r=some η'):results flat m J r'=some η':=by unfold results at h ⊢;obtain⟨rs,h1,h2⟩:=Bm.1 h;rw[hr rs h1];exact h2
def lp {J η':List PV} {m:Nat} {g:Option E} {r r':Option (List PV)} (hr:∀x,r=some x->r'=some x) (h:G6 J m g r=some η'):G6 J m g r'=some η':=by
 unfold G6 at h ⊢;split at h
 .exact hr _ h
 .obtain⟨v,h1,h2⟩:=Bm.1 h;rw[h1];simp only[B3];split at h2
  .exact hr _ h2
  .exact h2
  .cases h2
def W.ev_le {fn fn':Fns} (hf:Fle fn fn') {J η':List PV}:∀{x:W},x.ev fn J=some η'->x.ev fn' J=some η'
 | .chk x,h=>h
 | .call g flat f ar m,h=>by simp only[W.ev] at h ⊢;refine lp (fun x hx=> ?_) h;obtain⟨vs,h1,h2⟩:=Bm.1 hx;rw[h1];exact Wm (fun rs hr=>hf _ _ _ _ hr) h2
 | .clo g flat c ar m,h=>by
   simp only[W.ev] at h ⊢;refine lp (fun x hx=> ?_) h;obtain⟨q,h0,hx⟩:=Bm.1 hx;obtain⟨vs,h1,h2⟩:=Bm.1 hx;rw[h0];simp only[B3];rw[h1];simp only[B3];split at h2
   .exact Wm (fun rs hr=>hf _ _ _ _ hr) h2
   .cases h2
 | .mcall f ar,h=>by simp only[W.ev] at h ⊢;obtain⟨vs,h1,h2⟩:=Bm.1 h;rw[h1];exact Wm (fun rs hr=>hf _ _ _ _ hr) h2
def bz {s s':List PV->Option Out} (hs:∀vs o,s vs=some o->s' vs=some o) {id:Nat}:∀{n n':Nat} {st:List PV} {o:Out},n<=n'->It s id n st=some o->It s' id n' st=some o
 |0,_,_,_,_,h=>by simp[It] at h
 |n+1,0,_,_,hn,_=>by omega
 |n+1,n'+1,st,o,hn,h=>by
  simp only[It] at h ⊢;obtain⟨o1,h1,h2⟩:=Bm.1 h;rw[hs _ _ h1];simp only[B3];split at h2
  .split at h2
   .rename_i hj;rw[if_pos hj];exact bz hs (by omega) h2
   .rename_i hj;rw[if_neg hj];exact h2
  .exact h2
def T.ev_le {fn fn':Fns} (hf:Fle fn fn') {N N':Nat} (hN:N<=N'):∀{t:T} {J:List PV} {o:Out},t.ev fn N J=some o->t.ev fn' N' J=some o
 | .w x k,J,o,h=>by simp only[T.ev] at h ⊢;obtain⟨η',h1,h2⟩:=Bm.1 h;rw[W.ev_le hf h1];exact T.ev_le hf hN h2
 | .ite c t e,J,o,h=>by
   simp only[T.ev] at h ⊢;obtain⟨r,h1,h2⟩:=Bm.1 h;rw[h1];simp only[B3];split at h2
   .exact T.ev_le hf hN h2
   .exact T.ev_le hf hN h2
   .cases h2
 | .ret es,J,o,h=>h
 | .yld id es,J,o,h=>h
 | .blk id body k,J,o,h=>by
   simp only[T.ev] at h ⊢;obtain⟨o1,h1,h2⟩:=Bm.1 h;rw[T.ev_le hf hN h1];simp only[B3];split at h2
   .split at h2
    .rename_i hj;rw[if_pos hj];exact T.ev_le hf hN h2
    .rename_i hj;rw[if_neg hj];exact h2
   .exact h2
 | .loop id init body,J,o,h=>by simp only[T.ev] at h ⊢;obtain⟨st,h1,h2⟩:=Bm.1 h;rw[h1];exact bz (fun vs o ho=>T.ev_le hf hN ho) hN h2
def K8 (ext:Fns->Fns):Prop:=∀fn fn',Fle fn fn'->Fle (ext fn) (ext fn')
section
variable {tab:Nat->Option FT} {ext:Fns->Fns}
def yd (hE:K8 ext):∀k,Fle (Tl tab ext k) (Tl tab ext (k+1))
 |0=>fun f n vs rs h=>by simp[Tl] at h
 |k+1=>fun f n vs rs h=>by
  have ih:=yd hE k;rw[Tl] at h ⊢;cases ht:tab f with
  |none=>simp only[ht] at h ⊢;exact hE _ _ ih _ _ _ _ h
  |some t=>
   simp only[ht] at h ⊢;split at h
   .rename_i hc;rw[if_pos hc];obtain⟨o,h1,h2⟩:=Bm.1 h;rw[T.ev_le ih (Nat.le_succ k) h1];exact h2
   .cases h
def Kj (hE:K8 ext) {k k':Nat} (h:k<=k'):Fle (Tl tab ext k) (Tl tab ext k'):=by
 induction h with
 |refl=>exact Fle.refl _
 |step _ ih=>exact ih.trans (yd hE _)
open Classical in
noncomputable def sem (tab:Nat->Option FT) (ext:Fns->Fns):Fns:=fun f n args=>
 if h:∃rs k,Tl tab ext k f n args=some rs then some h.choose else none
def S2 (hE:K8 ext) {f n:Nat} {args rs:List PV}:sem tab ext f n args=some rs↔∃k,Tl tab ext k f n args=some rs:=by
 unfold sem;constructor
 .intro h;split at h
  .rename_i hex;injection h with h;subst h;exact hex.choose_spec
  .cases h
 .rintro⟨k,hk⟩;have hex:∃rs k,Tl tab ext k f n args=some rs:=⟨rs,k,hk⟩;rw[dif_pos hex];obtain⟨k',hk'⟩:=hex.choose_spec;have h1:=Kj hE (Tg k k') _ _ _ _ hk;have h2:=Kj hE (O5 k k') _ _ _ _ hk';rw[h1] at h2;exact h2.symm
def W.ev_cont (hE:K8 ext) {J η':List PV}:∀{x:W},x.ev (sem tab ext) J=some η'->∃k,x.ev (Tl tab ext k) J=some η':=by
 have res:∀{flat:Bool} {m f n:Nat} {vs:List PV},results flat m J (sem tab ext f n vs)=some η'->∃k,results flat m J (Tl tab ext k f n vs)=some η':=by intro flat m f n vs h;unfold results at h;obtain⟨rs,h1,h2⟩:=Bm.1 h;obtain⟨k,hk⟩:=(S2 hE).1 h1;exact⟨k,by unfold results;rw[hk];exact h2⟩
 intro x h;cases x with
 |chk x=>exact⟨0,h⟩
 |call g flat f ar m=>
  simp only[W.ev] at h ⊢;unfold G6 at h ⊢;split at h
  .obtain⟨vs,h1,h2⟩:=Bm.1 h;obtain⟨k,hk⟩:=res h2;exact⟨k,by rw[h1];exact hk⟩
  .obtain⟨v,h0,h⟩:=Bm.1 h;split at h
   .obtain⟨vs,h1,h2⟩:=Bm.1 h;obtain⟨k,hk⟩:=res h2;exact⟨k,by rw[h0];simp only[B3];rw[h1];exact hk⟩
   .exact⟨0,by rw[h0];exact h⟩
   .cases h
 |clo g flat c ar m=>
  have body:((c.ev J).bind fun q=>(E.evs J ar).bind fun vs=>match q with| .f f caps=>results flat m J (sem tab ext f vs.length (vs++caps))|_=>none)=some η'->∃k,((c.ev J).bind fun q=>(E.evs J ar).bind fun vs=>match q with| .f f caps=>results flat m J (Tl tab ext k f vs.length (vs++caps))|_=>none)=some η':=by
   intro hh;obtain⟨q,h0,hh⟩:=Bm.1 hh;obtain⟨vs,h1,hh⟩:=Bm.1 hh;cases q with
   |f f caps=>
    obtain⟨k,hk⟩:=res hh;exact⟨k,by rw[h0];simp only[B3];rw[h1];exact hk⟩
   |_=>simp at hh
  simp only[W.ev] at h ⊢;unfold G6 at h ⊢;split at h
  .exact body h
  .obtain⟨v,h0,h⟩:=Bm.1 h;split at h
   .obtain⟨k,hk⟩:=body h;exact⟨k,by rw[h0];exact hk⟩
   .exact⟨0,by rw[h0];exact h⟩
   .cases h
 |mcall f ar=>
  simp only[W.ev] at h ⊢;obtain⟨vs,h1,h2⟩:=Bm.1 h;obtain⟨k,hk⟩:=res h2;exact⟨k,by rw[h1];exact hk⟩
def T.ev_cont (hE:K8 ext) {N:Nat}:∀{t:T} {J:List PV} {o:Out},t.ev (sem tab ext) N J=some o->∃k,t.ev (Tl tab ext k) N J=some o
 | .w x t,J,o,h=>by simp only[T.ev] at h ⊢;obtain⟨η',h1,h2⟩:=Bm.1 h;obtain⟨k1,g1⟩:=W.ev_cont hE h1;obtain⟨k2,g2⟩:=T.ev_cont hE h2;refine⟨max k1 k2,?_⟩;rw[W.ev_le (Kj hE (Tg k1 k2)) g1];exact T.ev_le (Kj hE (O5 k1 k2)) (B7 _) g2
 | .ite c t e,J,o,h=>by
   simp only[T.ev] at h ⊢;obtain⟨r,h1,h2⟩:=Bm.1 h;split at h2
   .obtain⟨k,g⟩:=T.ev_cont hE h2;exact⟨k,by rw[h1];exact g⟩
   .obtain⟨k,g⟩:=T.ev_cont hE h2;exact⟨k,by rw[h1];exact g⟩
   .cases h2
 | .ret es,J,o,h=>⟨0,h⟩
 | .yld id es,J,o,h=>⟨0,h⟩
 | .blk id body t,J,o,h=>by
   simp only[T.ev] at h ⊢;obtain⟨o1,h1,h2⟩:=Bm.1 h;obtain⟨k1,g1⟩:=T.ev_cont hE h1;split at h2
   .split at h2
    .rename_i hj;obtain⟨k2,g2⟩:=T.ev_cont hE h2;refine⟨max k1 k2,?_⟩;rw[T.ev_le (Kj hE (Tg k1 k2)) (B7 _) g1];simp only[B3];rw[if_pos hj];exact T.ev_le (Kj hE (O5 k1 k2)) (B7 _) g2
    .rename_i hj;exact⟨k1,by rw[g1];simp only[B3];rw[if_neg hj];exact h2⟩
   .exact⟨k1,by rw[g1];exact h2⟩
 | .loop id init body,J,o,h=>by
   simp only[T.ev] at h ⊢;obtain⟨st,h1,h2⟩:=Bm.1 h;have key:∀(n:Nat) (st:List PV),It (fun vs=>body.ev (sem tab ext) N (J++vs)) id n st=some o->∃k,It (fun vs=>body.ev (Tl tab ext k) N (J++vs)) id n st=some o:=by
    intro n
    induction n with
    |zero=>intro st h;simp[It] at h
    |succ n ih=>
     intro st h;simp only[It] at h ⊢;obtain⟨o1,h1,h2⟩:=Bm.1 h;obtain⟨k1,g1⟩:=T.ev_cont hE h1;split at h2
     .split at h2
      .rename_i hj;obtain⟨k2,g2⟩:=ih _ h2;refine⟨max k1 k2,?_⟩;rw[T.ev_le (Kj hE (Tg k1 k2)) (B7 _) g1];simp only[B3];rw[if_pos hj];exact bz (fun vs o ho=>T.ev_le (Kj hE (O5 k1 k2)) (B7 _) ho) (B7 _) g2
      .rename_i hj;exact⟨k1,by rw[g1];simp only[B3];rw[if_neg hj];exact h2⟩
     .exact⟨k1,by rw[g1];exact h2⟩
   obtain⟨k,g⟩:=key N st h2;exact⟨k,by rw[h1];exact g⟩
def Hn2 (hE:K8 ext) {f n N:Nat} {ft:FT} {args rs:List PV} (ht:tab f=some ft) (hn:ft.np=n) (hl:args.length=ft.np % TAG+ft.nf) (h:ft.t.ev (sem tab ext) N args=some (.ret rs)):sem tab ext f n args=some rs:=by obtain⟨k,hk⟩:=T.ev_cont hE h;refine(S2 hE).2 ⟨max k N+1,?_⟩;rw[Tl];simp only[ht];rw[if_pos ⟨hn,hl⟩,T.ev_le (Kj hE (Tg k N)) (O5 k N) hk];rfl
end
open Go Go.RowKit
inductive XK where
 |countS|indexS|cmpS
 deriving DecidableEq
def XK.entry:XK->Array Value->Sem Value
 | .countS=>Extern.BytealgCount.count
 | .indexS=>Extern.BytealgIndexByte.indexByte
 | .cmpS=>Extern.BytealgCompare.compare
def Cy1 (f:List UInt8->UInt8->Int):List PV->Option (List PV)
 |[.s x,.i .u8 c]=>some [.i .i64 (f x c.toNat.toUInt8)]
 |_=>none
def Fs4 (f:List UInt8->List UInt8->Int):List PV->Option (List PV)
 |[.s x,.s y]=>some [.i .i64 (f x y)]
 |_=>none
def XK.run:XK->List PV->Option (List PV)
 | .countS=>Cy1 fun x c=>(Lib.countByte x c:Int)
 | .indexS=>Cy1 Lib.indexByte
 | .cmpS=>Fs4 Lib.compareBytes
def Q9 {f:List UInt8->UInt8->Int} {vs rs:List PV} (h:Cy1 f vs=some rs):∃x c,vs=[.s x,.i .u8 c]∧rs=[.i .i64 (f x c.toNat.toUInt8)]:=by
 unfold Cy1 at h;split at h
 .rename_i x c;injection h with h;exact⟨x,c,rfl,h.symm⟩
 .cases h
def jf {f:List UInt8->List UInt8->Int} {vs rs:List PV} (h:Fs4 f vs=some rs):∃x y,vs=[.s x,.s y]∧rs=[.i .i64 (f x y)]:=by
 unfold Fs4 at h;split at h
 .rename_i x c;injection h with h;exact⟨x,c,rfl,h.symm⟩
 .cases h
def lkX:List (Nat×XK)->Nat->Option XK
 |[],_=>none
 |(k,t)::r,f=>if k=f then some t else lkX r f
def Fj1 (xs:List (Nat×XK)):Fns->Fns:=fun _ f n args=>match lkX xs f with
 |some k=>if n=args.length then k.run args else none
 |none=>none
def Ch3 (xs:List (Nat×XK)):K8 (Fj1 xs):=fun _ _ _ _ _ _ _ h=>h
def XOK (P : Program) (f : Nat) (k : XK) : Prop := ∃ func, P.funcs[f]? = some func ∧ (func.name == "runtime.NumGoroutine") = false ∧ func.body.isNone = true ∧ Extern.findNext func = none ∧ Extern.find func = some k.entry
def Jr4 (P:Program):List (Nat×XK)->Prop
 |[]=>True
 |p::r=>XOK P p.1 p.2∧Jr4 P r
def Gr0 {P:Program}:∀{xs:List (Nat×XK)} {f:Nat} {k:XK},Jr4 P xs->lkX xs f=some k->XOK P f k
 |[],_,_,_,h=>by simp[lkX] at h
 |(j,t)::r,f,k,hx,h=>by
  simp only[lkX] at h;split at h
  .rename_i e;injection h with h;subst h;subst e;exact hx.1
  .exact Gr0 hx.2 h
def Wn {w:World} {O:Nat->Option Nat} {n:Nat} {vs:List PV} {args:Array Value} (hg:Given w O n vs args) (hn:n=vs.length) {j:Nat} {p:PV} (hp:vs[j]? =some p):∃v,args[j]? =some v∧Rep (Dy w O) p v:=by have hj:=(Bp.1 hp).1;have hs:=hg.size;obtain⟨v,hv⟩:∃v,args[j]? =some v:=⟨args[j]'(by omega),E7 (by omega)⟩;exact⟨v,hv,hg.val j p v (by omega) hp hv⟩
def Y8 {args:Array Value} {a b:Value} (hs:args.size=2) (ha:args[0]? =some a) (hb:args[1]? =some b):args= #[a,b]:=by
 obtain⟨l⟩:=args
 match l,hs with
 |[x,y],_=>simp at ha hb;simp[ha,hb]
def Bs8 {sig:Nat->Option Nat}:∀{xs:List (Nat×XK)},(xs.all fun p=>(sig p.1).isNone)=true->∀f k,lkX xs f=some k->sig f=none
 |[],_,f,k,h=>by simp[lkX] at h
 |(j,t)::r,h,f,k,hk=>by
  simp only[List.all_cons,Bs,Ex] at h;simp only[lkX] at hk;split at hk
  .rename_i e;subst e;exact h.1
  .exact Bs8 h.2 f k hk
def XK.run_len {k:XK} {vs rs:List PV} (h:k.run vs=some rs):vs.length=2:=by
 cases k with
 |countS=>obtain⟨x,c,rfl,_⟩:=Q9 (by simpa only[XK.run] using h);rfl
 |indexS=>obtain⟨x,c,rfl,_⟩:=Q9 (by simpa only[XK.run] using h);rfl
 |cmpS=>obtain⟨x,c,rfl,_⟩:=jf h;rfl
def Gd8 {P:Program} {sig:Nat->Option Nat} {xs:List (Nat×XK)} (hx:Jr4 P xs) (hsig:∀f k,lkX xs f=some k->sig f=none) (fn:Fns) (hC:Contract P sig fn):Contract P sig (Fj1 xs fn):=by
 refine⟨fun f n vs rs h=> ?_,hC.bld⟩
 .simp only[Fj1] at h;split at h
  .rename_i k hk;split at h
   .rename_i hn;refine⟨fun _ w O args hg=> ?_,fun hT=>by rw[hn,XK.run_len h] at hT;simp[TAG] at hT⟩;obtain⟨func,h1,h2,h3,h4,h5⟩:=Gr0 hx hk;have hrun:=fun a=>run_callFunc_extern h1 h2 h3 h4 h5 a w;have fin:∀(z:Int) (a:Array Value),args=a->(k.entry a).run P w= .ok (.int .i64 z) w->K2 P f args w (Gl6 P (sig f) w O [.i .i64 z]):=by
     intro z a ha hr;subst ha;refine .inl ⟨.int .i64 z,w,?_,Blw.refl _ _,O,fun _ _=>rfl,hg.out,?_⟩
     .rw[hrun,hr];rfl
     .rw[hsig f k hk];exact Rep.i .i64 z
    cases k with
    |countS=>
     obtain⟨x,c,rfl,rfl⟩:=Q9 (by simpa only[XK.run] using h);obtain⟨a,ha,ra⟩:=Wn hg hn (j:=0) rfl;obtain⟨b,hb,rb⟩:=Wn hg hn (j:=1) rfl;have e:=Y8 (by rw[hg.size];rfl) ha hb;obtain⟨s,rfl,rfl⟩:=ra.str;have:=rb.int;subst this;exact fin _ _ e (Lib.run_countString s c w)
    |indexS=>
     obtain⟨x,c,rfl,rfl⟩:=Q9 (by simpa only[XK.run] using h);obtain⟨a,ha,ra⟩:=Wn hg hn (j:=0) rfl;obtain⟨b,hb,rb⟩:=Wn hg hn (j:=1) rfl;have e:=Y8 (by rw[hg.size];rfl) ha hb;obtain⟨s,rfl,rfl⟩:=ra.str;have:=rb.int;subst this;exact fin _ _ e (Lib.run_indexByteString s c w)
    |cmpS=>
     obtain⟨x,y,rfl,rfl⟩:=jf h;obtain⟨a,ha,ra⟩:=Wn hg hn (j:=0) rfl;obtain⟨b,hb,rb⟩:=Wn hg hn (j:=1) rfl;have e:=Y8 (by rw[hg.size];rfl) ha hb;obtain⟨s,rfl,rfl⟩:=ra.str;obtain⟨t,rfl,rfl⟩:=rb.str;exact fin _ _ e (Lib.run_compareString s t w)
   .cases h
  .cases h
def scl:PV->Bool
 | .b _| .i _ _| .s _=>true
 |_=>false
def vl:PV->Value
 | .b x=> .bool x
 | .i k n=> .int k n
 | .s x=> .string ⟨x.toArray⟩
 |_=>undef
def Rep.vl {M:Vw} {p:PV} {v:Value} (h:Rep M p v) (hp:scl p=true):v=vl p:=by
 cases h with
 |b x=>rfl
 |i k n=>rfl
 |s x y h=>
  subst h;obtain⟨⟨l⟩⟩:=y;rfl
 |_=>simp[scl] at hp
def Dr7 {M:Vw} {p:PV} (hp:scl p=true):Rep M p (Go.X.vl p):=by
 cases p with
 |b x=>exact .b x
 |i k n=>exact .i k n
 |s x=>exact .s x _ rfl
 |_=>simp[scl] at hp
def Bf2 {p:PV} (hp:scl p=true):One (Go.X.vl p):=by cases p<;>first|rfl|simp[scl] at hp
def vv (agg:Bool) (sz:Nat):PV->Bool
 | .a cs=>agg && cs.length==sz && cs.all scl
 |p=> !agg && sz==1 && scl p
def Ch4 (p:PV):List Value:=p.cells.map vl
def Iq4:PV->Value
 | .a cs=> .agg (cs.map vl).toArray
 |p=>vl p
def Og {agg:Bool} {sz:Nat} {p:PV} (h:vv agg sz p=true):p.cells.length=sz∧∀c∈p.cells,scl c=true:=by
 cases p with
 |a cs=>
  simp only[vv,Bs,beq_iff_eq,C4] at h;exact⟨h.1.2,h.2⟩
 |b x|i k n|s x=>
  simp only[vv,Bs,beq_iff_eq] at h;exact⟨by rw[PV.scal_cells rfl];simp[h.1.2],by rw[PV.scal_cells rfl];simp[scl]⟩
 |_=>simp[vv,scl] at h
def Zj {M:Vw} {agg:Bool} {sz:Nat} {p:PV} (h:vv agg sz p=true):Rep M p (Iq4 p):=by
 cases p with
 |a cs=>
  obtain⟨_,h2⟩:=Og h;refine .a cs _ (by simp) (fun v hv=> ?_) (fun j c v hc hv=> ?_)
  .simp only[Es] at hv;obtain⟨c,hc,rfl⟩:=hv;exact Bf2 (h2 c hc)
  .simp only[List.getElem?_toArray,Dq,hc,Cf,Bn] at hv;subst hv;exact Dr7 (h2 c (B8 hc))
 |b x|i k n|s x=>exact Dr7 rfl
 |_=>simp[vv,scl] at h
def Sp (fn:Fns) (g:Nat) (caps:List PV) (x y:PV):Int:=match fn g 2 (x::y::caps) with
 |some [.i .i64 n]=>n
 |_=>0
structure SortFit (fn:Fns) (g:Nat) (caps xs:List PV):Prop where
 ans:∀x∈xs,∀y∈xs,fn g 2 (x::y::caps)=some [.i .i64 (Sp fn g caps x y)]
 irr:∀x∈xs,¬Sp fn g caps x x<0
 tr:∀x∈xs,∀y∈xs,∀z∈xs,Sp fn g caps x y<0->Sp fn g caps y z<0->Sp fn g caps x z<0
 ntr:∀x∈xs,∀y∈xs,∀z∈xs,¬Sp fn g caps x y<0->¬Sp fn g caps y z<0->¬Sp fn g caps x z<0
 tot:∀x∈xs,∀y∈xs,¬Sp fn g caps x y<0->¬Sp fn g caps y x<0->x=y
def Gz7 (fn:Fns) (g:Nat) (caps:List PV) (x y:PV):Bool:= !decide (Sp fn g caps y x<0)
def Iw2 {fn fn':Fns} (hf:Fle fn fn') {g:Nat} {caps:List PV} {x y:PV} {n:Int} (h:fn g 2 (x::y::caps)=some [.i .i64 n]):Sp fn' g caps x y=n∧Sp fn g caps x y=n:=by unfold Sp;rw[h,hf _ _ _ _ h];exact⟨rfl,rfl⟩
def SortFit.le {fn fn':Fns} (hf:Fle fn fn') {g:Nat} {caps xs:List PV} (h:SortFit fn g caps xs):SortFit fn' g caps xs∧∀x∈xs,∀y∈xs,Sp fn' g caps x y=Sp fn g caps x y:=by
 have e:∀x∈xs,∀y∈xs,Sp fn' g caps x y=Sp fn g caps x y:=fun x hx y hy=>(Iw2 hf (h.ans x hx y hy)).1;refine⟨⟨fun x hx y hy=> ?_,fun x hx=> ?_,fun x hx y hy z hz=> ?_,fun x hx y hy z hz=> ?_,fun x hx y hy=> ?_⟩,e⟩
 .rw[e x hx y hy];exact hf _ _ _ _ (h.ans x hx y hy)
 .rw[e x hx x hx];exact h.irr x hx
 .rw[e x hx y hy,e y hy z hz,e x hx z hz];exact h.tr x hx y hy z hz
 .rw[e x hx y hy,e y hy z hz,e x hx z hz];exact h.ntr x hx y hy z hz
 .rw[e x hx y hy,e y hy x hx];exact h.tot x hx y hy
structure SK where
 agg:Bool
 e:Nat
 sz:Nat
 gs:List Nat
open Classical in
noncomputable def SK.run (s:SK) (fn:Fns) (n:Nat):List PV->Option (List PV)
 |[.l sz xs,.f g caps]=>if n=TAG+2∧sz=s.sz∧g∈s.gs∧xs.length<4611686018427387904∧(∀x∈xs,vv s.agg s.sz x=true)∧SortFit fn g caps xs then some [.l sz (xs.mergeSort (Gz7 fn g caps))] else none
 |_=>none
def SK.run_some {s:SK} {fn:Fns} {n:Nat} {vs rs:List PV} (h:s.run fn n vs=some rs):∃xs g caps,vs=[.l s.sz xs,.f g caps]∧n=TAG+2∧g∈s.gs∧xs.length<4611686018427387904∧(∀x∈xs,vv s.agg s.sz x=true)∧SortFit fn g caps xs∧rs=[.l s.sz (xs.mergeSort (Gz7 fn g caps))]:=by
 unfold SK.run at h;split at h
 .rename_i sz xs g caps;split at h
  .rename_i hc;obtain⟨h1,rfl,h3,h4,h5,h6⟩:=hc;injection h with h;exact⟨xs,g,caps,rfl,h1,h3,h4,h5,h6,h.symm⟩
  .cases h
 .cases h
def SK.run_mk {s:SK} {fn:Fns} {xs caps:List PV} {g:Nat} (h3:g∈s.gs) (h4:xs.length<4611686018427387904) (h5:∀x∈xs,vv s.agg s.sz x=true) (h6:SortFit fn g caps xs):
  s.run fn (TAG+2) [.l s.sz xs,.f g caps]=some [.l s.sz (xs.mergeSort (Gz7 fn g caps))]:=by
 simp only[SK.run];rw[if_pos ⟨rfl,rfl,h3,h4,h5,h6⟩]
def Nj {D:Type} {r r':D->D->Bool} {l:List D} (h:∀a∈l,∀b∈l,r a b=r' a b):l.mergeSort r=l.mergeSort r':=by have:=Jt8 (r:=r) (s:=r') (f:=id) (l:=l) h;simpa using this
def lkS:List (Nat×SK)->Nat->Option SK
 |[],_=>none
 |(k,t)::r,f=>if k=f then some t else lkS r f
noncomputable def I2 (xs:List (Nat×XK)) (ss:List (Nat×SK)):Fns->Fns:=fun fn f n args=>match lkS ss f with
 |some s=>s.run fn n args
 |none=>Fj1 xs fn f n args
def Tv (xs:List (Nat×XK)) (ss:List (Nat×SK)):K8 (I2 xs ss):=by
 intro fn fn' hf f n vs rs h;unfold I2 at h ⊢;split at h
 .rename_i s hs;obtain⟨xs,g,caps,rfl,rfl,h3,h4,h5,h6,rfl⟩:=SK.run_some h;obtain⟨h7,h8⟩:=h6.le hf;rw[SK.run_mk h3 h4 h5 h7];congr 3;refine Nj fun a ha b hb=> ?_;unfold Gz7;rw[h8 b hb a ha]
 .rename_i hs;exact Ch3 xs fn fn' hf f n vs rs h
def u4 (P:Program) (f sz:Nat) (agg:Bool):Prop:=
 (∀(p:Option Addr) (cap:Nat) (fv:Value) (w:World),Calls P f #[.slice p 0 cap,fv] w fun e w'=>e= .returned (.tuple #[])∧w'=w)∧
 match agg with
 |false=>sz=1∧∀{D:Type} [Inhabited D] (enc:D->Value) (_:Proofs.OneCell enc) (cf:D->D->Int) (_:Sort.SWO (Proofs.ltOf cf)) (g:Nat) (cb:Array Value) (blk off cap:Nat) (d:Array D) (w:World)
   (_:∀args w,(callFunc g args).run P w= .ok (.enter g args) w) (_:Proofs.CmpLays1 P g cb enc cf blk off d.size w) (_:Sort.Holds enc w blk off d) (_:blk<w.heap.size) (_:d.size<4611686018427387904) (_:∀x y,(Proofs.ltOf cf) x y=false->(Proofs.ltOf cf) y x=false->x=y),
   Calls P f #[.slice (some ⟨blk,off,none⟩) d.size cap,.func (.func g) #[] cb] w fun e w'=>
    e= .returned (.tuple #[])∧∃n os,w'=Proofs.sortWorld enc w blk off n (d.toList.mergeSort fun x y=> !(Proofs.ltOf cf) y x).toArray os
 |true=>∀{D:Type} [Inhabited D] (enc:D->List Value) (_:∀x,(enc x).length=sz) (_:∀x,∀v∈enc x,v.oneCell'=true) (cf:D->D->Int) (_:Sort.SWO (Proofs.ltOf cf)) (g:Nat) (cb:Array Value) (blk off cap:Nat) (d:Array D) (w:World)
   (_:∀args w,(callFunc g args).run P w= .ok (.enter g args) w) (_:Proofs.CmpLays P g cb enc sz cf blk off d.size w) (_:Sort.HoldsK enc sz w blk off d) (_:blk<w.heap.size) (_:d.size<4611686018427387904) (_:∀x y,(Proofs.ltOf cf) x y=false->(Proofs.ltOf cf) y x=false->x=y),
   Calls P f #[.slice (some ⟨blk,off,none⟩) d.size cap,.func (.func g) #[] cb] w fun e w'=>
    e= .returned (.tuple #[])∧∃n os,w'=Proofs.sortWorldK enc sz w blk off n (d.toList.mergeSort fun x y=> !(Proofs.ltOf cf) y x).toArray os
def f9 (P : Program) (f : Nat) : Prop := ∃ fn, P.funcs[f]? = some fn ∧ (fn.name == "runtime.NumGoroutine") = false ∧ fn.body.isSome = true
structure SOK (P:Program) (sig:Nat->Option Nat) (f:Nat) (s:SK):Prop where
 sig:vk (sig f)=some (s.e,false)
 size:Cv P s.e=s.sz
 says:u4 P f s.sz s.agg
 body:f9 P f
 gs:∀g∈s.gs,f9 P g
def f9.enters {P:Program} {g:Nat} (h:f9 P g) (args:Array Value) (w:World):(callFunc g args).run P w= .ok (.enter g args) w:=by
 obtain⟨fn,hf,hn,hb⟩:=h;have hn' : fn.name ≠ "runtime.NumGoroutine" := by simpa using hn
 have hb':fn.body≠none:=by cases hh:fn.body<;>simp_all
 simp[callFunc,hf,hn',hb']
section
variable {w:World} {O:Nat->Option Nat} {g m:Nat} {F:Array Value} {os:Array Obj}
abbrev W7 (w:World) (g m:Nat) (F:Array Value) (os:Array Obj):World:=Sort.grow (Sort.putRow id (Sort.ahead w m) g 0 F) os
def Rz:(W7 w g m F os).heap.size=w.heap.size+os.size:=by simp[W7]
def dy {c:Nat} (hc:c<w.heap.size) (hne:c≠g):(W7 w g m F os).heap[c]? =w.heap[c]? :=by show (Sort.grow (Sort.putRow id (Sort.ahead w m) g 0 F) os).heap[c]? =_;rw[Sort.heap_grow_old _ _ (by simpa using hc)];show (w.heap.modify g _)[c]? =_;rw[Ac9,if_neg (fun e=>hne e.symm)]
def Cg0 {cur:Array Value} {e:Nat} {fr:Nat×Nat} (h:w.heap[g]? =some (.cells cur e fr)):(W7 w g m F os).heap[g]? =some (.cells (Sort.putCells id 0 F cur) e fr):=by have hlt:g<w.heap.size:=(D6.1 h).1;show (Sort.grow (Sort.putRow id (Sort.ahead w m) g 0 F) os).heap[g]? =_;rw[Sort.heap_grow_old _ _ (by simpa using hlt)];show (w.heap.modify g _)[g]? =_;rw[Ac9,if_pos rfl,h];rfl
def o6 {F cur:Array Value} (hF:F.size<=cur.size):(Sort.putCells id 0 F cur).size=cur.size∧(Sort.putCells id 0 F cur).toList.take F.size=F.toList:=by
 have hs:(Sort.putCells id 0 F cur).size=cur.size:=by simp[Sort.putCells]
 refine⟨hs,?_⟩;apply List.ext_getElem
 .simp[hs];omega
 .intro k h1 h2;have hk:k<F.size:=by simpa using h2
  simp only[Sort.putCells,By6,Array.getElem_toList,Array.getElem_mapIdx];rw[if_pos ⟨by omega,by omega⟩];simp[hk]
def Cf9 (hO:O g=some 0):(Dy w O).Le (Dy (W7 w g m F os) O):=by refine Jp (fun c hc hl=>dy hc fun e=> ?_) (fun c _ lim hl=>⟨lim,hl,B7 _⟩) (fun c _ hn=>hn);subst e;have:=hl 0 hO;omega
def Eg4 {v0:Value} (hv:Ds v0=some g):Bel ⟨w,some v0⟩ (W7 w g m F os):=by
 refine⟨rfl,rfl,rfl,?_,?_,fun k hk hx=>dy hk fun e=>hx ?_⟩
 .show w.drawn<=w.drawn+m;omega
 .rw[Rz];exact Nat.le_add_right _ _
 .subst e;exact hv
def Eg3 {e sz n cap:Nat} {cur:Array Value} (hc:0<cap) (hg:w.heap[g]? =some (.cells cur e (0,0))) (h1:n<=cap) (h2:cap<=maxLen) (h3:cur.size=cap*sz) (hF:F.size=n*sz):
  Own (W7 w g m F os) (fun _=>True) e sz (.slice (some ⟨g,0,none⟩) n cap) n F.toList:=by
 have hle:F.size<=cur.size:=by rw[hF,h3];exact C0 _ h1
 obtain⟨p1,p2⟩:=o6 hle;exact⟨by simpa using hF,.inr ⟨g,cap,_,rfl,hc,trivial,Cg0 hg,h1,h2,by rw[p1];exact h3,by rw[<-hF];exact p2⟩⟩
end
def Gf1 {M:Vw} {agg:Bool} {sz:Nat} {ys:List PV} {F:Array Value} (hok:∀y∈ys,vv agg sz y=true) (hget:∀(i:Nat) (y:PV) (j:Nat) (c:PV),ys[i]? =some y->y.cells[j]? =some c->F[i*sz+j]? =some (vl c)):Kw M sz ys F.toList:=by intro i y hy;obtain⟨h1,h2⟩:=Og (hok y (B8 hy));refine⟨h1,fun j c hc=>⟨vl c,?_,Bf2 (h2 c (B8 hc)),Dr7 (h2 c (B8 hc))⟩⟩;have:=hget i y j c hy hc;simpa using this
def Blw.grow {w w':World} (h:Blw w.heap.size w w'):∃q os',w'=Sort.grow (w.drewN q) os':=by
 obtain⟨h1,h2,h3,h4,h5,h6⟩:=h;refine⟨w'.drawn - w.drawn,w'.heap.extract w.heap.size w'.heap.size,?_⟩;have hh:w'.heap=w.heap++w'.heap.extract w.heap.size w'.heap.size:=by
  apply Array.ext_getElem?;intro k;by_cases hk:k<w.heap.size
  .rw[Ek hk,h6 k hk]
  .rw[Array.getElem?_append_right (by omega),Array.getElem?_extract];by_cases hk2:k<w'.heap.size
   .rw[if_pos (by omega)];congr 1;omega
   .rw[if_neg (by omega),Array.getElem?_eq_none (by omega)]
 obtain⟨a1,a2,a3,a4,a5⟩:=w';obtain⟨b1,b2,b3,b4,b5⟩:=w;simp only at h1 h2 h3 h4 hh;subst h1;subst h2;subst h3;simp only[Sort.grow,World.drewN,World.mk.injEq];refine⟨hh,trivial,by omega,trivial,trivial⟩
section
variable {P:Program} {sig:Nat->Option Nat} {fn:Fns}
def Bt9 (hC:Contract P sig fn) {g:Nat} (hb:f9 P g) {caps:List PV} {x y:PV} {z:Int} (hans:fn g 2 (x::y::caps)=some [.i .i64 z]) {w:World} {O:Nat->Option Nat} {cb:Array Value}
  (hout:∀c,w.heap.size<=c->O c=none) (hsz:cb.size=caps.length) (hcap:∀(j:Nat) (p:PV) (v:Value),caps[j]? =some p->cb[j]? =some v->Jq (Dy w O) p.cells v)
  {blk m:Nat} {F:Array Value} {os:Array Obj} (hO:O blk=some 0) {vx vy:Value} (hx:∀M,Rep M x vx) (hy:∀M,Rep M y vy):
  Calls P g (#[vx,vy]++cb) (W7 w blk m F os) fun e w'=>e= .returned (.int .i64 z)∧∃q os',w'=Sort.grow ((W7 w blk m F os).drewN q) os':=by
 have hs:=(hC.says g 2 _ _ hans).plain (by simp[TAG]);have hM:(Dy w O).Le (Dy (W7 w blk m F os) O):=Cf9 hO;have hG:Given (W7 w blk m F os) O 2 (x::y::caps) (#[vx,vy]++cb):=by
  refine⟨fun c hc=>hout c (by rw[Rz] at hc;omega),by simp[hsz];omega,fun j p v hj hp hv=> ?_,fun j p v hj hp hv=> ?_⟩
  .match j,hj with
   |0,_=>
    simp at hp;subst hp;rw[Ek (by simp)] at hv;simp at hv;subst hv;exact hx _
   |1,_=>
    simp at hp;subst hp;rw[Ek (by simp)] at hv;simp at hv;subst hv;exact hy _
  .obtain⟨k,rfl⟩:∃k,j=k+2:=⟨j - 2,by omega⟩;rw[Array.getElem?_append_right (by simp)] at hv;simp at hp hv;exact(hcap k p v hp hv).mono hM
 rcases hs _ O _ hG with⟨v,w',h1,_⟩|⟨w',h1,h2⟩
 .rw[hb.enters] at h1;cases h1
 .rw[hb.enters] at h1;injection h1 with _ h1;subst h1;refine h2.mono fun e w'' ⟨v,he,hv⟩=> ?_;obtain⟨b1,O',_,_,b4⟩:=hv.plain (fun c hc=>hout c (by rw[Rz] at hc;omega));refine⟨?_,b1.grow⟩;rw[he];have:=Rep.int (show Rep _ (.i .i64 z) v from b4);rw[this]
def Cp0 {s:SK} {w:World} {O:Nat->Option Nat} {g cap m:Nat} {cur F:Array Value} {os:Array Obj} {xs ys:List PV} (hsz:Cv P s.e=s.sz) (hout:∀c,w.heap.size<=c->O c=none) (hO:O g=some 0)
  (hc:0<cap) (hg:w.heap[g]? =some (.cells cur s.e (0,0))) (h1:xs.length<=cap) (h2:cap<=maxLen) (h3:cur.size=cap*s.sz) (hF:F.size=xs.length*s.sz) (hl:ys.length=xs.length) (hel:∀M,Kw M s.sz ys F.toList):
  Cr6 P s.e false (.slice (some ⟨g,0,none⟩) xs.length cap) w O [.l s.sz ys] (.tuple #[]) (W7 w g m F os):=by
 have hb:Ds (.slice (some ⟨g,0,none⟩) xs.length cap)=some g:=by simp only[Ds,if_neg (show¬cap=0 by omega)]
 refine⟨Eg4 hb,O,fun _ _ _=>rfl,fun c hc=>hout c (by rw[Rz] at hc;omega),ys,F.toList,by rw[hsz],by rw[hsz];exact hel _,(fun h=>nomatch h),fun _=>⟨rfl,?_,fun g' hg'=> ?_⟩⟩
 .rw[hsz,hl];exact Eg3 hc hg h1 h2 h3 hF
 .rw[hb] at hg';injection hg' with hg';subst hg';exact hO
end
section
variable {P:Program} {sig:Nat->Option Nat} {fn:Fns}
abbrev El (xs:List PV):={p:PV // p∈xs}
def Am9 {xs:List PV} (le:PV->PV->Bool):((xs.attach.mergeSort fun x y=>le x.1 y.1).map Subtype.val)=xs.mergeSort le:=by have:=Jt8 (r:=fun x y:El xs=>le x.1 y.1) (s:=le) (f:=Subtype.val) (l:=xs.attach) (fun a _ b _=>rfl);rw[this,List.attach_map_subtype_val]
def SortFit.swo {g:Nat} {caps xs:List PV} (h:SortFit fn g caps xs):Sort.SWO (Proofs.ltOf fun x y:El xs=>Sp fn g caps x.1 y.1) where
 irrefl x:=by have:=h.irr x.1 x.2;simp only[Proofs.ltOf,decide_eq_false_iff_not];exact this
 trans x y z h1 h2:=by simp only[Proofs.ltOf,decide_eq_true_eq] at*;exact h.tr _ x.2 _ y.2 _ z.2 h1 h2
 ntrans x y z h1 h2:=by simp only[Proofs.ltOf,decide_eq_false_iff_not] at*;exact h.ntr _ x.2 _ y.2 _ z.2 h1 h2
def SortFit.antisymm {g:Nat} {caps xs:List PV} (h:SortFit fn g caps xs):∀x y:El xs,Proofs.ltOf (fun x y:El xs=>Sp fn g caps x.1 y.1) x y=false->Proofs.ltOf (fun x y:El xs=>Sp fn g caps x.1 y.1) y x=false->x=y:=by intro x y h1 h2;simp only[Proofs.ltOf,decide_eq_false_iff_not] at h1 h2;exact Subtype.ext (h.tot _ x.2 _ y.2 h1 h2)
def jp {D:Type} [Inhabited D] (enc:D->Value) (w:World) (blk off:Nat) (d:Array D):Sort.putRow enc w blk off d=Sort.putRow id w blk off (d.map enc):=by
 unfold Sort.putRow;congr 1;funext c;unfold Sort.putCells;congr 1;funext k x;simp only[Array.size_map];by_cases h:off<=k∧k<off+d.size
 .rw[if_pos h,if_pos h];have h2:k - off<d.size:=by omega
  simp[h2]
 .rw[if_neg h,if_neg h]
def arr_get! (F:Array Value) {k:Nat} (h:k<F.size):F[k]? =some F[k]! :=by simp[h]
def Il4 {M:Vw} {agg:Bool} {sz:Nat} {xs:List PV} {us:List Value} (hel:Kw M sz xs us) (hok:∀x∈xs,vv agg sz x=true) {i j:Nat} {x c:PV} (hx:xs[i]? =some x) (hc:x.cells[j]? =some c):us[i*sz+j]? =some (vl c):=by obtain⟨u,h1,_,h3⟩:=(hel i x hx).2 j c hc;rw[h1,h3.vl ((Og (hok x (B8 hx))).2 c (B8 hc))]
def Zb {sz:Nat} {p:PV} (h:vv false sz p=true):sz=1∧scl p=true∧p.cells=[p]∧Iq4 p=vl p:=by
 cases p with
 |b x|i k n|s x=>
  simp only[vv,Bs,beq_iff_eq] at h;exact⟨h.1.2,rfl,rfl,rfl⟩
 |a cs=>simp[vv] at h
 |_=>simp[vv,scl] at h
def rv {sz:Nat} {p:PV} (h:vv true sz p=true):Iq4 p= .agg (Ch4 p).toArray∧(Ch4 p).length=sz:=by
 cases p with
 |a cs=>
  have:=(Og h).1;exact⟨rfl,by simp[Ch4,this]⟩
 |_=>simp[vv,scl] at h
def Dn0 (hC:Contract P sig fn) {f:Nat} {s:SK} (hs:SOK P sig f s) {n:Nat} {vs rs:List PV} (h:s.run fn n vs=some rs):Says P sig f n vs rs:=by
 obtain⟨xs,g,caps,rfl,rfl,hg,hlen,hok,hfit,rfl⟩:=SK.run_some h;refine⟨fun hT=>absurd hT (by simp),fun _=> .inl ⟨s.e,false,hs.sig,fun w O args v0 xs0 us hG=> ?_⟩⟩;have hgb:=hs.gs g hg;obtain⟨out,size,pos,fst,arg,sz0,own,el,shut,val,_⟩:=hG;rw[hs.size] at fst sz0 own el;simp only[D2,Bn,PV.l.injEq,true_and] at fst;subst fst;obtain⟨fv,hfv⟩:∃fv,args[1]? =some fv:=⟨args[1]'(by rw[size];simp),E7 (by rw[size];simp)⟩;have hargs:=Y8 (by rw[size];rfl) arg hfv;have hrep:=val 1 (.f g caps) fv (by omega) (by simp) rfl hfv;subst hargs;obtain⟨fn0,hf0,hn0,hb0⟩:=hs.body;refine K2.of_calls hf0 hn0 hb0 ?_;obtain⟨none_,some_⟩:=hs.says;by_cases hx0:xs=[]
 .subst hx0;obtain⟨p,cap,rfl⟩:∃p cap,v0= .slice p 0 cap:=by
   rcases own.2 with⟨a,rfl,_⟩|⟨g',cap,cur,rfl,_⟩
   .exact⟨a,0,rfl⟩
   .exact⟨some ⟨g',0,none⟩,cap,rfl⟩
  refine(none_ p cap fv w).mono fun e w' ⟨he,hw⟩=>⟨_,he,?_⟩;subst hw;refine⟨Bel.refl ⟨w',some (.slice p 0 cap)⟩,O,fun _ _ _=>rfl,out,[],us,by rw[hs.size,List.mergeSort_nil],by rw[hs.size];exact el,(fun h=>nomatch h),fun _=>⟨rfl,by rw[hs.size];exact own,shut⟩⟩
 .rcases own.2 with⟨a,rfl,h0⟩|⟨g',cap,cur,rfl,hc,_,hg',h1,h2,h3,h4⟩
  .exact absurd (Dv h0) hx0
  .have hblk:Ds (.slice (some ⟨g',0,none⟩) xs.length cap)=some g':=by simp only[Ds,if_neg (show¬cap=0 by omega)]
   have hO:=shut g' hblk;have hlt:g'<w.heap.size:=(D6.1 hg').1;have hfz:∀j,w.frozen? ⟨g',j,none⟩=false:=fun j=>by simp[World.frozen?,hg']
   obtain⟨cv,rfl,hcs,hcap⟩:∃cv:Array Value,fv= .func (.func g) #[] cv∧cv.size=caps.length∧∀(j:Nat) (p:PV) (v:Value),caps[j]? =some p->cv[j]? =some v->Jq (Dy w O) p.cells v:=by
    cases hrep with
    |f _ _ cv ads els q1 q2 q3 q4 q5=>
     refine⟨cv,rfl,q1,fun j p v hp hv=> ?_⟩;have hj:=(Bp.1 hp).1;rw[q2 j hj] at hv;injection hv with hv;subst hv;exact⟨_,els j,rfl,fun k c hk=>q3 j p k c hp hk,fun k c hk=>q4 j p k c hp hk,fun k c hk=>q5 j p k c hp hk⟩
   obtain⟨x0,hx0'⟩:∃x0,x0∈xs:=H2 _ hx0
   haveI:Inhabited (El xs):=⟨⟨x0,hx0'⟩⟩
   have hsize:xs.attach.toArray.size=xs.length:=by simp
   have hcell:∀(i j:Nat) (x c:PV),xs[i]? =some x->x.cells[j]? =some c->w.cell? ⟨g',i*s.sz+j,none⟩=some (vl c):=by
    intro i j x c hx hcx;have hu:=Il4 el hok hx hcx;have:=own.cells hblk _ _ hu;have hadd:((⟨g',0,none⟩:Addr).add (i*s.sz+j))=⟨g',i*s.sz+j,none⟩:=by unfold Go.Addr.add;split<;>simp_all
    rw[hadd] at this;exact this
   have fin:∀(m:Nat) (os:Array Obj) (F:Array Value) (ys:List PV),ys.Perm xs->F.size=xs.length*s.sz->(∀(i:Nat) (y:PV) (j:Nat) (c:PV),ys[i]? =some y->y.cells[j]? =some c->F[i*s.sz+j]? =some (vl c))->
     Cr6 P s.e false (.slice (some ⟨g',0,none⟩) xs.length cap) w O [.l s.sz ys] (.tuple #[]) (W7 w g' m F os):=fun m os F ys hp hF hget=>
    Cp0 hs.size out hO hc hg' h1 h2 h3 hF hp.length_eq (fun M=>Gf1 (fun y hy=>hok y (hp.subset hy)) hget)
   have hperm:(xs.mergeSort (Gz7 fn g caps)).Perm xs:=List.mergeSort_perm _ _;have hsort:=Am9 (xs:=xs) (Gz7 fn g caps);have hgetA:∀(i:Nat),i<xs.length->xs[i]? =some (xs.attach.toArray[i]!).1:=fun i hi=>by
    have:i<xs.attach.toArray.size:=by simpa using hi
    rw[getElem!_pos _ i this];simp[hi]
   cases hagg:s.agg with
   |false=>
    rw[hagg] at some_ hok;obtain⟨hsz1,some_⟩:=some_;have:=some_ (fun x:El xs=>Iq4 x.1) (fun x=>by
      show (Iq4 x.1).oneCell'=true;rw[(Zb (hok _ x.2)).2.2.2];exact Bf2 (Zb (hok _ x.2)).2.1) (fun x y=>Sp fn g caps x.1 y.1) hfit.swo g cv g' 0 cap xs.attach.toArray w (hgb.enters) (fun m os dk hdk x y=>by
       have:=Bt9 hC hgb (hfit.ans x.1 x.2 y.1 y.2) (w:=w) (O:=O) (cb:=cv) out hcs hcap (blk:=g') (m:=m) (F:=dk.map fun x:El xs=>Iq4 x.1) (os:=os) hO (fun M=>Zj (hok _ x.2)) (fun M=>Zj (hok _ y.2));unfold Proofs.sortWorld;rw[jp];exact this) (fun j hj=>by
       have hj':j<xs.length:=by simpa using hj
       refine⟨?_,hfz _⟩;have e1:=hgetA j hj';have e2:=Zb (hok _ (xs.attach.toArray[j]!).2);have:=hcell j 0 _ _ e1 (by rw[e2.2.2.1];rfl);show _=some (Iq4 _);rw[e2.2.2.2];rw[hsz1] at this;simpa using this) hlt (by rw[hsize];exact hlen) hfit.antisymm
    rw[hsize] at this;refine this.mono fun e w' ⟨he,m,os,hw⟩=>⟨_,he,?_⟩;subst hw;unfold Proofs.sortWorld;rw[jp];refine fin m os _ _ hperm (by simp[hsz1]) (fun i y j c hy hcy=> ?_);have hy2:=Zb (hok y (hperm.subset (B8 hy)));rw[hy2.2.2.1] at hcy;have hj0:j=0:=by cases j with|zero=>rfl|succ j=>simp at hcy
    subst hj0;simp at hcy;subst hcy;rw[<-hsort,Dq,B0] at hy;obtain⟨z,hz,rfl⟩:=hy;have hz':(xs.attach.mergeSort fun x y=> !(Proofs.ltOf fun x y:El xs=>Sp fn g caps x.1 y.1) y x)[i]? =some z:=hz;rw[hsz1,Nat.mul_one,Gh,nq,List.getElem?_toArray,List.toList_toArray,hz',Cf,hy2.2.2.2]
   |true=>
    rw[hagg] at some_ hok;have hk:∀x:El xs,(Ch4 x.1).length=s.sz:=fun x=>(rv (hok _ x.2)).2;have k0:0<s.sz:=sz0;have:=some_ (fun x:El xs=>Ch4 x.1) hk (fun x v hv=>by
      simp only[Ch4,Es] at hv;obtain⟨c,hc1,rfl⟩:=hv;exact Bf2 ((Og (hok _ x.2)).2 c hc1)) (fun x y=>Sp fn g caps x.1 y.1) hfit.swo g cv g' 0 cap xs.attach.toArray w (hgb.enters) (fun m os dk hdk x y=>by
       have:=Bt9 hC hgb (hfit.ans x.1 x.2 y.1 y.2) (w:=w) (O:=O) (cb:=cv) out hcs hcap (blk:=g') (m:=m) (F:=Sort.flatK (fun x:El xs=>Ch4 x.1) s.sz dk) (os:=os) hO (fun M=>Zj (hok _ x.2)) (fun M=>Zj (hok _ y.2));rw[(rv (hok _ x.2)).1,(rv (hok _ y.2)).1] at this;exact this) (fun t ht=>by
       have ht':t<xs.length*s.sz:=by simpa using ht
       refine⟨?_,hfz _⟩;have hi:t / s.sz<xs.length:=Nat.div_lt_of_lt_mul (by rw[Gk];exact ht');have e1:=hgetA (t / s.sz) hi;have hm:t % s.sz<s.sz:=Nat.mod_lt _ k0;have hl:=(Og (hok _ (xs.attach.toArray[t / s.sz]!).2)).1;have:=hcell (t / s.sz) (t % s.sz) _ _ e1 (Bt (by rw[hl];exact hm));rw[Gg,Sort.get_flatK _ _ _ _ (by simpa using ht')];rw[Gk,Nat.div_add_mod] at this;rw[this];generalize xs.attach.toArray[t / s.sz]! =z at*;show some _=some ((Ch4 z.1)[t % s.sz]!);rw[getElem!_pos _ _ (by simp[Ch4,hl,hm])];simp[Ch4]) hlt (by rw[hsize];exact hlen) hfit.antisymm
    rw[hsize] at this;refine this.mono fun e w' ⟨he,m,os,hw⟩=>⟨_,he,?_⟩;subst hw;refine fin m os _ _ hperm (by simp) (fun i y j c hy hcy=> ?_);have hyk:=Og (hok y (hperm.subset (B8 hy)));have hj:j<s.sz:=by rw[<-hyk.1];exact(Bp.1 hcy).1
    rw[<-hsort,Dq,B0] at hy;obtain⟨z,hz,rfl⟩:=hy;have hz':(xs.attach.mergeSort fun x y=> !(Proofs.ltOf fun x y:El xs=>Sp fn g caps x.1 y.1) y x)[i]? =some z:=hz;have hil:i<xs.length:=by have:=(Bp.1 hz).1;simpa using this
    have hlt2:i*s.sz+j<xs.length*s.sz:=by have h4:(i+1)*s.sz<=xs.length*s.sz:=C0 _ (by omega);rw[D1,Gs] at h4;omega
    have hlt3:i*s.sz+j<(Sort.flatK (fun x:El xs=>Ch4 x.1) s.sz (xs.attach.toArray.toList.mergeSort fun x y=> !(Proofs.ltOf fun x y:El xs=>Sp fn g caps x.1 y.1) y x).toArray).size:=by simpa using hlt2
    have e1:(i*s.sz+j) / s.sz=i:=by rw[Gk,Nat.mul_add_div k0,Nat.div_eq_of_lt hj,Gh]
    have e2:(i*s.sz+j) % s.sz=j:=by rw[Gk,Tf,F2 hj]
    have hget:=Sort.get_flatK (fun x:El xs=>Ch4 x.1) s.sz (xs.attach.toArray.toList.mergeSort fun x y=> !(Proofs.ltOf fun x y:El xs=>Sp fn g caps x.1 y.1) y x).toArray (i*s.sz+j) (by simpa using hlt2);rw[arr_get! _ hlt3,hget,e1,e2];have:((xs.attach.toArray.toList.mergeSort fun x y=> !(Proofs.ltOf fun x y:El xs=>Sp fn g caps x.1 y.1) y x).toArray)[i]! =z:=by rw[List.toList_toArray] at*;have hi2:=(Bp.1 hz').1;have hi3:=(Bp.1 hz').2;simp only[List.getElem!_toArray];rw[getElem!_pos _ i hi2,hi3]
    rw[this];have hj2:j<z.1.cells.length:=(Bp.1 hcy).1;have hj3:=(Bp.1 hcy).2;simp[Ch4,hj2,hj3]
def Jt5 (P:Program) (sig:Nat->Option Nat):List (Nat×SK)->Prop
 |[]=>True
 |p::r=>SOK P sig p.1 p.2∧Jt5 P sig r
def Gr1:∀{ss:List (Nat×SK)} {f:Nat} {s:SK},Jt5 P sig ss->lkS ss f=some s->SOK P sig f s
 |[],_,_,_,h=>by simp[lkS] at h
 |(j,t)::r,f,s,hx,h=>by
  simp only[lkS] at h;split at h
  .rename_i e;injection h with h;subst h;subst e;exact hx.1
  .exact Gr1 hx.2 h
def Fj0 {xs:List (Nat×XK)} {ss:List (Nat×SK)} (hx:Jr4 P xs) (hsig:∀f k,lkX xs f=some k->sig f=none) (hss:Jt5 P sig ss) (fn:Fns) (hC:Contract P sig fn):Contract P sig (I2 xs ss fn):=by
 refine⟨fun f n vs rs h=> ?_,hC.bld⟩;unfold I2 at h;split at h
 .rename_i s hs;exact Dn0 hC (Gr1 hss hs) h
 .exact(Gd8 hx hsig fn hC).says f n vs rs h
def ot {tab:Nat->Option FT} {xs:List (Nat×XK)} {ss:List (Nat×SK)} {f:Nat} {k:XK} {args rs:List PV} (ht:tab f=none) (hs:lkS ss f=none) (hk:lkX xs f=some k) (h:k.run args=some rs):sem tab (I2 xs ss) f args.length args=some rs:=by refine(S2 (Tv xs ss)).2 ⟨1,?_⟩;rw[Tl];simp only[ht,I2,hs,Fj1,hk,if_true];exact h
def Bc9 {tab:Nat->Option FT} {xs:List (Nat×XK)} {ss:List (Nat×SK)} {f:Nat} {s:SK} (ht:tab f=none) (hs:lkS ss f=some s) {g:Nat} {caps l:List PV} (hg:g∈s.gs) (hlen:l.length<4611686018427387904) (hok:∀x∈l,vv s.agg s.sz x=true)
  (cf:PV->PV->Int) (hans:∀x∈l,∀y∈l,sem tab (I2 xs ss) g 2 (x::y::caps)=some [.i .i64 (cf x y)])
  (irr:∀x∈l,¬cf x x<0) (tr:∀x∈l,∀y∈l,∀z∈l,cf x y<0->cf y z<0->cf x z<0) (ntr:∀x∈l,∀y∈l,∀z∈l,¬cf x y<0->¬cf y z<0->¬cf x z<0) (tot:∀x∈l,∀y∈l,¬cf x y<0->¬cf y x<0->x=y):
  sem tab (I2 xs ss) f (2+TAG) [.l s.sz l,.f g caps]=some [.l s.sz (l.mergeSort fun x y=> !decide (cf y x<0))]:=by
 have hE:K8 (I2 xs ss):=Tv xs ss;have hcf:∀x∈l,∀y∈l,Sp (sem tab (I2 xs ss)) g caps x y=cf x y:=fun x hx y hy=>by unfold Sp;rw[hans x hx y hy]
 have hf:SortFit (sem tab (I2 xs ss)) g caps l:=⟨fun x hx y hy=>by rw[hcf x hx y hy];exact hans x hx y hy,fun x hx=>by rw[hcf x hx x hx];exact irr x hx,fun x hx y hy z hz=>by rw[hcf x hx y hy,hcf y hy z hz,hcf x hx z hz];exact tr x hx y hy z hz,
  fun x hx y hy z hz=>by rw[hcf x hx y hy,hcf y hy z hz,hcf x hx z hz];exact ntr x hx y hy z hz,fun x hx y hy=>by rw[hcf x hx y hy,hcf y hy x hx];exact tot x hx y hy⟩
 have e:l.mergeSort (Gz7 (sem tab (I2 xs ss)) g caps)=l.mergeSort fun x y=> !decide (cf y x<0):=Nj fun a ha b hb=>by unfold Gz7;rw[hcf b hb a ha]
 rw[<-e];have hk:∃k,∀x∈l,∀y∈l,Tl tab (I2 xs ss) k g 2 (x::y::caps)=some [.i .i64 (cf x y)]:=by
  have one:∀x∈l,∃k,∀y∈l,Tl tab (I2 xs ss) k g 2 (x::y::caps)=some [.i .i64 (cf x y)]:=by
   intro x hx;have:∀l':List PV,(∀y∈l',y∈l)->∃k,∀y∈l',Tl tab (I2 xs ss) k g 2 (x::y::caps)=some [.i .i64 (cf x y)]:=by
    intro l'
    induction l' with
    |nil=>intro _;exact⟨0,fun y hy=>by simp at hy⟩
    |cons a r ih=>
     intro hsub;obtain⟨k1,h1⟩:=ih fun y hy=>hsub y (.tail _ hy);obtain⟨k2,h2⟩:=(S2 hE).1 (hans x hx a (hsub a (.head _)));refine⟨max k1 k2,fun y hy=> ?_⟩;rcases Cq.1 hy with rfl|hy
     .exact Kj hE (O5 _ _) _ _ _ _ h2
     .exact Kj hE (Tg _ _) _ _ _ _ (h1 y hy)
   exact this l fun y hy=>hy
  have:∀l':List PV,(∀y∈l',y∈l)->∃k,∀x∈l',∀y∈l,Tl tab (I2 xs ss) k g 2 (x::y::caps)=some [.i .i64 (cf x y)]:=by
   intro l'
   induction l' with
   |nil=>intro _;exact⟨0,fun y hy=>by simp at hy⟩
   |cons a r ih=>
    intro hsub;obtain⟨k1,h1⟩:=ih fun y hy=>hsub y (.tail _ hy);obtain⟨k2,h2⟩:=one a (hsub a (.head _));refine⟨max k1 k2,fun x hx y hy=> ?_⟩;rcases Cq.1 hx with rfl|hx
    .exact Kj hE (O5 _ _) _ _ _ _ (h2 y hy)
    .exact Kj hE (Tg _ _) _ _ _ _ (h1 x hx y hy)
  exact this l fun y hy=>hy
 obtain⟨k,hk⟩:=hk;refine(S2 hE).2 ⟨k+1,?_⟩;rw[Tl];simp only[ht,I2,hs];have hcfk:∀x∈l,∀y∈l,Sp (Tl tab (I2 xs ss) k) g caps x y=cf x y:=fun x hx y hy=>by unfold Sp;rw[hk x hx y hy]
 have hfk:SortFit (Tl tab (I2 xs ss) k) g caps l:=⟨fun x hx y hy=>by rw[hcfk x hx y hy];exact hk x hx y hy,fun x hx=>by rw[hcfk x hx x hx];exact irr x hx,fun x hx y hy z hz=>by rw[hcfk x hx y hy,hcfk y hy z hz,hcfk x hx z hz];exact tr x hx y hy z hz,
  fun x hx y hy z hz=>by rw[hcfk x hx y hy,hcfk y hy z hz,hcfk x hx z hz];exact ntr x hx y hy z hz,fun x hx y hy=>by rw[hcfk x hx y hy,hcfk y hy x hx];exact tot x hx y hy⟩
 rw[Nat.add_comm 2 TAG,SK.run_mk hg hlen hok hfk];congr 3;refine Nj fun a ha b hb=> ?_;unfold Gz7;rw[hcfk b hb a ha,hcf b hb a ha]
end
end Go.X
