/- strings.Builder: its methods, called. -/
import Derived.Test.YtjjbngkgndckcaaGreatDoorValidateSetsG2
import Derived.Lib.AppendStr
open Array renaming getD_eq_getD_getElem?->Cf,getElem?_eq_some_iff->Dd,toArray_toList->Dn,getElem?_eq_getElem->Eh,getElem?_modify->L6,append_empty->V6
open Bool renaming and_eq_true->Bt,eq_false_or_eq_true->B0,false_eq_true->B5,or_eq_true->Cq,not_eq_true'->Dl,eq_iff_iff->Gw,not_eq_false->Nv,and_true->Ot,not_true->d3,or_eq_false_iff->y7,true_and->Ew9,false_or->Ex0
open List renaming getElem?_eq_some_iff->Bn,length_append->Br,getElem?_eq_getElem->B4,append_assoc->Ck,getElem?_append_right->Cw,length_cons->Cz,getElem?_append_left->Cd,mem_cons->Cg,getElem?_take->Ch,length_nil->Cm,eq_nil_of_length_eq_zero->Cp,getD_eq_getElem?_getD->Ct,length_pos_iff->C2,getElem?_map->C4,mem_append_right->C6,mem_singleton->Dj,all_eq_true->Db,getElem?_cons_zero->Dm,mem_append->Dp,getElem?_set->Ev,getElem?_cons_succ->Ec,mem_append_left->Fq,map_cons->Gs,mem_filter->G3,getElem_mem->Hj,mem_range->Hr,length_set->H9,mem_cons_self->Im,mem_cons_of_mem->Jv,all_cons->Km,filter_cons->Q9,getElem?_eq_none->eq,mem_map->Bm8
open Nat renaming le_refl->B7,add_zero->E5,mod_eq_of_lt->E6,zero_add->Fl,mul_le_mul->Jq,sub_self->Nk
open Option renaming bind_eq_some_iff->Bl,map_eq_some_iff->Bp,bind_some->Bs,map_some->Cc,isNone_iff_eq_none->Dw,isSome_iff_exists->Dc,getD_some->D2
open Option.some renaming injEq->Bm
open Prod.mk renaming injEq->B3
set_option maxHeartbeats 1000000
set_option linter.defProp false
set_option linter.unusedVariables false
set_option linter.unusedSimpArgs false
namespace Go.X
open Go Go.RowKit
section
variable {P:Program} {sig:Nat->Option Nat} {fn:Fns} {w0:Fr} {Oe:Nat->Option Nat} {J:List PV} {σ:St} {a:Act} {tm:Array Value} {w:World} {β:Nat->Nat} {hv:Nat->Value} {O:Nat->Option Nat} {G:Option E} {o:Oper} {ws:List W}
def Rel.eqm {m':List (Nat×Blk)} {n:Nat} (h:Rel w0 Oe J σ tm w β hv O) (he:∀s,mget σ.m s=mget m' s):Rel w0 Oe J ⟨σ.t,m',n⟩ tm w β hv O:=by
 have hl:(Cx.mk J (Cr w O) β hv σ.m).Le ⟨J,Cr w O,β,hv,m'⟩:=⟨fun _ _ h=>h,Vw.Le.refl _⟩;have hat:∀s,(Cx.mk J (Cr w O) β hv σ.m).At ⟨J,Cr w O,β,hv,m'⟩ s:=fun s=>⟨rfl,rfl,fun e sz x ro xs h1 h2=>⟨e,x,ro,xs,by rw[<-he];exact h1,h2,B7 _⟩⟩;exact⟨h.bel,h.ext,h.out,Cb.le hl hat _ _ h.tmps,fun s b hs=>(h.mem s b (by rw[he];exact hs)).le hl hat (fun _=>rfl) (fun _=>rfl),
  fun s1 s2 b1 b2 h1 h2 h12 k1 k2=>h.inj s1 s2 b1 b2 (by rw[he];exact h1) (by rw[he];exact h2) h12 ((Has.congr (C:=⟨J,Cr w O,β,hv,σ.m⟩) rfl rfl).1 k1) ((Has.congr (C:=⟨J,Cr w O,β,hv,σ.m⟩) rfl rfl).1 k2),h.t0⟩
def P7 {e:TypeId} (h:B8 P e≠0):∃i,P.info? e=some i:=by
 cases hi:P.info? e with
 |some i=>exact⟨i,rfl⟩
 |none=>simp[B8,hi] at h
def Db3 {tb ts ty e:TypeId} {s:ByteArray} (ht:P.underlying tb=some (.slice e)) (hs:P.underlying ts=some .string) (hsz:B8 P e=1):SrcR P w O tb ts ty e (bytesPV s.data.toList) (.string s) (Lib.strCells s):=by
 have hlen:(bytesPV s.data.toList).length=s.size:=by simp[bytesPV]
 have size:∀i,P.info? e=some i->i.size=1:=fun i hi=>by simpa [B8,hi] using hsz
 have hnews:(Lib.strCells s).length=s.size:=Lib.strCells_length s;have hmap:(s.data.map fun b=>Value.int .u8 b.toNat)=(Lib.strCells s).toArray:=by apply Array.ext';simp[Lib.strCells]
 have pos:bytesPV s.data.toList≠[]->0<s.size:=fun h=>by rw[<-hlen];exact C2.2 h
 refine⟨by rw[hnews,hlen,hsz,Nat.mul_one],fun u hu=>Lib.strCells_oneCell s u hu,?_,fun hy b n cap hn=> ?_,fun hy hlim i z b hi hz hbb=> ?_,fun hy i g sLen sCap cur hi hg hroom hfit=> ?_,fun hy i z ad0 sLen sCap olds hi hz hbb hlo holds hgr hlim=> ?_⟩
 .intro i x hx;rw[hsz];simp only[bytesPV,C4,Bp] at hx;obtain⟨c,hc,rfl⟩:=hx;refine⟨rfl,fun j q hq=> ?_⟩;cases j with
  |zero=>
   simp[PV.cells] at hq;subst hq;exact⟨.int .u8 c.toNat,by simp only[Lib.strCells,Nat.mul_one,E5,C4,hc,Cc],rfl,.i .u8 _⟩
  |succ j=>simp[PV.cells] at hq
 .obtain⟨i,hi⟩:=P7 (P:=P) (e:=e) (by omega);have hm:s.size=0:=by rw[<-hlen,hy];rfl
  have hn0:Lib.strCells s=[]:=Cp (by rw[hnews];exact hm);have hf:=Lib.run_firstCells_string (P:=P) w i.size s;rw[hm,hn0] at hf;cases b<;>simp[Builtin.append_,run_underlying ht,run_underlying hs,sizeOf,typeInfo,hi,Builtin.lenOf,hm,hn,hf,storeCells]
 .rw[hlen] at hlim ⊢;have h0:=pos hy;simp only[LIM] at hlim;have hb2:s.size*i.bytes<=1073741824*65536:=Jq hlim hbb;cases b with
  |none=>
   rw[run_append_nil_string (P:=P) w tb ts ty e i z ht hs hi hz s h0 (by omega) (by omega),hmap]
  |some ad=>
   have:=Lib.run_append_grow_string (P:=P) w tb ts ty e i z ht hs hi hz ad 0 0 [] (by simp) (fun j v hj=>by simp at hj) s (by omega) (by omega) (growslice_fits (by omega) (by rw[Fl];omega));simpa using this
 .rw[hlen] at hroom ⊢;have hi1:=size i hi;rw[hnews,hi1] at hfit;have:=Lib.run_append_room_string (P:=P) w tb ts ty e i ht hs hi hi1 g sLen sCap cur hg s hroom (by omega);rw[hi1,hnews,Nat.mul_one];exact this
 .rw[hlen] at hgr hlim ⊢;simp only[LIM] at hlim;have hb2:(sLen+s.size)*i.bytes<=1073741824*65536:=Jq hlim hbb;exact Lib.run_append_grow_string (P:=P) w tb ts ty e i z ht hs hi hz ad0 sLen sCap olds hlo holds s hgr (by omega) (growslice_fits (by omega) (by omega))
def Rel.drop {w':World} {O':Nat->Option Nat} {s e0 sz0 n:Nat} {x0:E} (h:Rel w0 Oe J σ tm w β hv O) (h0:mget σ.m s=some (.arr e0 sz0 x0 .no))
  (hb:Bel ⟨w,some (hv s)⟩ w') (hO':∀c,c<w.heap.size->C8 (hv s)≠some c->O' c=O c) (hout:∀c,w'.heap.size<=c->O' c=none):
  Rel w0 Oe J (σ.eff ⟨Ld s (Ms σ.m s),n,some s⟩) tm w' β hv O':=by
 obtain⟨t1,t2,t3,t4,_⟩:=h.turned h0 hb hO';have hne:∀s',s'≠s->mget (Ld s (Ms σ.m s)) s'=(mget σ.m s').map (Blk.kill s):=fun s' hs=>by rw[Mw,Gy hs]
 have hsame:mget (Ld s (Ms σ.m s)) s=none:=by rw[Mw,Hw];rfl
 have hl:(Cx.mk J (Cr w O) β hv σ.m).Le ⟨J,Cr w' O',β,hv,Ld s (Ms σ.m s)⟩:=⟨fun _ _ h=>h,t2⟩;have hat:∀s',s'≠s->(Cx.mk J (Cr w O) β hv σ.m).At ⟨J,Cr w' O',β,hv,Ld s (Ms σ.m s)⟩ s':=fun s' hs=>
  ⟨rfl,rfl,fun e sz x ro xs h1 h2=>⟨e,x,ro.kill s,xs,by show mget (Ld s (Ms σ.m s)) s'=_;rw[hne s' hs,h1];rfl,h2,B7 _⟩⟩
 have hkhas:∀s' b',(Has ⟨J,Cr w' O',β,hv,Ld s (Ms σ.m s)⟩ s' (b'.kill s)↔Has ⟨J,Cr w O,β,hv,σ.m⟩ s' b'):=by
  intro s' b';cases b' with
  |box _ _=>exact Iff.rfl
  |map _ _=>exact Iff.rfl
  |arr _ _ _ _=>exact Iff.rfl
 refine⟨t1,t3,hout,Cb.kill hl hat _ _ h.tmps,fun s' b' hs'=> ?_,fun s1 s2 b1 b2 h1 h2 h12 hh1 hh2=> ?_,fun v hv0 ht=>h.t0 v hv0 (By3 ht)⟩
 .have hg:mget (Ld s (Ms σ.m s)) s'=some b':=hs';by_cases hs:s'=s
  .subst hs;rw[hsame] at hg;cases hg
  .rw[hne s' hs] at hg;obtain⟨b'',hb'',rfl⟩:=Bp.1 hg;exact(h.mem s' b'' hb'').kill hl hat hs (fun hh=>(t4 s' b'' hs hb'' hh).2.1) (fun hh=>(t4 s' b'' hs hb'' hh).2.2)
 .have g1:mget (Ld s (Ms σ.m s)) s1=some b1:=h1;have g2:mget (Ld s (Ms σ.m s)) s2=some b2:=h2;have n1:s1≠s:=fun e=>by subst e;rw[hsame] at g1;cases g1
  have n2:s2≠s:=fun e=>by subst e;rw[hsame] at g2;cases g2
  rw[hne s1 n1] at g1;rw[hne s2 n2] at g2;obtain⟨b1',hb1',rfl⟩:=Bp.1 g1;obtain⟨b2',hb2',rfl⟩:=Bp.1 g2;exact h.inj s1 s2 b1' b2' hb1' hb2' h12 ((hkhas s1 b1').1 hh1) ((hkhas s2 b2').1 hh2)
def Rel.bldr {b T:Nat} {x:SV} (h:Rel w0 Oe J σ tm w β hv O) (hb:mget σ.m b=some (.box [.slf b T,x] false)):
  ∃p u,w.heap[β b]? =some (.cells #[p,u] T (0,0))∧(p= .pointer none∨p= .pointer (some ⟨β b,0,none⟩))∧Cj ⟨J,Cr w O,β,hv,σ.m⟩ x u∧One u∧O (β b)=some 0∧w0.ok (β b):=by
 obtain⟨g1,g2,vs,T',g3,g4,g5,g6⟩:=h.mem b _ hb;have hT:T'=T:=g6 b T rfl;subst hT;simp only[Cb,Cj] at g5;obtain⟨p,r,hr,hp,u,r',hr',hu,rfl⟩:=g5;subst hr';have hvs:vs= #[p,u]:=by rw[<-Dn (xs:=vs),hr]
 subst hvs;exact⟨p,u,g3,hp,hu,g4 u (by simp),g2 rfl,g1⟩
def Rel.mark {b T:Nat} {x:SV} {p u:Value} (h:Rel w0 Oe J σ tm w β hv O) (hb:mget σ.m b=some (.box [.slf b T,x] false)) (hbk:w.heap[β b]? =some (.cells #[p,u] T (0,0))) (hp:p= .pointer none∨p= .pointer (some ⟨β b,0,none⟩)) (hu:Cj ⟨J,Cr w O,β,hv,σ.m⟩ x u) (h1:One u) (hO:O (β b)=some 0) (hok:w0.ok (β b)):
  ∃w1,Qz (β b) p w w1∧Rel w0 Oe J σ tm w1 β hv O:=by
 rcases hp with rfl|rfl
 .refine⟨_,.inl ⟨rfl,rfl⟩,?_⟩;have hother:∀c,c≠β b->(w.setCell ⟨β b,0,none⟩ (.pointer (some ⟨β b,0,none⟩))).heap[c]? =w.heap[c]? :=fun c hc=>Below.heap_setCell _ _ _ _ (fun e=>hc e);have hM:(Cr w O).Le (Cr (w.setCell ⟨β b,0,none⟩ (.pointer (some ⟨β b,0,none⟩))) O):=Hc (fun c _ hc=>hother c (fun e=>by subst e;exact absurd (hc 0 hO) (by omega))) (fun c _ lim hl=>⟨lim,hl,B7 _⟩) (fun c _ hn=>hn);have hr:=h.put (n:=σ.n) (w':=w.setCell ⟨β b,0,none⟩ (.pointer (some ⟨β b,0,none⟩))) (b:= .box [.slf b T,x] false) hb trivial hO
   (h.bel.turn hok rfl rfl rfl (B7 _) (by simp[World.setCell]) fun k _ hk=>hother k hk) (by simp[World.setCell]) hother (fun e sz x ro xs hh=>by cases hh)
   ⟨hok,fun _=>hO,#[.pointer (some ⟨β b,0,none⟩),u],T,by simp[World.setCell,L6,hbk],fun v hv=>by
    simp only[Cg,List.not_mem_nil,or_false] at hv;rcases hv with rfl|rfl
    .rfl
    .exact h1,by
    simp only[Cb];refine⟨_,_,rfl,.inr rfl,_,_,rfl,?_,rfl⟩;refine Cj.le (C:=⟨J,Cr w O,β,hv,σ.m⟩) (C':=⟨J,Cr (w.setCell ⟨β b,0,none⟩ (.pointer (some ⟨β b,0,none⟩))) O,β,hv,It σ.m b (.box [.slf b T,x] false)⟩) ⟨fun _ _ h=>h,hM⟩ (fun s'=>⟨rfl,rfl,fun e sz y ro xs h1 h2=> ?_⟩) _ _ hu;by_cases hss:s'=b
    .subst hss;have h1':mget σ.m s'=some (.arr e sz y ro):=h1;rw[hb] at h1';cases h1'
    .exact⟨e,y,ro,xs,by show mget (It σ.m b _) s'=_;rw[show mget (It σ.m b (.box [.slf b T,x] false)) s'=mget σ.m s' from Iv σ hss _];exact h1,h2,B7 _⟩,fun s' T' hh=>by injection hh with hh;injection hh⟩
  refine(hr.eqm (m':=σ.m) (n:=σ.n) fun s'=> ?_:_);show mget (It σ.m b _) s'=_;by_cases hss:s'=b
  .subst hss;rw[show mget (It σ.m s' (.box [.slf s' T,x] false)) s'=some _ from Ky σ s' _,hb]
  .exact Iv σ hss _
 .exact⟨w,.inr ⟨rfl,rfl⟩,h⟩
def Rel.laid {b T s e n:Nat} {x:E} {y:SV} (h:Rel w0 Oe J σ tm w β hv O) (hb:mget σ.m b=some (.box [.slf b T,y] false)) (hs:mget σ.m s=some (.arr e 1 x .no)):
  ∃ao m c,hv s= .slice ao m c∧(∃q u',w.heap[β b]? =some (.cells #[q,u'] T (0,0)))∧Rel w0 Oe J (σ.eff ⟨It σ.m b (.box [.slf b T,.h s] false),n,none⟩) tm (w.setCell ⟨β b,1,none⟩ (.slice ao m c)) β hv O:=by
 obtain⟨_,xs,vs,_,how,_,_⟩:=h.mem s _ hs;obtain⟨ao,m,c,hvs⟩:∃ao m c,hv s= .slice ao m c:=by
  rcases how.2 with⟨ad,e1,_⟩|⟨g,cap,cur,e1,_⟩
  .exact⟨ad,0,0,e1⟩
  .exact⟨_,_,_,e1⟩
 obtain⟨p,u,hbk,hp,hu,h1,hO,hok⟩:=h.bldr hb;refine⟨ao,m,c,hvs,⟨p,u,hbk⟩,?_⟩;have hother:∀k,k≠β b->(w.setCell ⟨β b,1,none⟩ (.slice ao m c)).heap[k]? =w.heap[k]? :=fun k hc=>Below.heap_setCell _ _ _ _ (fun e=>hc e);refine h.put hb trivial hO (h.bel.turn hok rfl rfl rfl (B7 _) (by simp[World.setCell]) fun k _ hk=>hother k hk) (by simp[World.setCell]) hother (fun e sz x ro xs hh=>by cases hh)
   ⟨hok,fun _=>hO,#[p,.slice ao m c],T,by simp[World.setCell,L6,hbk],fun v hv=>by
    simp only[Cg,List.not_mem_nil,or_false] at hv;rcases hv with rfl|rfl
    .rcases hp with rfl|rfl<;>rfl
    .rfl,by
    simp only[Cb];refine⟨_,_,rfl,hp,_,_,rfl,hvs.symm,rfl⟩,fun s' T' hh=>by injection hh with hh;injection hh⟩
end
section
variable {P:Program} {sig:Nat->Option Nat} {fn:Fns} {w0:Fr} {Oe:Nat->Option Nat} {J:List PV} {σ:St} {a:Act} {tm:Array Value} {w:World} {β:Nat->Nat} {hv:Nat->Value} {O:Nat->Option Nat} {G:Option E} {o:Oper} {ws:List W}
def Tz {T e:Nat} (h:Qx P T=some e):P.underlying e=some (.int .u8)∧B8 P e=1∧D8 P e=true∧∃zs,Ib P e=some zs:=by
 unfold Qx at h;split at h
 .split at h
  .split at h
   .split at h
    .rename_i hc;injection h with h;subst h;obtain⟨_,h1,h2,h3,h4⟩:=hc;refine⟨?_,h2,h3,Dc.1 h4⟩;unfold wm at h1;split at h1
     .rename_i hu;exact hu
     .cases h1
    .cases h
   .cases h
  .cases h
 .cases h
def Cx8 {s b k:Nat} (hne:b≠s):∀{j:Nat} {l:List SV},l[j]? =some (.bp b k)->(SV.kills s l)[j]? =some (.bp b k):=by
 intro j l
 induction l generalizing j with
 |nil=>intro h;simp at h
 |cons x l ih=>
  intro h;cases j with
  |zero=>
   simp only[Dm,Bm] at h;subst h;simp only[SV.kills,SV.kill,Dm,if_neg hne]
  |succ j=>
   simp only[SV.kills,Ec] at h ⊢;exact ih h
def Rel.bpAt {b k s:Nat} {m':List (Nat×Blk)} {n:Nat} {w':World} {β':Nat->Nat} {hv':Nat->Value} {O':Nat->Option Nat} (h:Rel w0 Oe J σ tm w β hv O) (hk:σ.t[k]? =some (.bp b 0)) (hne:b≠s) (h':Rel w0 Oe J (σ.eff ⟨m',n,some s⟩) tm w' β' hv' O'):β' b=β b:=by obtain⟨v,h1,h2⟩:=h.tmps.get k _ hk;obtain⟨v',h3,h4⟩:=h'.tmps.get k _ (Cx8 hne hk);rw[h1] at h3;injection h3 with h3;subst h3;simp only[Cj] at h2 h4;rw[h2] at h4;injection h4 with h4;injection h4 with h4;injection h4 with h4;exact h4.symm
def sn {b s T e k:Nat} {buf r:SV} {src:E} {ws0:List W} {ε:Eff} {tb ts:TypeId} {u vx:Value} (h:Rel w0 Oe J σ tm w β hv O) (hb:mget σ.m b=some (.box [.slf b T,buf] false)) (he:Qx P T=some e) (hk:σ.t[k]? =some (.bp b 0))
  (hw:dz σ s b T e buf src ws0=some (ws,r,ε)) (hck:Chk J ws) (hu:Cj ⟨J,Cr w O,β,hv,σ.m⟩ buf u) (hsrc:∀ys,src.ev J=some (.l 1 ys)->∃news,SrcR P w O tb ts tb e ys vx news):
  ∃ao n' c' w2 β' hv' O',(Builtin.append_ #[tb,ts] tb #[u,vx]).run P w= .ok (.slice ao n' c') w2∧(∃q u',w2.heap[β b]? =some (.cells #[q,u'] T (0,0)))∧Rel w0 Oe J (σ.eff ε) tm (w2.setCell ⟨β b,1,none⟩ (.slice ao n' c')) β' hv' O'∧r= .und:=by
 obtain⟨_,hsz,hsm,zs,hzs⟩:=Tz he;obtain⟨i,z,hi,hzz,hzz2,_,_⟩:=Hk (C:=⟨J,Cr w O,β,hv,σ.m⟩) hzs;have fin:∀(s1:Nat) (x:E),s1≠b->ε=⟨It (G6 σ.m σ.n s1 (.arr e 1 x .no)).m b (.box [.slf b T,.h s1] false),σ.n,some s1⟩->r= .und->
   (∃v' w' β' hv' O',(Builtin.append_ #[tb,ts] tb #[u,vx]).run P w= .ok v' w'∧Rel w0 Oe J (σ.eff (G6 σ.m σ.n s1 (.arr e (B8 P e) x .no))) tm w' β' hv' O'∧hv' s1=v')->
   ∃ao n' c' w2 β' hv' O',(Builtin.append_ #[tb,ts] tb #[u,vx]).run P w= .ok (.slice ao n' c') w2∧(∃q u',w2.heap[β b]? =some (.cells #[q,u'] T (0,0)))∧Rel w0 Oe J (σ.eff ε) tm (w2.setCell ⟨β b,1,none⟩ (.slice ao n' c')) β' hv' O'∧r= .und:=by
  rintro s1 x hne rfl hr ⟨v',w',β',hv',O',hrun,hrel,hv1⟩;rw[hsz] at hrel;have hβ:β' b=β b:=h.bpAt hk (Ne.symm hne) hrel;have hb2:mget (σ.eff (G6 σ.m σ.n s1 (.arr e 1 x .no))).m b=some (.box [.slf b T,buf.kill s1] false):=by show mget (G6 σ.m σ.n s1 (.arr e 1 x .no)).m b=_;rw[show mget (G6 σ.m σ.n s1 (.arr e 1 x .no)).m b=(mget σ.m b).map (Blk.kill s1) from Kz σ (Ne.symm hne) _,hb];simp only[Cc,Blk.kill,SV.kills,SV.kill,if_neg (Ne.symm hne)]
  have hs2:mget (σ.eff (G6 σ.m σ.n s1 (.arr e 1 x .no))).m s1=some (.arr e 1 x .no):=Lc σ s1 _;obtain⟨ao,m,c,e1,e2,e3⟩:=hrel.laid (n:=σ.n) hb2 hs2;rw[hβ] at e2 e3;rw[<-hv1,e1] at hrun;exact⟨ao,m,c,w',β',hv',O',hrun,e2,e3,hr⟩
 have appd:∀(y:E) (xs:List PV),y.ev J=some (.l 1 xs)->(∃q,(E.app 1 y src).ev J=some q)->∃ys news,SrcR P w O tb ts tb e ys vx news∧(E.app 1 y src).ev J=some (.l 1 (xs++ys))∧xs.length+ys.length<=LIM:=by
  rintro y xs hy ⟨q,hq⟩;have hq':=hq;simp only[E.ev,hy,Bs,Bl] at hq';obtain⟨p,hp,hq'⟩:=hq';unfold I0 at hq';split at hq'
  .rename_i heq1;injection heq1 with heq1 heq2;subst heq1;subst heq2;split at hq'
   .rename_i hcond;obtain⟨_,rfl,hlim⟩:=hcond;injection hq' with hq';obtain⟨news,hn⟩:=hsrc _ hp;exact⟨_,news,hn,by rw[hq,hq'],hlim⟩
   .cases hq'
  .cases hq'
 unfold dz at hw;split at hw
 .split at hw
  .cases hw
  .rename_i hne;simp only[Bm,B3] at hw;obtain⟨rfl,rfl,rfl⟩:=hw;refine fin s _ hne rfl rfl ?_;obtain⟨ys,news,h1,h2,h3⟩:=appd _ [] rfl (hck _ (C6 _ (Dj.2 rfl)));simp only[Cj] at hu;subst hu;exact J0 (b:=none) (ro:= .no) h hsm hi hzz hzz2 h1 (by rw[hsz];simpa using h2) (by simpa using h3)
 .rename_i s0;split at hw
  .cases hw
  .rename_i hne;split at hw
   .rename_i e0 sz y hb0;split at hw
    .cases hw
    .rename_i hcond;simp only[not_or,Decidable.not_not] at hcond;obtain⟨rfl,rfl⟩:=hcond;simp only[Bm,B3] at hw;obtain⟨rfl,rfl,rfl⟩:=hw;refine fin s0 _ hne rfl rfl ?_;obtain⟨_,xs,_,g1,_⟩:=h.mem s0 _ hb0;have g1':y.ev J=some (.l 1 xs):=g1;obtain⟨ys,news,h1,h2,h3⟩:=appd _ xs g1' (hck _ (C6 _ (Dj.2 rfl)));simp only[Cj] at hu;subst hu;exact V0 (lk:=none) h h (fun _ _ hne hb=>⟨hne,hb⟩) hsm hi hzz hzz2 (by rw[hsz];exact hb0) (by rw[hsz];exact g1') h1 (by rw[hsz];exact h2) h3
   .cases hw
 .cases hw
def cg (w:World) (ad:Addr) (n k:Nat) (hk:k≠ad.block):(w.freeze ad n).heap[k]? =w.heap[k]? :=by
 unfold World.freeze;split
 .rfl
 .simp only[L6];rw[if_neg (fun h=>hk h.symm)]
def im (w:World) (ad:Addr) (n:Nat):(w.freeze ad n).heap.size=w.heap.size:=by
 unfold World.freeze;split
 .rfl
 .simp only[Array.size_modify]
def ir (w:World) (ad:Addr) (n:Nat):(w.freeze ad n).os=w.os∧(w.freeze ad n).tape=w.tape∧(w.freeze ad n).output=w.output∧(w.freeze ad n).drawn=w.drawn:=by unfold World.freeze;split<;>exact⟨rfl,rfl,rfl,rfl⟩
def Fw9 (hC:Contract P sig fn) {c:Call} {f T k s:Nat} {r:SV} {ε:Eff} (ho:o.op= .call c) (hc:c.callee= .value (.func f)) (hbl:jh (sig f)=some (T,k))
  (h:Rel w0 Oe J σ a.tmps w β hv O) (hG:GOk J G) (hx:Ej9 P σ G s T k (args P σ G c.args.toList c.argTypes.toList)=some (ws,r,ε)) (hk:Chk J ws):Ed P o a w (G1 w0 Oe J σ a.tmps ε r):=by
 have hsay:=hC.bld f T k hbl;have hfx:a.eval (.func f)= .func (.func f) #[] #[]:=rfl;unfold Ej9 at hx;split at hx
 .cases hx
 .rename_i hG0;split at hx
  .rename_i b ar has;have hG':G=none:=by cases G<;>simp_all
   subst hG';have hargs:Cb ⟨J,Cr w O,β,hv,σ.m⟩ (.bp b 0::ar) (c.args.map a.eval).toList:=by have:=Pn (ds:=a.defers) (C:=⟨J,Cr w O,β,hv,σ.m⟩) hG rfl h.tmps has;simpa using this
   simp only[Cb,Cj] at hargs;obtain⟨v0,vr,hcs,rfl,hrest⟩:=hargs;have hloc:∃j:Nat,σ.t[j]? =some (SV.bp b 0):=by
    cases hl:c.args.toList with
    |nil=>rw[hl] at has;simp[args] at has
    |cons x xs=>
     rw[hl] at has;simp only[args] at has;split at has
     .rename_i y ys h1 _;simp only[Bm,List.cons.injEq] at has;obtain⟨rfl,_⟩:=has;cases x with
      |tmp j=>
       simp only[opd,Bl] at h1;obtain⟨sv,h2,h3⟩:=h1;unfold Bp4 at h3;split at h3
       .simp[Xz] at h3
       .injection h3 with h3;subst h3;exact⟨j,h2⟩
      |const v=>
       simp only[opd,Bm] at h1;cases v<;>simp[O6] at h1;split at h1<;>cases h1
      |func g=>simp[opd] at h1
      |global g=>simp[opd] at h1
     .cases has
   obtain⟨j,hj⟩:=hloc;split at hx
   .rename_i b' T' buf hb;split at hx
    .cases hx
    .rename_i hcond;simp only[not_or,Decidable.not_not] at hcond;obtain⟨rfl,rfl⟩:=hcond;split at hx
     .cases hx
     .rename_i e he;obtain⟨hu8,hsz,hsm,_⟩:=Tz he;obtain⟨p,u,hbk,hp,hu,h1,hO,hok⟩:=h.bldr hb;obtain⟨w1,hm,hrel1⟩:=h.mark hb hbk hp hu h1 hO hok;have hu1:∀(w':World),(∀s0,buf= .h s0∨buf= .nil 0∨True)->Cj ⟨J,Cr w O,β,hv,σ.m⟩ buf u->(∃s0,buf= .h s0)∨(∃n,buf= .nil n)->Cj ⟨J,Cr w' O,β,hv,σ.m⟩ buf u:=by
       rintro w' _ hq (⟨s0,rfl⟩|⟨n,rfl⟩)
       .simp only[Cj] at hq ⊢;exact hq
       .simp only[Cj] at hq ⊢;exact hq
      have kinds:∀{src:E} {ws0:List W},dz σ s b' T' e buf src ws0=some (ws,r,ε)->(∃s0,buf= .h s0)∨(∃n,buf= .nil n):=by
       intro src ws0 hw;unfold dz at hw;split at hw
       .exact .inr ⟨_,rfl⟩
       .exact .inl ⟨_,rfl⟩
       .cases hw
      split at hx
      ·-- WriteString
       rename_i x;simp only[Cb,Cj] at hrest;obtain⟨v1,vr',rfl,⟨q,hq,hqr⟩,rfl⟩:=hrest;obtain⟨tb,ts,e',he',htb,hts,hrun⟩:=hsay;rw[he] at he';injection he' with he';subst he';obtain⟨p1,hp1⟩:∃p1,(E.s2b x).ev J=some p1:=by
        unfold dz at hx;split at hx
        .split at hx
         .cases hx
         .simp only[Bm,B3] at hx;obtain⟨rfl,_,_⟩:=hx;obtain⟨q2,hq2⟩:=hk _ (C6 _ (Dj.2 rfl));simp only[E.ev,Bs,Bl] at hq2;obtain⟨p2,hp2,_⟩:=hq2;exact⟨p2,by simpa only[E.ev,Bl] using hp2⟩
        .split at hx
         .cases hx
         .split at hx
          .split at hx
           .cases hx
           .simp only[Bm,B3] at hx;obtain⟨rfl,_,_⟩:=hx;obtain⟨q2,hq2⟩:=hk _ (C6 _ (Dj.2 rfl));simp only[E.ev,Bl] at hq2;obtain⟨_,_,p2,hp2,_⟩:=hq2;exact⟨p2,by simpa only[E.ev,Bl] using hp2⟩
          .cases hx
        .cases hx
       have hq':x.ev J=some q:=hq;have hstr:∃l,q= .s l∧p1= .l 1 (bytesPV l):=by
        simp only[E.ev,hq',Bs] at hp1;unfold t6 at hp1;split at hp1
        .split at hp1
         .injection hp1 with hp1;exact⟨_,rfl,hp1.symm⟩
         .cases hp1
        .cases hp1
       obtain⟨l,rfl,rfl⟩:=hstr;obtain⟨str,hv1,hl⟩:∃str:ByteArray,v1= .string str∧str.data.toList=l:=by
        cases hqr with
        |s _ y hy=>exact⟨y,rfl,hy⟩
       subst hv1;obtain⟨ao,n',c',w2,β',hv',O',r1,r2,r3,rfl⟩:=sn (ws:=ws) (tb:=tb) (ts:=ts) (vx:= .string str) hrel1 hb he hj hx hk (hu1 w1 (fun _=> .inr (.inr trivial)) hu (kinds hx)) (fun ys hys=>by rw[hp1] at hys;injection hys with hys;injection hys with _ hys;subst hys;rw[<-hl];exact⟨_,Db3 htb hts hsz⟩);refine Gg (cv:= #[]) ho hc hfx ?_;have hargs:c.args.map a.eval++ #[]= #[.pointer (some ⟨β b',0,none⟩),.string str]:=by rw[V6,<-Dn (xs:=c.args.map a.eval),hcs]
       rw[hargs];refine(hrun w w1 w2 (β b') p u str ao n' c' hbk hm r1 r2).mono fun v w' hw'=> ?_;subst hw';exact⟨β',hv',O',r3,by simp only[Cj]⟩
      ·-- WriteByte
       rename_i x;simp only[Cb,Cj] at hrest;obtain⟨v1,vr',rfl,⟨q,hq,hqr⟩,rfl⟩:=hrest;obtain⟨tb,e',he',htb,hrun⟩:=hsay;rw[he] at he';injection he' with he';subst he';have hmem:W.chk (.b2s (.lit 1 [x]))∈ws:=by
        unfold dz at hx;split at hx
        .split at hx
         .cases hx
         .simp only[Bm,B3] at hx;obtain⟨rfl,_,_⟩:=hx;simp
        .split at hx
         .cases hx
         .split at hx
          .split at hx
           .cases hx
           .simp only[Bm,B3] at hx;obtain⟨rfl,_,_⟩:=hx;simp
          .cases hx
        .cases hx
       obtain⟨q2,hq2⟩:=hk _ hmem;have hq':x.ev J=some q:=hq;simp only[E.ev,E.evs,hq',Bs,Cc,K1,Sq,Km,List.all_nil,Ot] at hq2;obtain⟨n,rfl⟩:∃n,q= .i .u8 n:=by
        split at hq2
        .simp only[Bs,Ub,Bp] at hq2;obtain⟨bs,hbs,_⟩:=hq2;obtain⟨ns,hns,_⟩:=Mx hbs;cases ns with
         |nil=>simp at hns
         |cons n ns=>simp at hns;exact⟨n,hns.1⟩
        .simp at hq2
       have hv1:v1= .int .u8 n:=hqr.int;subst hv1;let w1':=w1.alloc (.cells #[.int .u8 n] e);obtain⟨hrel2,_⟩:=hrel1.belowO (w':=w1') (O':=O) ((Blw.refl _ _).alloc (B7 _) _) (fun _ _=>rfl) (fun c hc=>hrel1.out c (by rw[show w1'.heap.size=w1.heap.size+1 by simp[w1']] at hc;omega));have hcell:w1'.cell? ⟨w1.heap.size,0,none⟩=some (.int .u8 n):=by rw[cell_of_row w1' w1.heap.size 0 #[.int .u8 n] e (0,0) (heap_alloc_new w1 _)];rfl
       have hsrc:Src w1' O (B8 P e) [.i .u8 n] (.slice (some ⟨w1.heap.size,0,none⟩) 1 1) [.int .u8 n]:=by
        rw[show Src w1' O (B8 P e)=Src w1' O 1 by rw[hsz]];refine⟨rfl,fun u hu=>by simp at hu;subst hu;rfl,fun i x hx=> ?_,_,_,rfl,fun _=>⟨_,rfl,fun j u hj=> ?_⟩⟩
        .cases i with
         |zero=>
          simp at hx;subst hx;refine⟨rfl,fun j c hc=> ?_⟩;cases j with
          |zero=>simp[PV.cells] at hc;subst hc;exact⟨_,rfl,rfl,.i .u8 n⟩
          |succ j=>simp[PV.cells] at hc
         |succ i=>simp at hx
        .cases j with
         |zero=>simp at hj;subst hj;simpa [Go.Addr.add] using hcell
         |succ j=>simp at hj
       obtain⟨i0,hi0⟩:=P7 (P:=P) (e:=e) (by omega);obtain⟨ao,n',c',w2,β',hv',O',r1,r2,r3,rfl⟩:=sn (ws:=ws) (tb:=tb) (ts:=tb) (vx:= .slice (some ⟨w1.heap.size,0,none⟩) 1 1) hrel2 hb he hj hx hk (hu1 w1' (fun _=> .inr (.inr trivial)) hu (kinds hx)) (fun ys hys=>by
        simp only[E.ev,E.evs,hq',Bs,Cc,K1,Sq,Km,List.all_nil,Ot] at hys;split at hys
        .injection hys with hys;injection hys with _ hys;subst hys;exact⟨_,hsrc.runs htb (by rw[hi0];rfl)⟩
        .cases hys)
       refine Gg (cv:= #[]) ho hc hfx ?_;have hargs:c.args.map a.eval++ #[]= #[.pointer (some ⟨β b',0,none⟩),.int .u8 n]:=by rw[V6,<-Dn (xs:=c.args.map a.eval),hcs]
       rw[hargs];refine(hrun w w1 w2 (β b') p u n ao n' c' hbk hm r1 r2).mono fun v w' hw'=> ?_;subst hw';exact⟨β',hv',O',r3,by simp only[Cj]⟩
      ·-- String
       split at hx
       .rename_i s0;split at hx
        .rename_i e0 sz y hb0;split at hx
         .cases hx
         .rename_i hcond;simp only[not_or,Decidable.not_not] at hcond;obtain⟨rfl,hne,rfl⟩:=hcond;simp only[Bm,B3] at hx;obtain⟨rfl,rfl,rfl⟩:=hx;simp only[Cb] at hrest;subst hrest;obtain⟨e',he',hrun⟩:=hsay;rw[he] at he';injection he' with he';subst he';obtain⟨_,xs,us,g1,g2,g3,g4,_⟩:=h.mem s0 _ hb0;have g1':y.ev J=some (.l 1 xs):=g1;obtain⟨q,hq⟩:=hk _ (Im ..);obtain⟨q2,hq2⟩:=hk _ (Jv _ (Dj.2 rfl));have hq':=hq;simp only[E.ev,g1',Bs,Ub,Bp] at hq';obtain⟨l,hl,rfl⟩:=hq';obtain⟨ns,rfl,hls,hrg⟩:=Mx hl;have hne0:l≠[]:=by
           rintro rfl;have hq3:(E.sidx (.b2s y) (.c (.i .i64 0))).ev J=((E.b2s y).ev J).bind fun p=>Rl p (.i .i64 0):=by simp[E.ev]
           rw[hq3,hq] at hq2;simp[Rl] at hq2
          have hlen:l.length=(ns.map (PV.i .u8)).length:=by rw[hls];simp
          have hus:us=Lib.byteCells l:=by
           refine List.ext_getElem? fun i=> ?_;by_cases hi:i<ns.length
           .obtain⟨_,k2⟩:=g3 i (.i .u8 (ns[i])) (by simp[hi]);obtain⟨uu,u1,_,u3⟩:=k2 0 (.i .u8 (ns[i])) rfl;rw[Nat.mul_one,E5] at u1;have hr:=hrg (ns[i]) (Hj hi);rw[u1,u3.int,hls];simp only[Lib.byteCells,List.map_map,C4,B4 hi,Cc,Function.comp_apply];congr 2;have:(UInt8.ofNat (ns[i]).toNat).toNat=(ns[i]).toNat:=by rw[UInt8.toNat_ofNat'];exact E6 (by omega)
            rw[this];omega
           .have h2:us.length=ns.length:=by have:=g2.1;simpa using this
            rw[eq (by omega),eq (by simp[Lib.byteCells,hls];omega)]
          simp only[Cj] at hu;subst hu;rcases g2.2 with⟨_,_,e2⟩|⟨g,cap,cur,e1,e1c,e2,e3,e4,e5,e6,e7⟩
          .exact absurd (Cp (by omega)) hne0
          .have e1':hv s0= .slice (some ⟨g,0,none⟩) l.length cap:=by rw[hlen];exact e1
           have hgb:C8 (hv s0)=some g:=by rw[e1'];simp only[C8,if_neg (show¬cap=0 by omega)]
           refine Gg (cv:= #[]) ho hc hfx ?_;have hargs:c.args.map a.eval++ #[]= #[.pointer (some ⟨β b',0,none⟩)]:=by rw[V6,<-Dn (xs:=c.args.map a.eval),hcs]
           rw[hargs];refine(hrun w (β b') g cap p cur l (by rw[<-e1'];exact hbk) e3 hne0 (by omega) e5 (by omega) (by rw[<-hus,<-e7,hlen,Nat.mul_one])).mono fun v w' hw'=> ?_;obtain⟨rfl,rfl⟩:=hw';have hfz:∀k,k≠g->(w.drew.freeze ⟨g,0,none⟩ l.length).heap[k]? =w.heap[k]? :=fun k hk=>cg w.drew ⟨g,0,none⟩ l.length k hk;have hsize:(w.drew.freeze ⟨g,0,none⟩ l.length).heap.size=w.heap.size:=im w.drew _ _;obtain⟨z1,z2,z3,z4⟩:=ir w.drew ⟨g,0,none⟩ l.length;have hbel:Bel ⟨w,some (hv s0)⟩ (w.drew.freeze ⟨g,0,none⟩ l.length):=⟨z1,z2,z3,by rw[z4];exact Nat.le_succ _,by rw[hsize];exact B7 _,fun k _ hk=>hfz k (fun e=>hk (by show C8 (hv s0)=_;rw[hgb,e]))⟩;exact⟨β,hv,O,h.drop (n:=σ.n) hb0 hbel (fun _ _ _=>rfl) (fun c hc=>h.out c (by rw[hsize] at hc;exact hc)),by simp only[Cj];exact⟨_,hq,.s _ _ rfl⟩⟩
        .cases hx
       .cases hx
      .cases hx
   .cases hx
  .cases hx
def Dc9 {xt yt e:TypeId} {x y:Operand} {ex:E} (ho:o.op= .binOp .eql xt x y yt) (ht:H1 P xt=some e) (hy:By8 y=true) (h:Rel w0 Oe J σ a.tmps w β hv O) (hG:GOk J G) (hx:opd P σ G xt x=some (.e ex))
  (hk:Chk J [Gp G (.len ex)]):Ed P o a w (G1 w0 Oe J σ a.tmps (Gm σ) (.nilq ex)):=by
 have hu:=L9 ht;obtain⟨r,hr⟩:=hk.g1 hG;have hr0:=Fw (ds:=a.defers) (C:=⟨J,Cr w O,β,hv,σ.m⟩) hG rfl hx h.tmps;have e0:a.eval=(Act.mk a.tmps a.defers).eval:=rfl;rw[<-e0] at hr0;simp only[Cj] at hr0;obtain⟨p,hp,hpr⟩:=hr0;have hp':ex.ev J=some p:=hp;simp only[E.ev,hp',Bs] at hr;unfold Hg at hr;split at hr
 .rename_i sz xs;have hyv:a.eval y= .slice none 0 0:=by
   unfold By8 at hy;split at hy
   .rfl
   .cases hy
  generalize hv1:a.eval x=v1 at hpr;cases hpr with
  |l _ _ base cap ad el hc hb hs hM h1 hh=>
   refine Ed.value (v:= .bool base.isNone) (w':=w) ?_ (.keep h ?_)
   .have hrun:(binOp .eql xt (.slice base xs.length cap) (.slice none 0 0)).run P w= .ok (.bool base.isNone) w:=by
     have hq:∀d:Nat,(Op.equalIn (d+1) xt (.slice base xs.length cap) (.slice none 0 0)).run P w= .ok base.isNone w:=fun d=>by cases base<;>simp[Op.equalIn,run_underlying hu]
     simp only[binOp];simp[Op.equal,Op.maxDepth,hq 9999]
    have hgd:(eqGuard .eql xt x y (.slice base xs.length cap) (.slice none 0 0)).run P w= .ok () w:=by simp[eqGuard]
    simp only[execOp,ho,hv1,hyv,Sem.run_bind,hgd,hrun,Result.andThen];rfl
   .simp only[Cj];refine⟨sz,xs,base.isNone,hp',rfl,fun hn=> ?_⟩;refine Classical.byContradiction fun hne=> ?_;have:=hb hne;subst this;cases hn
 .cases hr
end
section
variable {P:Program} {sig:Nat->Option Nat} {fn:Fns} {w0:Fr} {Oe:Nat->Option Nat} {J:List PV} {σ:St} {a:Act} {tm:Array Value} {w:World} {β:Nat->Nat} {hv:Nat->Value} {O:Nat->Option Nat} {G:Option E} {o:Oper} {ws:List W}
def Mq {r:Option (List W×SV)} {v:SV} {ε:Eff} (h:Zl r σ=some (ws,v,ε)):r=some (ws,v)∧ε=Gm σ:=by unfold Zl at h;obtain⟨⟨a,b⟩,h1,h2⟩:=Bp.1 h;simp only[B3] at h2;obtain⟨rfl,rfl,rfl⟩:=h2;exact⟨h1,rfl⟩
def jd (hC:Contract P sig fn) {c:Call} {x:Operand} {svs:List SV} {more:List Nat} {r:SV} {ε:Eff} {mk:Option E->Bool->List E->Nat->W} {η1 η2 ζ:List PV} {s:Nat} {r':SV} {ε':Eff} (ho:o.op= .call c) (hc:c.callee= .value x)
  (h:Rel w0 Oe J σ a.tmps w β hv O) (hG:GOk J G) (hargs:args P σ G c.args.toList c.argTypes.toList=some svs) (hcall:Vr P σ G o.type mk svs more=some (ws,r,ε))
  (hmk:∀flat es m,ws=[mk G flat es m]->(mk G flat es m).ev fn η1=some η2->∃vs f caps,E.evs η1 es=some vs∧results flat m η1 (fn f vs.length (vs++caps))=some η2∧
   Ev7 P sig σ.m σ.n J o.type s f flat r ε r' ε'∧
   ∀O1,(Cr w O).Le (Cr w O1)->(∀s,s∈more->K0 ⟨J,Cr w O,β,hv,σ.m⟩ O1 s)->Tgt (Cr w O1) f caps (a.eval x))
  (hw:Eb fn η1 ws=some η2) (hη:J=η2++ζ) (hn:η1.length=σ.n):Ed P o a w (G1 w0 Oe J σ a.tmps ε' r'):=by
 unfold Vr at hcall;split at hcall
 .cases hcall
 .rename_i es ss hes;dsimp only at hcall;split at hcall
  .cases hcall
  .rename_i hsm;split at hcall
   .cases hcall
   rename_i hlt;split at hcall
   .cases hcall
   .simp only[Bm,B3] at hcall;obtain⟨rfl,rfl,rfl⟩:=hcall;simp only[Eb,Bl] at hw;obtain⟨η3,hw,he⟩:=hw;injection he with he;subst he;obtain⟨vs,f,caps,k1,k2,k3,k4⟩:=hmk _ _ _ rfl hw;obtain⟨rs,q1,q2,q3,q4⟩:=Iq k2;subst q4;have hvs:E.evs J es=some vs:=by rw[hη,Ck];exact E.evs_mono _ _ _ _ k1
    have hr:Cb ⟨J,Cr w O,β,hv,σ.m⟩ svs (c.args.map a.eval).toList:=by have:=Pn (ds:=a.defers) (C:=⟨J,Cr w O,β,hv,σ.m⟩) hG rfl h.tmps hargs;simpa using this
    refine Ds5 (s:=s) hC (single:=I4 P o.type) ho hc h hr hes hvs k4 q1 (by rw[(Pd hvs).1];simpa using hlt) q2 q3 hη hn (fun h1=> ?_) (fun h1=> ?_) (ty:=o.type) (fun h1=> ?_) k3
    .unfold I4 at h1;unfold Kx;split at h1
     .cases h1
     .rfl
    .rw[h1] at hsm;simpa using hsm
    .unfold I4 at h1;unfold Kx;split at h1
     .cases h1
     .rfl
def Ch0 (hC:Contract P sig fn) {own:List Nat} {s:Nat} {r:SV} {ε:Eff} (h:Rel w0 Oe J σ a.tmps w β hv O) (hG:GOk J G) (hx:xop P sig own σ G s o=some (ws,r,ε)) {η1 η2 ζ:List PV} (hw:Eb fn η1 ws=some η2) (hη:J=η2++ζ) (hn:η1.length=σ.n):
  Ed P o a w (G1 w0 Oe J σ a.tmps ε r):=by
 have hk:Chk J ws:=fun x hx=>Bd3 hw ⟨ζ,hη⟩ x hx;unfold xop at hx;dsimp only at hx;split at hx
 ·-- move
  rename_i x ho;obtain⟨v,hv1,he⟩:=Bp.1 hx;simp only[B3] at he;obtain⟨rfl,rfl,rfl⟩:=he;exact At2 (.inl ho) h hG hv1
 .rename_i x ho;obtain⟨v,hv1,he⟩:=Bp.1 hx;simp only[B3] at he;obtain⟨rfl,rfl,rfl⟩:=he;exact At2 (.inr ho) h hG hv1
 .rename_i c x y ho;split at hx
  .rename_i ec hc;split at hx
   .rename_i ea eb h1 h2;simp only[Bm,B3] at hx;obtain⟨rfl,rfl,rfl⟩:=hx;exact Dc8 ho h hG hc h1 h2 hk
   .cases hx
  .cases hx
 ·-- alloc
  rename_i t ho;split at hx
  .cases hx
  .obtain⟨cs,h1,he⟩:=Bl.1 hx;split at he
   .rename_i hns;simp only[Bm,B3] at he;obtain⟨rfl,rfl,rfl⟩:=he;exact Cq3 ho h h1 hns
   .cases he
 ·-- box
  rename_i t x ho;split at hx
  .cases hx
  .split at hx
   .rename_i ws' cs hb;split at hx
    .rename_i hns;simp only[Bm,B3] at hx;obtain⟨rfl,rfl,rfl⟩:=hx;obtain⟨sv,h1,h2⟩:=Bl.1 hb;exact Fw8 ho h hG h1 h2 hns hk
    .cases hx
   .cases hx
 ·-- build
  rename_i t parts ho;split at hx
  .rename_i zs vs h1 h2;split at hx
   .rename_i ws' cs hf;split at hx
    .rename_i hc;simp only[Bm,B3] at hx;obtain⟨rfl,rfl,rfl⟩:=hx;simp only[Bt] at hc;have hk':Chk J ws':=by
      rcases B0 G.isNone with hfr|hfr
      .rw[hfr,if_pos rfl] at hk;exact hk
      .rw[hfr,Ex0] at hc;intro x hx;have:=Db.1 hc.1 _ hx;unfold W.triv at this;split at this
       .rename_i p e;injection e with e;subst e;exact⟨p,by simp only[E.ev,Bs,this,if_true]⟩
       .cases this
     have:=Cq2 ho h hG h1 h2 hf hc.2 hk' (r0:=if own.contains s then .ag cs else bc cs) (by split<;>simp);exact this
    .cases hx
   .cases hx
  .cases hx
 ·-- buildSlice
  rename_i t len parts ho;split at hx
  .rename_i e vs h1 h2;split at hx
   .cases hx
   .rename_i hc;simp only[Cq,not_or,Dl,Nv,bne_iff_ne,ne_eq,Decidable.not_not,decide_eq_true_eq,Bool.not_eq_true,Dw,decide_eq_false_iff_not] at hc;obtain⟨⟨⟨⟨_,hr⟩,hsm⟩,hsz⟩,hz⟩:=hc;obtain⟨zs,hz⟩:=Option.ne_none_iff_exists'.1 (by simpa using hz);have ht:P.underlying t=some (.slice e):=by
     unfold H1 at h1;split at h1
     .rename_i h;rw[h];injection h1 with h1;rw[h1]
     .cases h1
    split at hx
    .rename_i ws' es ss h3 h4;split at hx
     .split at hx
      .simp only[Bm,B3] at hx;obtain⟨rfl,rfl,rfl⟩:=hx;exact Nr (own:=true) ho ht h hG hz h2 hr (by simpa using hsm) hsz h3 h4 hk (.inr ⟨rfl,rfl,_,rfl,by split;exact .inr rfl;exact .inl rfl⟩)
      .cases hx
     .simp only[Bm,B3] at hx;obtain⟨rfl,rfl,rfl⟩:=hx;refine Nr (own:=false) (s:=s) ho ht h hG hz h2 hr (by simpa using hsm) hsz h3 h4 (fun x hx=> ?_) (.inl ⟨rfl,rfl,rfl⟩);rcases Dp.1 hx with hx|hx
      .exact hk x (Fq _ hx)
      .simp only[Dj,W.chk.injEq] at hx;subst hx;exact Chk.g1 (G:=G) (fun y hy=>hk y (C6 _ hy)) hG
    .cases hx
  .cases hx
 ·-- load
  rename_i t x ho;obtain⟨h1,rfl⟩:=Mq hx;obtain⟨p,h2,h3⟩:=Bl.1 h1;exact Dd0 ho h hG h2 h3 hk
 ·-- store
  rename_i t x y ho;split at hx
  .cases hx
  .split at hx
   .rename_i p v h1 h2;obtain⟨⟨ws',ε'⟩,h3,he⟩:=Bp.1 hx;simp only[B3] at he;obtain⟨rfl,rfl,rfl⟩:=he;exact Ck7 ho h hG h1 h2 h3 hk
   .cases hx
 ·-- nilCheck
  rename_i x ho;split at hx
  all_goals first
   |(rename_i h1
     simp only[Bm,B3] at hx;obtain⟨rfl,rfl,rfl⟩:=hx
     first
      |exact Jz ho h hG h1 (.inl ⟨_,rfl,hk⟩)
      |exact Jz ho h hG h1 (.inr (.inl ⟨_,_,rfl⟩))
      |exact Jz ho h hG h1 (.inr (.inr (.inl ⟨_,_,rfl⟩)))
      |exact Jz ho h hG h1 (.inr (.inr (.inr (.inl ⟨_,_,_,rfl⟩))))
      |exact Jz ho h hG h1 (.inr (.inr (.inr (.inr ⟨_,_,rfl⟩)))))
   |cases hx
 ·-- binOp
  rename_i op xt x y yt ho;split at hx
  .rename_i ex hnq;simp only[Bm,B3] at hx;obtain⟨rfl,rfl,rfl⟩:=hx;split at hnq
   .rename_i hcond;obtain⟨rfl,hte,hnil⟩:=hcond;obtain⟨e,hte⟩:=Dc.1 hte;exact Dc9 ho hte hnil h hG hnq hk
   .cases hnq
  split at hx
  .rename_i ex ey h1 h2;split at hx
   .rename_i hag;split at hx
    .rename_i ts hts;have hbt:Kk P xt=false->P.underlying xt=some .bool:=by
      intro h0;rw[h0] at hag;simp only[Ex0,Bz0] at hag;split at hag
      .assumption
      .cases hag
     split at hx
     .split at hx
      .cases hx
      .rename_i hg;simp only[Bm,B3] at hx;obtain⟨rfl,rfl,rfl⟩:=hx;exact Cm5 (neg:=false) ho rfl rfl hts (by simpa using hg) hbt h hG h1 h2 hk
     .split at hx
      .cases hx
      .rename_i hg;simp only[Bm,B3] at hx;obtain⟨rfl,rfl,rfl⟩:=hx;exact Cm5 (neg:=true) ho rfl rfl hts (by simpa using hg) hbt h hG h1 h2 hk
     .cases hx
    .cases hx
   .simp only[Bm,B3] at hx;obtain⟨rfl,rfl,rfl⟩:=hx;exact Fx0 ho h hG h1 h2 hk
  .cases hx
 ·-- unOp
  rename_i op t x ho;obtain⟨ex,h1,he⟩:=Bp.1 hx;simp only[B3] at he;obtain⟨rfl,rfl,rfl⟩:=he;exact Gy8 ho h hG h1 hk
 ·-- convert
  rename_i src dst x ho;split at hx
  .rename_i k' k h1 h2;obtain⟨ex,h3,he⟩:=Bp.1 hx;simp only[B3] at he;obtain⟨rfl,rfl,rfl⟩:=he;exact Dd1 ho h1 h2 h hG h3 hk
  .rename_i h1 h2;obtain⟨ex,h3,he⟩:=Bp.1 hx;simp only[B3] at he;obtain⟨rfl,rfl,rfl⟩:=he;exact Cq0 ho h1 h2 h hG h3 hk
  .rename_i e h1 h2;split at hx
   .rename_i hu;split at hx
    .cases hx
    .rename_i hfree;obtain⟨ex,h3,he⟩:=Bp.1 hx;simp only[B3] at he;obtain⟨rfl,rfl,rfl⟩:=he;have hu':P.underlying e=some (.int .u8):=by
      unfold wm at hu;split at hu
      .assumption
      .cases hu
     cases G with
     |some g=>simp at hfree
     |none=>exact Fw2 ho h1 h2 hu' h hG h3 hk
   .cases hx
  .rename_i e h1 h2;split at hx
   .rename_i hu;split at hx
    .rename_i ex ss hb;simp only[Bm,B3] at hx;obtain⟨rfl,rfl,rfl⟩:=hx;obtain⟨sv,h3,h4⟩:=Bl.1 hb;have hu':P.underlying e=some (.int .u8):=by
      unfold wm at hu;split at hu
      .assumption
      .cases hu
     exact Fx1 ho h1 h2 hu' h hG h3 h4 hk
    .cases hx
   .cases hx
  .cases hx
 ·-- makeFunc
  rename_i f first captured ho
  split at hx
  .rename_i hf;obtain⟨cs,h1,he⟩:=Bp.1 hx;simp only[B3] at he;obtain⟨rfl,rfl,rfl⟩:=he;exact gy ho hf h hG h1
  .cases hx
 ·-- fieldAddr
  rename_i t x f ho;split at hx
  .rename_i off ft p h1 h2;split at hx
   .cases hx
   .rename_i hz;split at hx
    .simp only[Bm,B3] at hx;obtain⟨rfl,rfl,rfl⟩:=hx;exact Ly ho h1 hz h hG h2 (.inl ⟨_,_,rfl,rfl⟩)
    .simp only[Bm,B3] at hx;obtain⟨rfl,rfl,rfl⟩:=hx;exact Ly ho h1 hz h hG h2 (.inr (.inl ⟨_,_,rfl,rfl⟩))
    .simp only[Bm,B3] at hx;obtain⟨rfl,rfl,rfl⟩:=hx;exact Ly ho h1 hz h hG h2 (.inr (.inr ⟨_,_,_,rfl,rfl⟩))
    .simp only[Bm,B3] at hx;obtain⟨rfl,rfl,rfl⟩:=hx;exact T4 ho h1 hz h hG h2 hk
    .cases hx
  .cases hx
 ·-- field
  rename_i t x f ho;split at hx
  .rename_i off ft sv h1 h2;obtain⟨h3,rfl⟩:=Mq hx;exact Ck9 ho h1 h hG h2 h3 hk
  .cases hx
 ·-- indexAddr
  rename_i t x i ho;split at hx
  .rename_i e sv ei h1 h2 h3;split at hx
   .split at hx
    .rename_i e' sz y ro hb;split at hx
     .rename_i hsz;simp only[Bm,B3] at hx;obtain⟨rfl,rfl,rfl⟩:=hx;exact W4 ho h1 hsz.1 hsz.2 h hG h2 hb h3 hk
     .cases hx
    .cases hx
   .split at hx
    .rename_i e' sz y ro hb;split at hx
     .rename_i hsz;simp only[Bm,B3] at hx;obtain⟨rfl,rfl,rfl⟩:=hx;exact W3 ho h1 hsz h hG h2 hb h3 hk
     .cases hx
    .cases hx
   .split at hx
    .rename_i y hy;split at hx
     .cases hx
     .rename_i hz;simp only[Bm,B3] at hx;obtain⟨rfl,rfl,rfl⟩:=hx;exact Z0 ho h1 hz h hG h2 hy h3 hk
    .cases hx
  .rename_i n e sv kk k h1 h2 h3;split at hx
   .rename_i hb;split at hx
    .simp only[Bm,B3] at hx;obtain⟨rfl,rfl,rfl⟩:=hx;exact Kr ho h1 h hG h2 h3 hb (.inl ⟨_,_,rfl,rfl⟩)
    .simp only[Bm,B3] at hx;obtain⟨rfl,rfl,rfl⟩:=hx;exact Kr ho h1 h hG h2 h3 hb (.inr ⟨_,_,rfl,rfl⟩)
    .cases hx
   .cases hx
  .cases hx
 ·-- index
  rename_i t x i ho;split at hx
  .rename_i ex ei h1 h2 h3;simp only[Bm,B3] at hx;obtain⟨rfl,rfl,rfl⟩:=hx;exact Zs ho h1 h hG (by simp only[Gx,h2,Bs,SV.asE]) h3 hk
  .rename_i n e sv kk k h1 h2 h3;split at hx
   .rename_i hb;obtain⟨h4,rfl⟩:=Mq hx;exact Zt ho h1 h hG h2 h3 hb h4 hk
   .cases hx
  .cases hx
 ·-- slice
  rename_i t x lo hi mx ho;split at hx
  .rename_i s0 h1;split at h1
   .exact gx ho h hG h1 hx hk
   .cases h1
  .rename_i n y h1;split at h1
   .exact P2 ho h hG h1 (.inl rfl) hx hk
   .cases h1
  .rename_i n h1;split at h1
   .exact P2 ho h hG h1 (.inr ⟨rfl,rfl⟩) hx hk
   .cases h1
  .obtain⟨sv,h1,h2⟩:=Bl.1 hx;exact Ck8 ho h hG h1 h2 hk
 ·-- extract
  rename_i x i ho;split at hx
  .rename_i xs h1;obtain⟨v,h2,he⟩:=Bp.1 hx;simp only[B3] at he;obtain⟨rfl,rfl,rfl⟩:=he;exact v9 ho h hG h1 h2
  .cases hx
 ·-- makeSlice
  rename_i t l c ho;split at hx
  .cases hx
  .split at hx
   .rename_i e n n' h1 h2 h3;split at hx
    .cases hx
    .rename_i hc;simp only[Dl,Nv] at hc;split at hx
     .rename_i zs hz;split at hx
      .rename_i z hz2;split at hx
       .rename_i h0;simp only[Bm,B3] at hx;obtain⟨rfl,rfl,rfl⟩:=hx;exact W2 ho h1 h hG h2 h3 h0 hc hz hk
       .split at hx
        .cases hx
        .rename_i hs;simp only[Dl,Nv] at hs;simp only[Bm,B3] at hx;obtain⟨rfl,rfl,rfl⟩:=hx;exact Zr ho h1 h hG h2 h3 hs hc hz hz2 hk
      .cases hx
     .cases hx
   .cases hx
 ·-- makeMap
  rename_i t r0 ho;split at hx
  .cases hx
  .rename_i hc;simp only[Cq,not_or,Dl,Nv,Bool.not_eq_true,Option.isSome_eq_false_iff,Dw] at hc;have hr0:r0=none:=by cases r0<;>simp_all
   subst hr0;simp only[Bm,B3] at hx;obtain⟨rfl,rfl,rfl⟩:=hx;exact v8 ho h
 ·-- lookup
  rename_i t x k ho;split at hx
  .rename_i e sv ek h1 h2 h3;obtain⟨k',h4,h5⟩:=Zx h1;split at hx
   .rename_i em z h6 h7;simp only[Bm,B3] at hx;obtain⟨rfl,rfl,rfl⟩:=hx;exact At3 ho h4 h5 h hG h2 h6 h3 h7 hk
   .cases hx
  .cases hx
 ·-- mapUpdate
  rename_i t x k y ho;split at hx
  .cases hx
  .split at hx
   .rename_i e s0 ek ey h1 h2 h3 h4;obtain⟨k',h5,h6⟩:=Zx h1;split at hx
    .rename_i em hb;simp only[Bm,B3] at hx;obtain⟨rfl,rfl,rfl⟩:=hx;exact Zp ho h5 h6 h hG h2 hb h3 h4 hk
    .cases hx
   .cases hx
 ·-- call
  rename_i c ho;split at hx
  .rename_i hc;split at hx
   .rename_i x ha;split at hx
    .rename_i t ht;obtain⟨h1,rfl⟩:=Mq hx;obtain⟨sv,h2,h3⟩:=Bl.1 h1;exact Fw6 ho hc ha ht h hG h2 h3 hk
    .cases hx
   .cases hx
  .rename_i hc;split at hx
   .rename_i x ha;split at hx
    .rename_i t ht;split at hx
     .rename_i n h1;obtain⟨h2,rfl⟩:=Mq hx;exact Cm6 ho hc ha ht h hG h1 (.inl ⟨_,rfl⟩) h2 hk
     .rename_i n y h1;obtain⟨h2,rfl⟩:=Mq hx;exact Cm6 ho hc ha ht h hG h1 (.inr ⟨_,_,rfl⟩) h2 hk
     .cases hx
    .cases hx
   .cases hx
  .rename_i hc;split at hx
   .cases hx
   .split at hx
    .rename_i d x t t' ha hty;split at hx
     .rename_i ht;subst ht;split at hx
      .rename_i sd sx h1 h2;exact At4 ho hc ha hty h hG h1 h2 hx hk
      .cases hx
     .split at hx
      .rename_i sd n e h1 h2 h3;split at hx
       .rename_i hu;split at hx
        .rename_i zs hz;split at hx
         .rename_i ze hze;exact wj ho hc ha hty h hG h1 h2 h3 hu hz hze hx hk
         .cases hx
        .cases hx
       .cases hx
      .cases hx
    .cases hx
  .rename_i hc;split at hx
   .rename_i x y ha;split at hx
    .rename_i ex ey h1 h2;simp only[Bm,B3] at hx;obtain⟨rfl,rfl,rfl⟩:=hx;exact Fw4 ho hc ha h hG h1 h2 hk
    .cases hx
   .cases hx
  .rename_i hc;split at hx
   .rename_i x y ha;split at hx
    .rename_i ex ey h1 h2;simp only[Bm,B3] at hx;obtain⟨rfl,rfl,rfl⟩:=hx;exact Fw5 ho hc ha h hG h1 h2 hk
    .cases hx
   .cases hx
  .rename_i hc;split at hx
   .rename_i x t ha hty;obtain⟨sv,h1,h2⟩:=Bl.1 hx;exact Cq1 ho hc ha hty h hG h1 h2 hk
   .cases hx
  ·-- a function that is known
   rename_i f hc;split at hx
   .rename_i T k hbl;exact Fw9 hC ho hc hbl h hG hx hk
   split at hx
   .rename_i e rr hmu;exact Fw3 hC ho hc hmu h hG hx hw hη hn
   split at hx
   .rename_i e hfa;exact Fw7 hC ho hc hfa h hG hx hw hη hn
   split at hx
   .rename_i ar has;split at hx
    .rename_i ws' r1 ε1 hcall;have tgt:∀(r':SV) (ε':Eff),Ev7 P sig σ.m σ.n J o.type s f ((Kx P o.type).all (Bp7 P)) r1 ε1 r' ε'->Eb fn η1 ws'=some η2->Ed P o a w (G1 w0 Oe J σ a.tmps ε' r'):=by
      intro r' ε' hmode hw;have hflat:∀flat es m,ws'=[.call G flat f es m]->flat=(Kx P o.type).all (Bp7 P):=by
       intro flat es m hws;unfold Vr at hcall;split at hcall
       .cases hcall
       .dsimp only at hcall;split at hcall
        .cases hcall
        .split at hcall
         .cases hcall
         .split at hcall
          .cases hcall
          .simp only[Bm,B3] at hcall;rw[<-hcall.1] at hws;simp only[List.cons.injEq,W.call.injEq,and_true] at hws;exact hws.2.1.symm
      refine jd hC (s:=s) ho hc h hG has hcall (fun flat es m hws hm=> ?_) hw hη hn;simp only[W.ev] at hm;have hm2:=Vd (ζ:=ζ) (J:=J) hm hη (fun hh=>by obtain⟨vs,_,hh⟩:=Bl.1 hh;obtain⟨rs,_,_,_,h4⟩:=Iq hh;exact⟨rs,h4⟩) hG
      obtain⟨vs,hvs,hres⟩:=Bl.1 hm2;have hfl:=hflat _ _ _ hws;subst hfl;exact⟨vs,f,[],hvs,by simpa using hres,hmode,fun O1 _ _=>Tgt.static _ f⟩
     split at hx
     .split at hx
      .rename_i e hrk;split at hx
       .rename_i hcond;split at hx
        .simp only[Bm,B3] at hx;obtain⟨rfl,rfl,rfl⟩:=hx;rw[Gd] at hw;obtain⟨η3,hw1,hw2⟩:=Bl.1 hw;have h32:η3=η2:=by simp only[Eb,W.ev,Bl,Bp,Bm] at hw2;obtain⟨_,⟨_,_,rfl⟩,rfl⟩:=hw2;rfl
         subst h32;exact tgt _ _ (.inr (.inr (.inr (.inl ⟨e,hrk,rfl,rfl,hk _ (C6 _ (.head _))⟩)))) hw1
        .simp only[Bm,B3] at hx;obtain⟨rfl,rfl,rfl⟩:=hx;exact tgt _ _ (.inr (.inl ⟨e,hrk,rfl,rfl⟩)) hw
       .cases hx
      .rename_i nl mask hrk;split at hx
       .rename_i hcond;simp only[Bt,Dl] at hcond;simp only[Bm,B3] at hx;obtain⟨rfl,rfl,rfl⟩:=hx;rw[Gd] at hw;obtain⟨η3,hw1,hw2⟩:=Bl.1 hw;have h32:η3=η2:=by
         have hall:∀(l:List W) (ζ0 ζ1:List PV),(∀x∈l,∃y,x= .chk y)->Eb fn ζ0 l=some ζ1->ζ0=ζ1:=by
          intro l
          induction l with
          |nil=>intro ζ0 ζ1 _ h1;simpa [Eb] using h1
          |cons x l ih=>
           intro ζ0 ζ1 h0 h1;obtain⟨y,rfl⟩:=h0 x (.head _);simp only[Eb,W.ev,Bl,Bp] at h1;obtain⟨ζ2,⟨_,_,rfl⟩,h2⟩:=h1;exact ih _ _ (fun x hx=>h0 x (.tail _ hx)) h2
         refine hall _ _ _ (fun x hx=> ?_) hw2;rcases Cg.1 hx with rfl|hx
         .exact⟨_,rfl⟩
         .have:∀(l:List TypeId) (j:Nat),∀x∈N9 P nl σ.n mask j l,∃y,x= .chk y:=by
           intro l
           induction l with
           |nil=>intro j x hx;simp[N9] at hx
           |cons t l ih=>
            intro j x hx;simp only[N9,Dp] at hx;rcases hx with hx|hx
            .split at hx
             .simp at hx;exact⟨_,hx⟩
             .simp at hx
            .exact ih _ x hx
          exact this _ _ x hx
        subst h32;refine tgt _ _ (.inr (.inr (.inr (.inr ⟨nl,mask,hrk,hcond.2,hcond.1.2,rfl,rfl,hk _ (C6 _ (.head _)),fun y hy=>hk y (C6 _ (.tail _ hy))⟩)))) hw1
       .cases hx
      .rename_i e hrk;split at hx
       .rename_i t0 t1 hrt;split at hx
        .rename_i hcond;simp only[Bm,B3] at hx;obtain⟨rfl,rfl,rfl⟩:=hx;exact tgt _ _ (.inr (.inr (.inl ⟨e,hrk,rfl,rfl⟩))) hw
        .cases hx
       .cases hx
      .cases hx
     .simp only[Bm,B3] at hx;obtain⟨rfl,rfl,rfl⟩:=hx;exact tgt _ _ (.inl ⟨rfl,rfl⟩) hw
    .cases hx
   .cases hx
  ·-- a function value
   rename_i t hc;have cloEv:∀{x:E} {flat:Bool} {es:List E} {m:Nat},(W.clo G flat x es m).ev fn η1=some η2->∃vs f caps,E.evs η1 es=some vs∧x.ev J=some (.f f caps)∧results flat m η1 (fn f vs.length (vs++caps))=some η2:=by
    intro x flat es m hm;simp only[W.ev] at hm;have hm2:=Vd (ζ:=ζ) (J:=J) hm hη (fun hh=>by
     obtain⟨q,_,hh⟩:=Bl.1 hh;obtain⟨vs,_,hh⟩:=Bl.1 hh;split at hh
     .obtain⟨rs,_,_,_,h4⟩:=Iq hh;exact⟨rs,h4⟩
     .cases hh) hG
    obtain⟨q,hq,hh⟩:=Bl.1 hm2;obtain⟨vs,hvs,hh⟩:=Bl.1 hh;cases q with
    |f f caps=>
     obtain⟨rs,_,_,_,h4⟩:=Iq hh;refine⟨vs,f,caps,hvs,?_,hh⟩;rw[hη,h4,Ck];exact E.ev_mono _ _ _ _ hq
    |_=>simp at hh
   split at hx
   .rename_i x ar h1 has;have hr:=Fw (ds:=a.defers) (C:=⟨J,Cr w O,β,hv,σ.m⟩) hG rfl h1 h.tmps;simp only[Cj] at hr;obtain⟨p,hp,hpr⟩:=hr;refine jd hC (s:=s) ho hc h hG has hx (fun flat es m _ hm=> ?_) hw hη hn;obtain⟨vs,f,caps,k1,k2,k3⟩:=cloEv hm;have hp':x.ev J=some p:=hp;rw[k2] at hp';injection hp' with hp';subst hp';exact⟨vs,f,caps,k1,k3,.inl ⟨rfl,rfl⟩,fun O1 hM _=>Tgt.of_rep (hpr.mono hM)⟩
   .rename_i f0 cs ar h1 has;split at hx
    .rename_i x ss hto;have hr:=Fw (ds:=a.defers) (C:=⟨J,Cr w O,β,hv,σ.m⟩) hG rfl h1 h.tmps;refine jd hC (s:=s) ho hc h hG has hx (fun flat es m _ hm=> ?_) hw hη hn;obtain⟨vs,f,caps,k1,k2,k3⟩:=cloEv hm;refine⟨vs,f,caps,k1,k3,.inl ⟨rfl,rfl⟩,fun O1 hM hop=> ?_⟩;obtain⟨p,hp,hpr⟩:=Ry h hM 20 _ _ x ss hto hr hop;rw[k2] at hp;injection hp with hp;subst hp;exact Tgt.of_rep hpr
    .cases hx
   .cases hx
  .cases hx
 .cases hx
end
def Blk.same_eq:∀{x y:Blk},x.same y=true->x=y:=by
 intro x y h;cases x<;>cases y<;>simp only[Blk.same,Bt,beq_iff_eq,B5] at h
 .rw[h.1,SV.sames_eq _ _ h.2]
 .rw[h.1.1.1,h.1.1.2,of_decide_eq_true h.1.2,E.same_eq _ _ h.2]
 .rw[h.1,E.same_eq _ _ h.2]
def mz:∀{m m':List (Nat×Blk)},f7 m m'=true->m=m'
 |[],[],_=>rfl
 |[],_::_,h=>by simp[f7] at h
 |_::_,[],h=>by simp[f7] at h
 |(s,b)::m,(s',b')::m',h=>by simp only[f7,Bt,beq_iff_eq] at h;rw[h.1.1,Blk.same_eq h.1.2,mz h.2]
def W.ev_len {fn:Fns} {J η':List PV}:∀{x:W},x.ev fn J=some η'->η'.length=J.length+x.cnt:=by
 have res:∀{flat:Bool} {m:Nat} {r:Option (List PV)},results flat m J r=some η'->η'.length=J.length+m:=by intro flat m r h;obtain⟨rs,_,h2,_,rfl⟩:=Iq h;rw[Br,h2]
 have gd:∀{m:Nat} {g:Option E} {r:Option (List PV)},F1 J m g r=some η'->(r=some η'->η'.length=J.length+m)->η'.length=J.length+m:=by
  intro m g r h hr;unfold F1 at h;split at h
  .exact hr h
  .simp only[Bl] at h;obtain⟨v,_,h⟩:=h;split at h
   .exact hr h
   .injection h with h;rw[<-h];simp
   .cases h
 intro x h;cases x with
 |chk x=>
  simp only[W.ev,Bp] at h;obtain⟨_,_,rfl⟩:=h;simp[W.cnt]
 |call g flat f ar m=>
  simp only[W.ev] at h;refine gd h fun h=> ?_;simp only[Bl] at h;obtain⟨vs,_,h⟩:=h;exact res h
 |clo g flat c ar m=>
  simp only[W.ev] at h;refine gd h fun h=> ?_;simp only[Bl] at h;obtain⟨q,_,vs,_,h⟩:=h;split at h
  .exact res h
  .cases h
 |mcall f ar=>
  simp only[W.ev,Bl] at h;obtain⟨vs,_,h⟩:=h;exact res h
def Vm {fn:Fns}:∀{ws:List W} {J η':List PV},Eb fn J ws=some η'->η'.length=J.length+wsN ws
 |[],J,η',h=>by simp only[Eb,Bm] at h;simp[h,wsN]
 |x::r,J,η',h=>by simp only[Eb,Bl] at h;obtain⟨η1,h1,h2⟩:=h;rw[Vm h2,W.ev_len h1];simp only[wsN];omega
def cq {J:List PV}:∀{g:E} {p:PV},g.isB=true->g.ev J=some p->∃b,p= .b b
 | .bin op x y,p,h,he=>by
   simp only[E.ev,Bl] at he;obtain⟨a,_,b,_,he⟩:=he;cases op<;>simp only[E.isB,B5] at h<;>(
    cases a<;>cases b<;>simp only[X.bin,Gc,Vt] at he<;>first
     |(cases he;done)
     |(split at he<;>first|(injection he with he;exact⟨_,he.symm⟩)|(cases he;done))
     |(injection he with he;exact⟨_,he.symm⟩))
 | .un op x,p,h,he=>by
   simp only[E.ev,Bl] at he;obtain⟨a,_,he⟩:=he;cases op<;>simp only[E.isB,B5] at h;cases a<;>simp only[X.un] at he<;>first
    |(cases he;done)
    |(injection he with he;exact⟨_,he.symm⟩)
 | .eqs n g ts x y,p,h,he=>by
   simp only[E.ev,Bl] at he;obtain⟨a,_,b,_,he⟩:=he;unfold Ln at he;split at he
   .obtain⟨r,_,he⟩:=Bp.1 he;exact⟨_,he.symm⟩
   .split at he
    .obtain⟨r,_,he⟩:=Bp.1 he;exact⟨_,he.symm⟩
    .cases he
   .cases he
 | .c (.b b),p,h,he=>by simp only[E.ev,Bm] at he;exact⟨b,he.symm⟩
 | .ite g x y,p,h,he=>by
   simp only[E.isB,Bt] at h;simp only[E.ev,Bl] at he;obtain⟨a,_,he⟩:=he;split at he
   .exact cq h.1 he
   .exact cq h.2 he
   .cases he
 | .c .u,p,h,_| .c (.i ..),p,h,_| .c (.s ..),p,h,_| .c (.a ..),p,h,_| .c (.l ..),p,h,_| .c (.f ..),p,h,_| .c (.m ..),p,h,_
 | .v ..,p,h,_| .proj ..,p,h,_| .sub ..,p,h,_| .agg ..,p,h,_| .fit ..,p,h,_| .scal ..,p,h,_| .idx ..,p,h,_| .len ..,p,h,_| .slen ..,p,h,_| .sidx ..,p,h,_| .ssl ..,p,h,_| .lsl ..,p,h,_| .app ..,p,h,_
 | .lit ..,p,h,_| .rep ..,p,h,_| .set ..,p,h,_| .conv ..,p,h,_| .b2s ..,p,h,_| .s2b ..,p,h,_| .clo ..,p,h,_| .mn ..,p,h,_| .mx ..,p,h,_| .mget ..,p,h,_| .mset ..,p,h,_| .der ..,p,h,_| .mkp ..,p,h,_| .flt ..,p,h,_| .c (.pt ..),p,h,_=>by simp[E.isB] at h
section
variable {P:Program} {sig:Nat->Option Nat} {fn:Fns} {w0:Fr} {Oe:Nat->Option Nat} {J:List PV} {σ:St} {a:Act} {tm:Array Value} {w:World} {β:Nat->Nat} {hv:Nat->Value} {O:Nat->Option Nat} {G:Option E} {o:Oper} {ws:List W} {ops:Array Oper}
def Bz3 {j:Nat} {want:Bool} {g:E} {tm:Array Value} {C:Cx} (hg:P8 σ ops j want=some g) (h:Cb C σ.t tm.toList) {b:Bool} (hb:g.ev C.J=some (.b b)):(yielded ops tm j==some want)=b:=by
 unfold P8 at hg;split at hg
 .rename_i g0 hd;injection hg with hg;subst hg;obtain⟨t,ht,hs⟩:=Bl.1 hd;obtain⟨v,hv1,hv2⟩:=h.get t _ hs;simp only[Cj] at hv2;obtain⟨p,hp,hpr⟩:=hv2;have hy:((ops[j]?).bind (·.dst)).bind (tm[·]?)=some v:=by rw[ht];simpa using hv1
  unfold yielded;rw[hy];cases want with
  |true=>
   simp only[if_true] at hb;rw[hb] at hp;injection hp with hp;subst hp;have:=hpr.bool;subst this;cases b<;>rfl
  |false=>
   simp only[B5,if_false,E.ev,hp,Bs] at hb;cases p<;>simp[X.un] at hb;have:=hpr.bool;subst this;subst hb;rename_i x;cases x<;>first|rfl|(cases b<;>rfl)
 .rename_i g0 gg hd;injection hg with hg;subst hg;obtain⟨t,ht,hs⟩:=Bl.1 hd;obtain⟨v,hv1,hv2⟩:=h.get t _ hs;simp only[Cj] at hv2;obtain⟨c,hc,h1,h2⟩:=hv2;have hy:((ops[j]?).bind (·.dst)).bind (tm[·]?)=some v:=by rw[ht];simpa using hv1
  unfold yielded;rw[hy];cases c with
  |false=>
   have:=h2 rfl;subst this;simp only[E.ev,hc,Bs,Bm,PV.b.injEq] at hb;subst hb;cases want<;>rfl
  |true=>
   obtain⟨p,hp,hpr⟩:=h1 rfl;simp only[E.ev,hc,Bs] at hb;cases want with
   |true=>
    simp only[if_true] at hb;rw[hb] at hp;injection hp with hp;subst hp;have:=hpr.bool;subst this;cases b<;>rfl
   |false=>
    simp only[B5,if_false,E.ev,hp,Bs] at hb;cases p<;>simp[X.un] at hb;have:=hpr.bool;subst this;subst hb;rename_i x;cases x<;>first|rfl|(cases b<;>rfl)
 .cases hg
def ib {j:Nat} {want:Bool} {g:E} {tm:Array Value} {C:Cx} (hg:P8 σ ops j want=some g) (h:Cb C σ.t tm.toList) (hB:g.isB=true):∃b,g.ev C.J=some (.b b):=by
 have not_ok:∀(x:E) p,x.isB=true->x.ev C.J=some p->∃b,(E.un .not x).ev C.J=some (.b b):=by intro x p hx hp;obtain⟨b,rfl⟩:=cq hx hp;exact⟨!b,by simp only[E.ev,hp,Bs,X.un]⟩
 unfold P8 at hg;split at hg
 .rename_i g0 hd;injection hg with hg;subst hg;obtain⟨t,ht,hs⟩:=Bl.1 hd;obtain⟨v,hv1,hv2⟩:=h.get t _ hs;simp only[Cj] at hv2;obtain⟨p,hp,hpr⟩:=hv2;cases want with
  |true=>
   simp only[if_true] at hB ⊢;obtain⟨b,rfl⟩:=cq hB hp;exact⟨b,hp⟩
  |false=>
   simp only[B5,if_false,E.isB] at hB ⊢;exact not_ok _ p hB hp
 .rename_i g0 gg hd;injection hg with hg;subst hg;obtain⟨t,ht,hs⟩:=Bl.1 hd;obtain⟨v,hv1,hv2⟩:=h.get t _ hs;simp only[Cj] at hv2;obtain⟨c,hc,h1,h2⟩:=hv2;simp only[E.isB,Ot] at hB;cases c with
  |false=>exact⟨false,by simp only[E.ev,hc,Bs]⟩
  |true=>
   obtain⟨p,hp,hpr⟩:=h1 rfl;cases want with
   |true=>
    simp only[if_true] at hB ⊢;obtain⟨b,rfl⟩:=cq hB hp;exact⟨b,by simp only[E.ev,hc,hp,Bs]⟩
   |false=>
    simp only[B5,if_false,E.isB] at hB ⊢;obtain⟨b,hb⟩:=not_ok _ p hB hp;exact⟨b,by rw[E.ev,hc];exact hb⟩
 .cases hg
def Rk {own:List Nat} {s:Nat} {sv:SV} {ε:Eff} (hx:Ny P sig own ops s o σ=some (ws,sv,ε)) {η1 η2:List PV} (hw:Eb fn η1 ws=some η2) (hn:η1.length=σ.n):η2.length=ε.n:=by
 have:=Vm hw;unfold Ny at hx;split at hx
 .split at hx
  .split at hx
   .rename_i hc;simp only[Bm,B3] at hx;obtain⟨rfl,rfl,rfl⟩:=hx;omega
   .cases hx
  .cases hx
 .split at hx
  .cases hx
  .split at hx
   .rename_i g _;split at hx
    .rename_i ws' sv' ε' _;split at hx
     .rename_i hc;simp only[Bm,B3] at hx;obtain⟨rfl,rfl,rfl⟩:=hx;have:wsN ((if g.isB then [] else [.chk (.ite g (.c .u) (.c .u))])++ws')=wsN ws':=by split<;>simp[wsN,W.cnt]
      omega
     .cases hx
    .cases hx
   .cases hx
def lg (hC:Contract P sig fn) {own:List Nat} {s:Nat} {sv:SV} {ε:Eff} (h:Rel w0 Oe J σ a.tmps w β hv O) (hx:Ny P sig own ops s o σ=some (ws,sv,ε)) {η1 η2 ζ:List PV} (hw:Eb fn η1 ws=some η2) (hη:J=η2++ζ) (hn:η1.length=σ.n):
  (Region.wanted o (yielded ops a.tmps)=true∧Ed P o a w (G1 w0 Oe J σ a.tmps ε sv))∨(Region.wanted o (yielded ops a.tmps)=false∧G1 w0 Oe J σ a.tmps ε sv undef w):=by
 unfold Ny at hx;split at hx
 .rename_i hg;split at hx
  .rename_i ws' sv' ε' hx';split at hx
   .simp only[Bm,B3] at hx;obtain⟨rfl,rfl,rfl⟩:=hx;exact .inl ⟨by simp only[Region.wanted,hg],Ch0 hC h (fun g hg=>by cases hg) hx' hw hη hn⟩
   .cases hx
  .cases hx
 .rename_i j want hg;split at hx
  .cases hx
  .split at hx
   .rename_i g hgE;split at hx
    .rename_i ws' sv' ε' hx';split at hx
     .rename_i hc;obtain⟨_,hm,hkl⟩:=hc;simp only[Bm,B3] at hx;obtain⟨rfl,rfl,rfl⟩:=hx;have hm':=mz hm;have hkl':ε'.kl=none:=by simpa using hkl
      rw[Gd] at hw;obtain⟨η1',hw1,hw2⟩:=Bl.1 hw;have hsame:η1'=η1:=by
       split at hw1
       .simp only[Eb,Bm] at hw1;exact hw1.symm
       .simp only[Eb,W.ev,Bl,Bp] at hw1;obtain⟨_,⟨_,_,rfl⟩,h2⟩:=hw1;injection h2 with h2;exact h2.symm
      subst hsame;obtain⟨ζ1,hζ1⟩:=I9 hw2;have hgb:∃b,g.ev J=some (.b b):=by
       by_cases hB:g.isB=true
       .exact ib (C:=⟨J,Cr w O,β,hv,σ.m⟩) hgE h.tmps hB
       .rw[if_neg hB] at hw1;simp only[Eb,W.ev,Bl,Bp] at hw1;obtain⟨_,⟨q,hq,_⟩,_⟩:=hw1;simp only[E.ev,Bl] at hq;obtain⟨p,hp,hq⟩:=hq;split at hq
        .exact⟨true,by rw[hη,hζ1,Ck];exact E.ev_mono _ _ _ _ hp⟩
        .exact⟨false,by rw[hη,hζ1,Ck];exact E.ev_mono _ _ _ _ hp⟩
        .cases hq
      obtain⟨b,hb⟩:=hgb;have hwant:Region.wanted o (yielded ops a.tmps)=b:=by simp only[Region.wanted,hg];exact Bz3 (C:=⟨J,Cr w O,β,hv,σ.m⟩) hgE h.tmps hb
      cases b with
      |true=>
       refine .inl ⟨hwant,(Ch0 hC h (fun g' hg'=>by injection hg' with hg';subst hg';exact hb) hx' hw2 hη hn).mono fun v w' hp=> ?_⟩;obtain⟨β',hv',O',r1,r2⟩:=hp;refine⟨β',hv',O',r1,?_⟩;simp only[Cj];exact⟨true,hb,(fun _=>r2),fun h=>by cases h⟩
      |false=>
       refine .inr ⟨hwant,β,hv,O,?_,?_⟩
       .have:σ.eff ε'=σ.eff ⟨σ.m,ε'.n,none⟩:=by unfold St.eff;rw[hm',hkl']
        rw[this];exact h.setN _
       .simp only[Cj];exact⟨false,hb,(fun h=>by cases h),fun _=>trivial⟩
     .cases hx
    .cases hx
   .cases hx
def U1 (a:Act) (d:Option Tmp) (v:Value):(a.put d v).defers=a.defers:=by cases d<;>rfl
def Yr {own:List Nat} {s:Nat} {sv:SV} {ε:Eff} (hx:Ny P sig own ops s o σ=some (ws,sv,ε)):(o.dst==some 0 && Ew1 sv)=false:=by
 unfold Ny at hx;split at hx
 .split at hx
  .split at hx
   .rename_i hc;simp only[Bm,B3] at hx;obtain⟨rfl,rfl,rfl⟩:=hx;exact hc.2
   .cases hx
  .cases hx
 .split at hx
  .cases hx
  .split at hx
   .split at hx
    .split at hx
     .simp only[Bm,B3] at hx;obtain⟨rfl,rfl,rfl⟩:=hx;simp[Ew1]
     .cases hx
    .cases hx
   .cases hx
def G1.rels {ε:Eff} {sv:SV} {v:Value} {w':World} {d:Option Tmp} (h:G1 w0 Oe J σ a.tmps ε sv v w') (hd:(d==some 0 && Ew1 sv)=false):Yq w0 Oe J ((σ.eff ε).set d sv) (a.put d v).tmps w':=by obtain⟨β,hv,O,h1,h2⟩:=h;exact⟨β,hv,O,h1.setT d (ds:=a.defers) h2 hd⟩
def Zb {Q:Exit->Act->World->Prop} {K:Act->World->Prop} {i:Nat} {R:Value->World->Prop} (hi:ops[i]? =some o)
  (h:(Region.wanted o (yielded ops a.tmps)=true∧Ed P o a w R)∨(Region.wanted o (yielded ops a.tmps)=false∧R undef w)) (hK:∀v w',R v w'->K (a.put o.dst v) w'):wpOp P ops Q i K a w:=by
 unfold wpOp;simp only[hi];rcases h with⟨h1,h2⟩|⟨h1,h2⟩
 .rw[if_pos h1];exact .inl (h2.wp hK)
 .rw[h1];simp only[B5,if_false];exact hK _ _ h2
def lc {own:List Nat} {rid:Nat}:∀(l:List Oper) (i:Nat) (σ:St) (η1 η2:List PV) (ws:List W) (σ':St),Bn2 P sig own ops rid l i σ=some (ws,σ')->Eb fn η1 ws=some η2->η1.length=σ.n->η2.length=σ'.n
 |[],i,σ,η1,η2,ws,σ',hx,hw,hn=>by simp only[Bn2,Bm,B3] at hx;obtain⟨rfl,rfl⟩:=hx;simp only[Eb,Bm] at hw;subst hw;exact hn
 |o::l,i,σ,η1,η2,ws,σ',hx,hw,hn=>by
  simp only[Bn2] at hx;split at hx
  .rename_i ws1 sv ε hc;obtain⟨⟨ws2,σ2⟩,hrec,he⟩:=Bp.1 hx;simp only[B3] at he;obtain⟨rfl,rfl⟩:=he;rw[Gd] at hw;obtain⟨η3,hw1,hw2⟩:=Bl.1 hw;have hset:((σ.eff ε).set o.dst sv).n=ε.n:=by cases o.dst<;>rfl
   exact lc l _ _ _ _ _ _ hrec hw2 (by rw[Rk hc hw1 hn,hset])
  .cases hx
def zj (hC:Contract P sig fn) {own:List Nat} {rid:Nat} {Q:Exit->Act->World->Prop}:∀(l:List Oper) (i:Nat) (σ:St) (a:Act) (w:World) (η1 η2 ζ:List PV) (ws:List W) (σ':St),(∀k o,l[k]? =some o->ops[i+k]? =some o)->Yq w0 Oe J σ a.tmps w->
  Bn2 P sig own ops rid l i σ=some (ws,σ')->Eb fn η1 ws=some η2->J=η2++ζ->η1.length=σ.n->(∀a' w',a'.defers=a.defers->Yq w0 Oe J σ' a'.tmps w'->Q .normal a' w')->
  wpOps P ops Q (List.range' i l.length) a w
 |[],i,σ,a,w,η1,η2,ζ,ws,σ',_,h,hx,hw,hη,hn,hQ=>by simp only[Bn2,Bm,B3] at hx;obtain⟨rfl,rfl⟩:=hx;simp only[Eb,Bm] at hw;subst hw;exact hQ a w rfl h
 |o::l,i,σ,a,w,η1,η2,ζ,ws,σ',hops,h,hx,hw,hη,hn,hQ=>by
  simp only[Bn2] at hx;split at hx
  .rename_i ws1 sv ε hc;obtain⟨⟨ws2,σ2⟩,hrec,he⟩:=Bp.1 hx;simp only[B3] at he;obtain⟨rfl,rfl⟩:=he;rw[Gd] at hw;obtain⟨η3,hw1,hw2⟩:=Bl.1 hw;obtain⟨ζ2,hζ2⟩:=I9 hw2;obtain⟨β,hv,O,hrel⟩:=h;have hlen:=Rk hc hw1 hn;have hstep:=lg hC hrel hc hw1 (ζ:=ζ2++ζ) (by rw[hη,hζ2,Ck]) hn;have hi:ops[i]? =some o:=by simpa using hops 0 o rfl
   have hset:((σ.eff ε).set o.dst sv).n=ε.n:=by cases o.dst<;>rfl
   have ih:∀v w',G1 w0 Oe J σ a.tmps ε sv v w'->wpOps P ops Q (List.range' (i+1) l.length) (a.put o.dst v) w':=fun v w' hp=>
    zj hC l (i+1) _ _ _ η3 η2 ζ ws2 σ2 (fun k o' hk=>by have:=hops (k+1) o' (by simpa using hk);rwa[show i+(k+1)=i+1+k by omega] at this) (hp.rels (Yr hc)) hrec hw2 hη (by rw[hlen,hset]) (fun a' w'' hd hr=>hQ a' w'' (by rw[hd,U1]) hr)
   rw[Cz,List.range'_succ,wpOps_cons];exact Zb hi hstep ih
  .cases hx
end
section
variable {P:Program} {sig:Nat->Option Nat} {t t':List SV} {m:List (Nat×Blk)} {n:Nat} {G:Option E} {o:Oper}
def Dk4 {l:List Operand} (h:∀x,x∈l->∀G ty,opd P ⟨t',m,n⟩ G ty x=opd P ⟨t,m,n⟩ G ty x):∀ts:List TypeId,args P ⟨t',m,n⟩ G l ts=args P ⟨t,m,n⟩ G l ts:=by
 induction l with
 |nil=>intro ts;rfl
 |cons x l ih=>
  intro ts;simp only[args];rw[h x (.head _),ih (fun y hy=>h y (.tail _ hy))]
def Cm4 {tf:Nat->TypeId} {l:List (Nat×Operand)} (h:∀x,x∈l.map (·.2)->∀G ty,opd P ⟨t',m,n⟩ G ty x=opd P ⟨t,m,n⟩ G ty x):At1 P ⟨t',m,n⟩ G tf l=At1 P ⟨t,m,n⟩ G tf l:=by
 induction l with
 |nil=>rfl
 |cons p l ih=>
  obtain⟨i,x⟩:=p;simp only[At1];rw[h x (by simp),ih (fun y hy=>h y (by simp at hy ⊢;exact .inr hy))]
def Bf7 {x:Option Operand} {d:E} (h:∀y,x=some y->∀G ty,opd P ⟨t',m,n⟩ G ty y=opd P ⟨t,m,n⟩ G ty y):Jt P ⟨t',m,n⟩ G x d=Jt P ⟨t,m,n⟩ G x d:=by
 cases x with
 |none=>rfl
 |some y=>simp only[Jt,Gx];rw[h y rfl]
def Ac6 {ty:TypeId} {x:SV} {lo hi mx:Option Operand} (h1:∀y,lo=some y->∀G ty,opd P ⟨t',m,n⟩ G ty y=opd P ⟨t,m,n⟩ G ty y) (h2:∀y,hi=some y->∀G ty,opd P ⟨t',m,n⟩ G ty y=opd P ⟨t,m,n⟩ G ty y) (h3:∀y,mx=some y->∀G ty,opd P ⟨t',m,n⟩ G ty y=opd P ⟨t,m,n⟩ G ty y):
  Lq P ⟨t',m,n⟩ G ty x lo hi mx=Lq P ⟨t,m,n⟩ G ty x lo hi mx:=by
 have e3:∀y,mx=some y->Gx P ⟨t',m,n⟩ G 0 y=Gx P ⟨t,m,n⟩ G 0 y:=fun y hy=>by simp only[Gx];rw[h3 y hy]
 unfold Lq;simp only[Bf7 h1,Bf7 h2];cases mx with
 |none=>rfl
 |some y=>simp only[e3 y rfl];rfl
def Xb {ty:TypeId} {k:Nat} {y:E} {lo hi mx:Option Operand} (h2:∀y,hi=some y->∀G ty,opd P ⟨t',m,n⟩ G ty y=opd P ⟨t,m,n⟩ G ty y):F2 P ⟨t',m,n⟩ G ty k y lo hi mx=F2 P ⟨t,m,n⟩ G ty k y lo hi mx:=by
 cases hi with
 |none=>unfold F2;cases lo<;>cases mx<;>cases H1 P ty<;>rfl
 |some z=>
  have e:Gx P ⟨t',m,n⟩ G 0 z=Gx P ⟨t,m,n⟩ G 0 z:=by simp only[Gx];rw[h2 z rfl]
  unfold F2;cases lo<;>cases mx<;>cases H1 P ty<;>simp only[e]<;>rfl
def Ex1 {own:List Nat} {s:Nat} (h:∀x,x∈o.op.operands->∀G ty,opd P ⟨t',m,n⟩ G ty x=opd P ⟨t,m,n⟩ G ty x):xop P sig own ⟨t',m,n⟩ G s o=xop P sig own ⟨t,m,n⟩ G s o:=by
 have hE:∀x,x∈o.op.operands->∀G ty,Gx P ⟨t',m,n⟩ G ty x=Gx P ⟨t,m,n⟩ G ty x:=fun x hx G ty=>by simp only[Gx];rw[h x hx]
 obtain⟨dst,op,type,pos,after,guard⟩:=o;simp only at h hE;cases op<;>simp only[Op.operands] at h hE<;>unfold xop<;>simp only
 case move x=>rw[h x (by simp)];rfl
 case assign x=>rw[h x (by simp)];rfl
 case pick c x y=>rw[hE c (by simp)];simp only[hE x (by simp),hE y (by simp)];try rfl
 case box ty x=>rw[h x (by simp)];try rfl
 case build ty ps=>rw[Cm4 (fun x hx=>h x (by simpa using hx))];try rfl
 case buildSlice ty k ps=>rw[Cm4 (fun x hx=>h x (by simpa using hx))];try rfl
 case load ty x=>rw[h x (by simp)];rfl
 case store ty x y=>rw[h x (by simp),h y (by simp)];rfl
 case nilCheck x=>rw[h x (by simp)];rfl
 case binOp op xt x y yt=>rw[hE x (by simp),hE y (by simp),h x (by simp)];rfl
 case unOp op ty x=>rw[hE x (by simp)];rfl
 case convert src dst x=>rw[hE x (by simp),h x (by simp)];rfl
 case makeFunc f first captured=>
  cases f<;>simp only;rw[Dk4 (fun x hx=>h x (by simp at hx ⊢;exact .inr hx))];rfl
 case makeSlice ty x y=>rw[hE x (by simp),hE y (by simp)];try rfl
 case slice ty x lo hi mx=>
  have el:lo.map (Gx P ⟨t',m,n⟩ G 0)=lo.map (Gx P ⟨t,m,n⟩ G 0):=by
   cases lo with
   |none=>rfl
   |some y=>simp only[Cc];rw[hE y (by simp)]
  have eh:hi.map (Gx P ⟨t',m,n⟩ G 0)=hi.map (Gx P ⟨t,m,n⟩ G 0):=by
   cases hi with
   |none=>rfl
   |some y=>simp only[Cc];rw[hE y (by simp)]
  have e2:∀sv,Lq P ⟨t',m,n⟩ G ty sv lo hi mx=Lq P ⟨t,m,n⟩ G ty sv lo hi mx:=fun sv=>Ac6 (fun y hy=>h y (by subst hy;simp)) (fun y hy=>h y (by subst hy;simp)) (fun y hy=>h y (by subst hy;simp));rw[h x (by simp)];have e3:∀k y,F2 P ⟨t',m,n⟩ G ty k y lo hi mx=F2 P ⟨t,m,n⟩ G ty k y lo hi mx:=fun k y=>Xb (fun y hy=>h y (by subst hy;simp));simp only[el,eh,e2,e3];rfl
 case fieldAddr ty x f=>rw[h x (by simp)];rfl
 case field ty x f=>rw[h x (by simp)];rfl
 case indexAddr ty x i=>rw[h x (by simp),hE i (by simp)];rfl
 case index ty x i=>rw[h x (by simp),hE i (by simp)];rfl
 case extract x i=>rw[h x (by simp)];rfl
 case lookup ty x k ok=>
  cases ok<;>simp only;rw[h x (by simp),hE k (by simp)];try rfl
 case mapUpdate ty x k v=>rw[h x (by simp),hE k (by simp),hE v (by simp)];try rfl
 case call c=>
  have hargs:∀x,x∈c.args.toList->∀G ty,opd P ⟨t',m,n⟩ G ty x=opd P ⟨t,m,n⟩ G ty x:=fun x hx=>h x (by unfold Call.operands;cases c.callee<;>simp at hx ⊢<;>simp[hx]);have hargsE:∀x,x∈c.args.toList->∀G ty,Gx P ⟨t',m,n⟩ G ty x=Gx P ⟨t,m,n⟩ G ty x:=fun x hx G ty=>by simp only[Gx];rw[hargs x hx]
  have hA:=Dk4 (P:=P) (G:=G) hargs c.argTypes.toList;split
  .split
   .rename_i x hx;split
    .rw[hargs x (by rw[hx];simp)];rfl
    .rfl
   .rfl
  .split
   .rename_i x hx;split
    .rw[hargs x (by rw[hx];simp)];rfl
    .rfl
   .rfl
  .split
   .rfl
   .split
    .rename_i d x _ _ hx _;rw[hargs d (by rw[hx];simp),hargs x (by rw[hx];simp),hargsE x (by rw[hx];simp)];rfl
    .rfl
  .split
   .rename_i x y hx;rw[hargsE x (by rw[hx];simp),hargsE y (by rw[hx];simp)];rfl
   .rfl
  .split
   .rename_i x y hx;rw[hargsE x (by rw[hx];simp),hargsE y (by rw[hx];simp)];rfl
   .rfl
  .split
   .rename_i x ty hx _;rw[hargs x (by rw[hx];simp)];rfl
   .rfl
  .rw[hA];rfl
  .rename_i tm hc;rw[hA,h (.tmp tm) (by unfold Call.operands;rw[hc];simp)];rfl
  .rfl
 all_goals rfl
def Cz2 {ops:Array Oper} {j:Nat} {want:Bool} (h:∀d,(ops[j]?).bind (·.dst)=some d->t'[d]? =t[d]?):P8 ⟨t',m,n⟩ ops j want=P8 ⟨t,m,n⟩ ops j want:=by
 unfold P8;cases hd:(ops[j]?).bind (·.dst) with
 |none=>rfl
 |some d=>simp only[Bs];rw[h d hd]
def Dk8 {own:List Nat} {s:Nat} {ops:Array Oper} (h:∀d,d∈o.looksAt ops->t'[d]? =t[d]?):Ny P sig own ops s o ⟨t',m,n⟩=Ny P sig own ops s o ⟨t,m,n⟩:=by
 have hop:∀x,x∈o.op.operands->∀G ty,opd P ⟨t',m,n⟩ G ty x=opd P ⟨t,m,n⟩ G ty x:=by
  intro x hx G ty;cases x with
  |tmp d=>
   simp only[opd];rw[h d (Fq _ (List.mem_filterMap.2 ⟨.tmp d,by simpa using hx,rfl⟩))]
  |_=>rfl
 unfold Ny;split
 .rw[Ex1 hop]
 .rename_i j want hg;rw[Cz2 (t:=t) (fun d hd=>h d (C6 _ (by rw[hg];simp[hd])))];split
  .rfl
  .split
   .rw[Ex1 hop]
   .rfl
end
structure Vx where
 kl:Option Nat
 v:Option (Nat×SV)
def N6 (k:Option Nat) (t:List SV):List SV:=match k with|some s=>SV.kills s t|none=>t
def H6 (v:Vx) (t:List SV):List SV:=match v.v with|some (d,x)=>(N6 v.kl t).set d x|none=>N6 v.kl t
def tA (V:Nat->Vx) (L:Nat->Bool) (t0:List SV):Nat->List SV
 |0=>t0
 |k+1=>if L k then H6 (V k) (tA V L t0 k) else tA V L t0 k
def s9:Nat->Bool:=fun _=>true
section
variable {V:Nat->Vx} {M:Nat->Option (List (Nat×Blk))} {L L':Nat->Bool} {t0:List SV} {m0:List (Nat×Blk)} {n j:Nat}
def bn (s:Nat):∀t:List SV,(SV.kills s t).length=t.length
 |[]=>rfl
 |x::t=>by simp[SV.kills,bn s t]
def br (s:Nat):∀(t:List SV) (d:Nat),(SV.kills s t)[d]? =t[d]?.map (SV.kill s)
 |[],d=>by simp[SV.kills]
 |x::t,0=>by simp[SV.kills]
 |x::t,d+1=>by simpa [SV.kills] using br s t d
def N5 (k:Option Nat) (t:List SV):(N6 k t).length=t.length:=by
 cases k with
 |none=>rfl
 |some s=>exact bn s t
def b8 {k:Option Nat} {t u:List SV} {d:Nat} (h:t[d]? =u[d]?):(N6 k t)[d]? =(N6 k u)[d]? :=by
 cases k with
 |none=>exact h
 |some s=>simp only[N6,br,h]
def yg (v:Vx) (t:List SV):(H6 v t).length=t.length:=by
 unfold H6;split
 .rw[H9,N5]
 .rw[N5]
def db {v:Vx} {d:Nat} (hk:v.kl=none) (h:∀x,v.v≠some (d,x)) (t:List SV):(H6 v t)[d]? =t[d]? :=by
 obtain⟨k,v⟩:=v;simp only at hk h;subst hk;cases v with
 |none=>rfl
 |some p=>
  obtain⟨e,x⟩:=p;have:e≠d:=fun he=>h x (by rw[he]);simp only[H6,N6];rw[Ev,if_neg this]
def yh (v:Vx) {t u:List SV} {d:Nat} (hl:t.length=u.length) (h:t[d]? =u[d]?):(H6 v t)[d]? =(H6 v u)[d]? :=by
 unfold H6;split
 .rename_i e x _;rw[Ev,Ev,N5,N5,hl];split
  .rfl
  .exact b8 h
 .exact b8 h
def l7 (V:Nat->Vx) (L:Nat->Bool) (t0:List SV):∀k,(tA V L t0 k).length=t0.length
 |0=>rfl
 |k+1=>by
  simp only[tA];split
  .rw[yg];exact l7 V L t0 k
  .exact l7 V L t0 k
def Dz3 {d:Nat} (hj:j<=n) (h:∀i x,i<n->(V i).v=some (d,x)->(L i=true↔i<j)) (hk:∀i,i<n->(V i).kl≠none->(L i=true↔i<j)):(tA V L t0 n)[d]? =(tA V s9 t0 j)[d]? :=by
 have h1:∀k,k<=j->(tA V L t0 k)[d]? =(tA V s9 t0 k)[d]? :=by
  intro k
  induction k with
  |zero=>intro _;rfl
  |succ k ih=>
   intro hkj;have ih:=ih (by omega);simp only[tA,s9,if_true];have hlen:(tA V L t0 k).length=(tA V (fun _=>true) t0 k).length:=by rw[l7,l7]
   by_cases hL:L k=true
   .rw[if_pos hL];exact yh _ hlen ih
   .rw[if_neg hL];have hkl:(V k).kl=none:=by
     cases hh:(V k).kl with
     |none=>rfl
     |some s=>exact absurd ((hk k (by omega) (by rw[hh];simp)).2 (by omega)) hL
    have hv:∀x,(V k).v≠some (d,x):=fun x hx=>hL ((h k x (by omega) hx).2 (by omega));rw[db hkl hv];exact ih
 have h2:∀k,j<=k->k<=n->(tA V L t0 k)[d]? =(tA V L t0 j)[d]? :=by
  intro k
  induction k with
  |zero=>intro hk _;have:j=0:=by omega
         subst this;rfl
  |succ k ih=>
   intro hkj hn;by_cases he:j=k+1
   .subst he;rfl
   .have ih:=ih (by omega) (by omega);simp only[tA];split
    .rename_i hl;have hkl:(V k).kl=none:=by
      cases hh:(V k).kl with
      |none=>rfl
      |some s=>have:=(hk k (by omega) (by rw[hh];simp)).1 hl;omega
     rw[db hkl (fun x hx=>by have:=(h k x (by omega) hx).1 hl;omega)];exact ih
    .exact ih
 rw[h2 n hj (B7 _),h1 j (B7 _)]
def l8 (h:∀i,i<n->L i=L' i):∀k,k<=n->tA V L t0 k=tA V L' t0 k:=by
 intro k
 induction k with
 |zero=>intro _;rfl
 |succ k ih=>intro hk;simp only[tA];rw[ih (by omega),h k (by omega)]
def Dz2 (h:∀i,i<n->L i=false):∀k,k<=n->tA V L t0 k=t0:=by
 intro k
 induction k with
 |zero=>intro _;rfl
 |succ k ih=>intro hk;simp only[tA];rw[ih (by omega),h k (by omega)];rfl
def El3 (hj:j<n) (hL:L j=false) (hL':∀i,L' i=if i=j then true else L i) (hkk:∀i,i<n->j<i->L i=true->(V j).kl=none∧(V i).kl=none) (h:∀i d x y,i<n->i≠j->j<i->L i=true->(V j).v=some (d,x)->(V i).v≠some (d,y)):tA V L' t0 n=H6 (V j) (tA V L t0 n):=by
 have h1:∀k,k<=j->tA V L' t0 k=tA V L t0 k:=by
  intro k
  induction k with
  |zero=>intro _;rfl
  |succ k ih=>
   intro hk;simp only[tA];have e:L' k=L k:=by rw[hL',if_neg (by omega)]
   rw[e,ih (by omega)]
 have h2:∀k,j<k->k<=n->tA V L' t0 k=H6 (V j) (tA V L t0 k):=by
  intro k
  induction k with
  |zero=>intro hk;omega
  |succ k ih=>
   intro hk hn;simp only[tA];by_cases he:k=j
   .subst he;have e:L' k=true:=by rw[hL',if_pos rfl]
    rw[e,hL,h1 k (B7 _)];simp
   .have e:L' k=L k:=by rw[hL',if_neg he]
    rw[e,ih (by omega) (by omega)];split
    .rename_i hl;obtain⟨k1,k2⟩:=hkk k (by omega) (by omega) hl;unfold H6;rw[k1,k2];simp only[N6];cases hvj:(V j).v with
     |none=>rfl
     |some p=>
      cases hvk:(V k).v with
      |none=>rfl
      |some q=>
       obtain⟨d,x⟩:=p;obtain⟨e,y⟩:=q;have hne:d≠e:=fun hde=>by subst hde;exact h k d x y (by omega) he (by omega) hl hvj hvk
       simp only[];rw[List.set_comm _ _ hne]
    .rfl
 exact h2 n hj (B7 _)
end
mutual
def SV.kill_comm (s s':Nat):∀x:SV,(x.kill s').kill s=(x.kill s).kill s'
 | .e _| .nil _| .lit _ _| .und| .ip _ _| .nilq _=>by simp only[SV.kill]
 | .may g x=>by simp only[SV.kill,SV.kill_comm s s' x]
 | .bp k o=>by simp only[SV.kill];split<;>split<;>simp_all [SV.kill]
 | .ap k i o=>by simp only[SV.kill];split<;>split<;>simp_all [SV.kill]
 | .suf k i=>by simp only[SV.kill];split<;>split<;>simp_all [SV.kill]
 | .h k=>by simp only[SV.kill];split<;>split<;>simp_all [SV.kill]
 | .mh k=>by simp only[SV.kill];split<;>split<;>simp_all [SV.kill]
 | .slf k T=>by simp only[SV.kill];split<;>split<;>simp_all [SV.kill]
 | .tup xs=>by simp only[SV.kill,SV.kills_comm s s' xs]
 | .ag xs=>by simp only[SV.kill,SV.kills_comm s s' xs]
 | .clo g xs=>by simp only[SV.kill,SV.kills_comm s s' xs]
def SV.kills_comm (s s':Nat):∀xs:List SV,SV.kills s (SV.kills s' xs)=SV.kills s' (SV.kills s xs)
 |[]=>rfl
 |x::xs=>by simp only[SV.kills,SV.kill_comm s s' x,SV.kills_comm s s' xs]
end
def bl (s:Nat):∀(t:List SV) (d:Nat) (x:SV),SV.kills s (t.set d x)=(SV.kills s t).set d (x.kill s)
 |[],d,x=>by simp[SV.kills]
 |y::t,0,x=>by simp[SV.kills]
 |y::t,d+1,x=>by simp[SV.kills,bl s t d x]
def pn {V:Nat->Vx} {L:Nat->Bool} {t0:List SV} {s:Nat} (h0:SV.kills s t0=t0) (hv:∀k d x,L k=true->(V k).v=some (d,x)->x.kill s=x):∀n,SV.kills s (tA V L t0 n)=tA V L t0 n
 |0=>h0
 |n+1=>by
  have ih:=pn h0 hv n;simp only[tA];split
  .rename_i hL;have hk:SV.kills s (N6 (V n).kl (tA V L t0 n))=N6 (V n).kl (tA V L t0 n):=by
    cases (V n).kl with
    |none=>exact ih
    |some s'=>simp only[N6];rw[SV.kills_comm,ih]
   unfold H6;split
   .rename_i d x hvx;rw[bl,hk,hv n d x hL hvx]
   .exact hk
  .exact ih
def Fp2 (ops:Array Oper) (j:Nat):Prop:=(∀i,i<j->((Uc [] ops.toList).getD j 0).testBit i=true)∧∀i,j<i->i<ops.size->((Uc [] ops.toList).getD i 0).testBit j=true
def Cz3 {ops:Array Oper} {j:Nat} (h:Dl9 (Uc [] ops.toList) ops.size j=true) (hj:j<ops.size):Fp2 ops j:=by
 unfold Dl9 at h;rw[Db] at h;refine⟨fun i hi=> ?_,fun i hi hn=> ?_⟩
 .have:=h i (Hr.2 (by omega));rwa[if_pos hi] at this
 .have:=h i (Hr.2 hn);rwa[if_neg (by omega),if_pos hi] at this
def U3 {acc:List Nat} {i:Nat}:∀{ks:List Nat},(Sj acc ks).testBit i=true->∃k,k∈ks∧(i=k∨(acc.getD k 0).testBit i=true)
 |[],h=>by simp[Sj] at h
 |k::ks,h=>by
  simp only[Sj,Nat.testBit_or,Cq,Nat.testBit_two_pow,decide_eq_true_eq] at h;rcases h with h|h|h
  .exact⟨k,.head _,.inl h.symm⟩
  .exact⟨k,.head _,.inr h⟩
  .obtain⟨k',h1,h2⟩:=U3 h;exact⟨k',.tail _ h1,h2⟩
def s7:∀(l:List Oper) (acc:List Nat),(∀k,k<acc.length->(Uc acc l)[k]? =acc[k]?)∧∀(k:Nat) (o:Oper),l[k]? =some o->(Uc acc l)[acc.length+k]? =some (Sj ((Uc acc l).take (acc.length+k)) (yj o))
 |[],acc=>⟨fun k _=>rfl,fun k o h=>by simp at h⟩
 |o::l,acc=>by
  obtain⟨h1,h2⟩:=s7 l (acc++[Sj acc (yj o)]);have hpre:∀k,k<acc.length->(Uc acc (o::l))[k]? =acc[k]? :=by intro k hk;have:=h1 k (by simp;omega);rw[Cd hk] at this;exact this
  refine⟨hpre,fun k o' hk=> ?_⟩;cases k with
  |zero=>
   simp only[Dm,Bm] at hk;subst hk;have:=h1 acc.length (by simp);rw[Cw (B7 _),Nk] at this;have htake:(Uc acc (o::l)).take acc.length=acc:=by
    apply List.ext_getElem?;intro i;rw[Ch];split
    .rename_i hi;exact hpre i hi
    .rw[eq (by omega)]
   rw[E5,htake];exact this
  |succ k=>
   have:=h2 k o' (by simpa using hk);rw[Br,List.length_singleton] at this;rw[show acc.length+(k+1)=acc.length+1+k by omega];exact this
def V2 {ops:List Oper} {L:Nat->Bool} (hcl:∀(j:Nat) (o:Oper),ops[j]? =some o->L j=true->∀k,k∈yj o->L k=true) (hlt:∀(j:Nat) (o:Oper),ops[j]? =some o->∀k,k∈yj o->k<j):
  ∀(N j:Nat) (o:Oper),j<N->ops[j]? =some o->(∀k,k∈yj o->L k=true)->∀i,((Uc [] ops).getD j 0).testBit i=true->L i=true:=by
 intro N
 induction N with
 |zero=>intro j o hj;omega
 |succ N ih=>
  intro j o hj ho hk i hi;have hget:=(s7 ops []).2 j o ho;simp only[Cm,Fl] at hget;rw[Ct,hget,D2] at hi;obtain⟨k,hk1,hk2⟩:=U3 hi;have hkj:=hlt j o ho k hk1;rcases hk2 with rfl|hk2
  .exact hk _ hk1
  .have:((Uc [] ops).take j).getD k 0=(Uc [] ops).getD k 0:=by rw[Ct,Ct,Ch,if_pos hkj]
   rw[this] at hk2;have hko:∃o',ops[k]? =some o':=⟨_,B4 (by have:=(Bn.1 ho).1;omega)⟩;obtain⟨o',ho'⟩:=hko;exact ih k o' (by omega) ho' (hcl k o' ho' (hk k hk1)) i hk2
def my {x y:Option Blk} (h:Bs5 x y=true):x=y:=by
 cases x<;>cases y<;>simp only[Bs5,B5] at h
 .rfl
 .rw[Blk.same_eq h]
def Bk6 {m:List (Nat×Blk)} {s:Nat} {b:Blk} (h:mget m s=some b):(s,b)∈m:=by
 induction m with
 |nil=>simp[mget] at h
 |cons p m ih=>
  obtain⟨k,c⟩:=p;simp only[mget] at h;split at h
  .rename_i e;subst e;injection h with h;subst h;exact .head _
  .exact .tail _ (ih h)
def Dj3 {m m':List (Nat×Blk)} (h:eqM m m'=true) (s:Nat):mget m s=mget m' s:=by
 simp only[eqM,Bt,Db] at h;cases h1:mget m s with
 |some b=>rw[<-h1];exact my (h.1 (s,b) (Bk6 h1))
 |none=>
  cases h2:mget m' s with
  |none=>rfl
  |some b=>
   have:=my (h.2 (s,b) (Bk6 h2));rw[h1,h2] at this;cases this
def E.sameOpt_eq {x y:Option E} (h:E.sameOpt x y=true):x=y:=by
 cases x<;>cases y<;>simp only[E.sameOpt,B5] at h
 .rfl
 .rw[E.same_eq _ _ h]
def W.same_eq {x y:W} (h:x.same y=true):x=y:=by
 cases x<;>cases y<;>simp only[W.same,Bt,beq_iff_eq,B5] at h
 .rw[E.same_eq _ _ h]
 .obtain⟨⟨⟨⟨h1,h2⟩,h3⟩,h4⟩,h5⟩:=h;rw[E.sameOpt_eq h1,h2,h3,E.sames_eq _ _ h4,h5]
 .obtain⟨⟨⟨⟨h1,h2⟩,h3⟩,h4⟩,h5⟩:=h;rw[E.sameOpt_eq h1,h2,E.same_eq _ _ h3,E.sames_eq _ _ h4,h5]
 .rw[h.1,E.sames_eq _ _ h.2]
def Y5:∀{x y:List W},Uh x y=true->x=y
 |[],[],_=>rfl
 |a::x,b::y,h=>by simp only[Uh,Bt] at h;rw[W.same_eq h.1,Y5 h.2]
 |[],_::_,h=>by simp[Uh] at h
 |_::_,[],h=>by simp[Uh] at h
def S5 (p:Nat->Bool):∀l:List Nat,l.filter p∈Ev9 l
 |[]=>by simp[Ev9]
 |x::l=>by
  have ih:=S5 p l;simp only[Q9,Ev9,Dp,Bm8];split
  .exact .inr ⟨_,ih,rfl⟩
  .exact .inl ih
section
variable {P:Program} {sig:Nat->Option Nat} {fn:Fns} {w0:Fr} {Oe:Nat->Option Nat} {J:List PV} {ops:Array Oper}
def c5 (σ:St) (ε:Eff) (d:Option Tmp) (sv:SV):((σ.eff ε).set d sv).t=H6 ⟨ε.kl,d.map (fun d=>(d,sv))⟩ σ.t:=by cases d<;>cases h:ε.kl<;>simp[St.eff,St.set,H6,N6,h]
def Bb3 (σ:St) (ε:Eff) (d:Option Tmp) (sv:SV):((σ.eff ε).set d sv).m=ε.m:=by cases d<;>rfl
def Ent.vx (e:Ent):Vx:=⟨if e.tr then none else e.kl,e.o.dst.map fun d=>(d,e.sv)⟩
def Vof (ents:List Ent) (k:Nat):Vx:=match ents[k]? with|some e=>e.vx|none=>⟨none,none⟩
def fz (V:Nat->Vx) (t0:List SV):∀k,tA V s9 t0 (k+1)=tA (fun j=>V (j+1)) s9 (H6 (V 0) t0) k
 |0=>by simp[tA,s9]
 |k+1=>by have ih:=fz V t0 k;rw[tA];simp only[s9,if_true];rw[show tA V s9 t0 (k+1)=_ from ih];simp[tA,s9]
def Aj5 {own:List Nat} {rid:Nat}:∀(l:List Oper) (i:Nat) (σ:St) (ents:List Ent) (σ':St) (η1 η2 ζ:List PV),Ec4 P sig own ops rid l i σ=some (ents,σ')->Eb fn η1 (Bb1 ents)=some η2->J=η2++ζ->η1.length=σ.n->
  ents.length=l.length∧η2.length=σ'.n∧(∀k e,ents[k]? =some e->l[k]? =some e.o∧e.t=tA (Vof ents) s9 σ.t k∧∃η1 η2 ζ,Eb fn η1 e.ws=some η2∧J=η2++ζ∧η1.length=e.n)∧σ'.t=tA (Vof ents) s9 σ.t ents.length
 |[],i,σ,ents,σ',η1,η2,ζ,hx,hw,hη,hn=>by simp only[Ec4,Bm,B3] at hx;obtain⟨rfl,rfl⟩:=hx;simp only[Bb1,Eb,Bm] at hw;subst hw;exact⟨rfl,hn,fun k e h=>by simp at h,rfl⟩
 |o::l,i,σ,ents,σ',η1,η2,ζ,hx,hw,hη,hn=>by
  simp only[Ec4] at hx;split at hx
  .rename_i ws sv ε hc;obtain⟨⟨ents',σ2⟩,hrec,he⟩:=Bp.1 hx;simp only[B3] at he;have hE0:∃E0:Ent,ents=E0::ents'∧E0.o=o∧E0.t=σ.t∧E0.n=σ.n∧E0.ws=ws∧E0.sv=sv∧E0.kl=ε.kl∧(E0.tr=true->∀s,ε.kl=some s->SV.kills s σ.t=σ.t):=by refine⟨_,he.1.symm,rfl,rfl,rfl,rfl,rfl,rfl,fun htr s hs=> ?_⟩;simp only[hs] at htr;exact SV.sames_eq _ _ htr
   obtain⟨E0,rfl,rfl,k2,k3,rfl,rfl,k6,k7⟩:=hE0;obtain⟨_,rfl⟩:=he;simp only[Bb1] at hw;rw[Gd] at hw;obtain⟨η3,hw1,hw2⟩:=Bl.1 hw;obtain⟨ζ2,hζ2⟩:=I9 hw2;have hset:((σ.eff ε).set E0.o.dst E0.sv).n=ε.n:=by cases E0.o.dst<;>rfl
   have hlen:=Rk hc hw1 hn;obtain⟨r1,r2,r3,r4⟩:=Aj5 l (i+1) _ ents' σ2 η3 η2 ζ hrec hw2 hη (by rw[hlen,hset]);have ht:((σ.eff ε).set E0.o.dst E0.sv).t=H6 (Vof (E0::ents') 0) σ.t:=by
    rw[c5];simp only[Vof,Dm,Ent.vx];rw[k6];cases hk:ε.kl with
    |none=>simp
    |some s=>
     cases htr:E0.tr with
     |true=>simp only[if_true,H6,N6,k7 htr s hk]
     |false=>simp
   have hV:(fun j=>Vof (E0::ents') (j+1))=Vof ents':=by funext j;simp[Vof]
   refine⟨by simp[r1],r2,fun k e hk=> ?_,?_⟩
   .cases k with
    |zero=>
     simp only[Dm,Bm] at hk;subst hk;exact⟨rfl,k2,η1,η3,ζ2++ζ,hw1,by rw[hη,hζ2,Ck],by rw[k3];exact hn⟩
    |succ k=>
     obtain⟨q1,q2,q3⟩:=r3 k e (by simpa using hk);refine⟨by simpa using q1,?_,q3⟩;rw[fz,hV,<-ht];exact q2
   .rw[Cz,fz,hV,<-ht];exact r4
  .cases hx
def I8 {own:List Nat} {rid:Nat} {B B':Nat->Bool}:∀(ents:List Ent) (i:Nat) (m:List (Nat×Blk)),(∀k,i<=k->k<i+ents.length->B k=B' k)->d5 P sig own ops rid B ents i m=d5 P sig own ops rid B' ents i m
 |[],_,_,_=>rfl
 |e::r,i,m,h=>by
  simp only[d5];rw[h i (B7 _) (by simp)];have hr:∀m,d5 P sig own ops rid B r (i+1) m=d5 P sig own ops rid B' r (i+1) m:=fun m=>I8 r (i+1) m fun k h1 h2=>h k (by omega) (by simp;omega);split
  .split
   .exact hr _
   .rfl
  .exact hr m
def cnt (L:Nat->Bool):Nat->Nat
 |0=>0
 |k+1=>cnt L k+if L k then 0 else 1
def Bc9 {L L':Nat->Bool} {j:Nat} (hL:L j=false) (hL':∀i,L' i=if i=j then true else L i):∀k,cnt L k=cnt L' k+if j<k then 1 else 0
 |0=>by simp[cnt]
 |k+1=>by
  have ih:=Bc9 hL hL' k;by_cases hk:k=j
  .subst hk;have e:L' k=true:=by rw[hL',if_pos rfl]
   simp only[cnt,e,hL,if_true,B5,if_false];rw[if_neg (Nat.lt_irrefl k)] at ih;rw[if_pos (Nat.lt_succ_self k)];omega
  .have e:L' k=L k:=by rw[hL',if_neg hk]
   simp only[cnt,e];by_cases hjk:j<k
   .rw[if_pos hjk] at ih;rw[if_pos (show j<k+1 by omega)];omega
   .rw[if_neg hjk] at ih;rw[if_neg (show¬j<k+1 by omega)];omega
def qh {L:Nat->Bool}:∀k,cnt L k=0->∀i,i<k->L i=true
 |0,_,i,hi=>by omega
 |k+1,h,i,hi=>by
  simp only[cnt] at h;by_cases hk:i=k
  .subst hk;cases hl:L i with
   |true=>rfl
   |false=>rw[hl] at h;simp at h
  .exact qh k (by omega) i (by omega)
def Dr7 (hC:Contract P sig fn) {own:List Nat} {rid:Nat} {Q:Exit->Act->World->Prop} {ds:List Deferred} {ents:List Ent} {σ σ':St}
  (hd:Bc6 ops=true) (hlen:ents.length=ops.size) (hE:∀k e,ents[k]? =some e->ops[k]? =some e.o∧e.t=tA (Vof ents) s9 σ.t k∧∃η1 η2 ζ,Eb fn η1 e.ws=some η2∧J=η2++ζ∧η1.length=e.n)
  (hfin:σ'.t=tA (Vof ents) s9 σ.t ops.size) (hchk:jc P sig own ops rid ents σ σ'=true) (hQ:∀a' w',a'.defers=ds->Yq w0 Oe J ⟨σ'.t,σ'.m,0⟩ a'.tmps w'->Q .normal a' w'):
  ∀(fuel:Nat) (listed:Array Bool) (a:Act) (w:World),listed.size=ops.size->cnt (fun i=>listed.getD i false) ops.size<=fuel->
   (∀(j:Nat) (o:Oper),ops[j]? =some o->listed.getD j false=true->∀k,k∈yj o->listed.getD k false=true)->a.defers=ds->
   (∃m,d5 P sig own ops rid (fun k=>Tl ents k && listed.getD k false) ents 0 σ.m=some m∧Yq w0 Oe J ⟨tA (Vof ents) (fun i=>listed.getD i false) σ.t ops.size,m,0⟩ a.tmps w)->wpAny P .any ops Q fuel listed a w:=by
 have hop:∀j,j<ops.size->∃y,ops[j]? =some y∧p7 y.op=false∧(∀k,k∈yj y->k<j)∧∀i,i<j->((Uc [] ops.toList).getD j 0).testBit i=true∨∃x,ops[i]? =some x∧x.apart ops y=true:=by
  intro j hj;unfold Bc6 at hd;have h1:=(Db.1 hd) j (by simp[hj]);split at h1
  .rename_i y hy;simp only[Bt,Dl,Db,decide_eq_true_eq,Hr,Cq] at h1;refine⟨y,hy,h1.1.1,fun k hk=>h1.1.2 k hk,fun i hi=> ?_⟩;rcases h1.2 i hi with h2|h2
   .exact .inl h2
   .right;split at h2
    .rename_i x hx;exact⟨x,hx,h2⟩
    .cases h2
  .cases h1
 simp only[jc,Bt,Db,Hr] at hchk;obtain⟨hchk1,hchk2⟩:=hchk;have hlt:∀(j:Nat) (o:Oper),ops.toList[j]? =some o->∀k,k∈yj o->k<j:=by
  intro j o ho k hk;have ho':ops[j]? =some o:=by simpa using ho
  obtain⟨y,hy,_,h2,_⟩:=hop j (Dd.1 ho').1;rw[ho'] at hy;injection hy with hy;subst hy;exact h2 k hk
 have hend:∀(listed:Array Bool) (a:Act) (w:World),(∀i,i<ops.size->listed.getD i false=true)->a.defers=ds->
   (∃m,d5 P sig own ops rid (fun k=>Tl ents k && listed.getD k false) ents 0 σ.m=some m∧Yq w0 Oe J ⟨tA (Vof ents) (fun i=>listed.getD i false) σ.t ops.size,m,0⟩ a.tmps w)->Q .normal a w:=by
  rintro listed a w hl hds ⟨m,hm,β,hv,O,h⟩;refine hQ a w hds ⟨β,hv,O,?_⟩;have c1:=l8 (V:=Vof ents) (t0:=σ.t) (L:=fun i=>listed.getD i false) (L':=s9) (n:=ops.size) hl;rw[I8 (B':=Tl ents) ents 0 σ.m (fun k _ hk=>by rw[hl k (by omega),Ot])] at hm;rw[hm] at hchk2;have:=h.eqm (m':=σ'.m) (n:=0) (fun s=>Dj3 hchk2 s);rw[hfin,<-c1 _ (B7 _)];exact this
 intro fuel
 induction fuel with
 |zero=>
  intro listed a w hsize hcnt hcl hds h;have hl:=qh ops.size (by omega) (L:=fun i=>listed.getD i false);refine⟨?_,hend listed a w hl hds h⟩;refine List.eq_nil_iff_forall_not_mem.2 fun j hj=> ?_;rw[mem_ready] at hj;obtain⟨h0,o,ho,_⟩:=hj;have hj':=(Dd.1 ho).1;have:=hl j hj';rw[Cf,Eh (by omega)] at h0 this;simp only[D2] at h0 this;rw[h0] at this;cases this
 |succ fuel ih=>
  intro listed a w hsize hcnt hcl hds h;let L:Nat->Bool:=fun i=>listed.getD i false;refine⟨fun hr=> ?_,fun j hj=> ?_⟩
  ·-- none is ready: all are listed
   refine hend listed a w (fun i hi=> ?_) hds h;have:∀N i,i<N->i<ops.size->L i=true:=by
    intro N
    induction N with
    |zero=>intro i hi;omega
    |succ N ihN=>
     intro i hi1 hi2;refine Classical.byContradiction fun hne=> ?_;obtain⟨y,hy,_,hk,_⟩:=hop i hi2;have hmem:i∈Region.ready .any ops listed:=by
      rw[mem_ready];refine⟨?_,y,hy,fun e he hb=> ?_⟩
      .have:L i=false:=by
        cases hh:L i with
        |false=>rfl
        |true=>exact absurd hh hne
       have h3:listed.getD i false=false:=this;rw[Cf,Eh (by omega)] at h3 ⊢;exact h3
      .have hin:e.on∈yj y:=Bm8.2 ⟨e,G3.2 ⟨by simpa using he,hb⟩,rfl⟩;have:=hk _ hin;exact ihN e.on (by omega) (by omega)
     rw[hr] at hmem;simp at hmem
   exact this (i+1) i (by omega) hi
  .rw[mem_ready] at hj;obtain⟨h0,o,ho,hafter⟩:=hj;have hj':j<ops.size:=(Dd.1 ho).1;have hLj:L j=false:=by show listed.getD j false=false;rw[Cf,Eh (by omega)] at h0 ⊢;exact h0
   obtain⟨y,hy,hsel,hk,hpair⟩:=hop j hj';rw[ho] at hy;injection hy with hy;subst hy;have hready:∀k,k∈yj o->L k=true:=by intro k hk1;obtain⟨e,he,rfl⟩:=Bm8.1 hk1;obtain⟨he1,he2⟩:=G3.1 he;exact hafter e (by simpa using he1) he2
   have hcl':∀(j:Nat) (o:Oper),ops.toList[j]? =some o->L j=true->∀k,k∈yj o->L k=true:=fun j o ho hl=>hcl j o (by simpa using ho) hl;have hanc:∀i,((Uc [] ops.toList).getD j 0).testBit i=true->L i=true:=V2 hcl' hlt (j+1) j o (by omega) (by simpa using ho) hready;have hup:∀k,k<ops.size->L k=true->∀i,((Uc [] ops.toList).getD k 0).testBit i=true->L i=true:=by intro k hk hLk i hb;obtain⟨x,hx,_⟩:=hop k hk;exact V2 hcl' hlt (k+1) k x (by omega) (by simpa using hx) (fun z hz=>hcl k x hx hLk z hz) i hb
   have hbehind:∀i,j<i->i<ops.size->L i=true->∃x,ops[i]? =some x∧o.apart ops x=true:=by
    intro i hji hin hLi;obtain⟨x,hx,_,hxk,hxp⟩:=hop i hin;rcases hxp j hji with hb|⟨o',ho',h1⟩
    .have:=hup i hin hLi j hb;rw[hLj] at this;cases this
    .rw[ho] at ho';injection ho' with ho';subst ho';exact⟨x,hx,h1⟩
   obtain⟨e,he⟩:∃e,ents[j]? =some e:=⟨_,B4 (by omega)⟩;obtain⟨heo,het,η1,η2,ζ,hw,hη,hn⟩:=hE j e he;rw[ho] at heo;injection heo with heo;subst heo;have hcj:=hchk1 j (by omega);rw[he] at hcj;simp only[Bt,Db] at hcj;obtain⟨⟨_,hcY⟩,hcK⟩:=hcj;have hVj:Vof ents j=e.vx:=by simp only[Vof,he]
   have hefj:Tl ents j=e.ef:=by simp only[Tl,he]
   have hVi:∀i d x,i<ops.size->(Vof ents i).v=some (d,x)->∃y,ops[i]? =some y∧y.dst=some d:=by intro i d x hi hv;obtain⟨e',he'⟩:∃e,ents[i]? =some e:=⟨_,B4 (by omega)⟩;obtain⟨h1,_⟩:=hE i e' he';simp only[Vof,he',Ent.vx] at hv;obtain⟨d',hd',hh⟩:=Bp.1 hv;simp only[B3] at hh;exact⟨e'.o,h1,by rw[hd',hh.1]⟩
   have hKi:∀i,i<ops.size->(Vof ents i).kl≠none->Fp2 ops i:=by
    intro i hi hv;obtain⟨e',he'⟩:∃e,ents[i]? =some e:=⟨_,B4 (by omega)⟩;have h1:=hchk1 i (by omega);rw[he'] at h1;simp only[Bt] at h1;have h2:=h1.2;simp only[Vof,he',Ent.vx] at hv;unfold By4 at h2;have htr:e'.tr=false:=by
     cases hh:e'.tr with
     |false=>rfl
     |true=>rw[hh] at hv;simp at hv
    rw[htr] at h2;simp only[Bool.not_false,if_true] at h2;rw[hlen] at h2;exact Cz3 h2 hi
   have hfull:∀i,i<ops.size->i≠j->Fp2 ops i->(L i=true↔i<j):=by
    intro i hi hne hf;constructor
    .intro hLi;refine Classical.byContradiction fun hge=> ?_;have:=hup i hi hLi j (hf.1 j (by omega));rw[hLj] at this;cases this
    .intro hlt2;exact hanc i (hf.2 j hlt2 hj')
   have hfullj:Fp2 ops j->∀i,j<i->i<ops.size->L i=true->False:=by intro hf i hji hi hLi;have:=hup i hi hLi j (hf.2 i hji hi);rw[hLj] at this;cases this
   have hlook:∀d,d∈e.o.looksAt ops->(tA (Vof ents) L σ.t ops.size)[d]? =e.t[d]? :=by
    intro d hd;rw[het];refine Dz3 (by omega) (fun i x hi hv=> ?_) (fun i hi hv=> ?_)
    .obtain⟨y,hy,hyd⟩:=hVi i d x hi hv;constructor
     .intro hLi;refine Classical.byContradiction fun hge=> ?_;have hij:i≠j:=fun e=>by subst e;rw[hLj] at hLi;cases hLi
      obtain⟨x',hx',hap⟩:=hbehind i (by omega) hi hLi;rw[hy] at hx';injection hx' with hx';subst hx';exact(Oper.apart_spec hap).2.2 d hyd hd
     .intro hlt;rcases hpair i hlt with hb|⟨x',hx',hap⟩
      .exact hanc i hb
      .rw[hy] at hx';injection hx' with hx';subst hx';exact absurd hd ((Oper.apart_spec hap).1 d hyd)
    .by_cases hij:i=j
     .subst hij;exact⟨fun hLi=>(by rw[hLj] at hLi;cases hLi),fun h=>by omega⟩
     .exact hfull i hi hij (hKi i hi hv)
   obtain⟨m,hm,β,hv,O,hrel⟩:=h;let A:=Uc [] ops.toList;let U:=(Dv0 A ents j).filter L;let B:Nat->Bool:=fun k=>Tl ents k && ((A.getD j 0).testBit k||U.contains k);have hBL:∀k,k<ops.size->B k=(Tl ents k && L k):=by
    intro k hk;show (Tl ents k && ((A.getD j 0).testBit k||U.contains k))=(Tl ents k && L k);cases hef:Tl ents k with
    |false=>rfl
    |true=>
     rw[Ew9,Ew9,Gw];simp only[Cq,List.contains_iff_mem];constructor
     .rintro (h1|h1)
      .exact hanc k h1
      .exact(G3.1 h1).2
     .intro hLk;by_cases h1:(A.getD j 0).testBit k=true
      .exact .inl h1
      .right;refine G3.2 ⟨G3.2 ⟨Hr.2 (by omega),?_⟩,hLk⟩;have h2:(A.getD k 0).testBit j=false:=by
        cases hh:(A.getD k 0).testBit j with
        |false=>rfl
        |true=>have:=hup k hk hLk j hh;rw[hLj] at this;cases this
       have h3:k≠j:=fun e=>by subst e;rw[hLj] at hLk;cases hLk
       simp only[Bool.not_eq_true] at h1;show (Tl ents k && k !=j && !(A.getD j 0).testBit k && !(A.getD k 0).testBit j)=true;rw[hef,h1,h2];simp[h3]
   have hclo:X0 A ents B=true:=by
    unfold X0;rw[Db];intro k hk;have hk':k<ops.size:=by rw[<-hlen];simpa using hk
    cases hb:B k with
    |false=>rfl
    |true=>
     rw[d3,Ex0,Db];intro i hi;have hi':i<ops.size:=by rw[<-hlen];simpa using hi
     rw[hBL k hk'] at hb;simp only[Bt] at hb;cases hx:Tl ents i && (A.getD k 0).testBit i with
     |false=>rfl
     |true=>
      simp only[Bt] at hx;rw[d3,Ex0,hBL i hi',hx.1,hup k hk' hb.2 i hx.2];rfl
   have hcU:=hcY U (S5 L _);unfold Gd6 at hcU;have hcl2:X0 (Uc [] ops.toList) ents (fun k=>Tl ents k && (((Uc [] ops.toList).getD j 0).testBit k||U.contains k))=true:=hclo;simp only[hcl2,d3,B5,if_false] at hcU;have hmB:d5 P sig own ops rid (fun k=>Tl ents k && (((Uc [] ops.toList).getD j 0).testBit k||U.contains k)) ents 0 σ.m=some m:=by rw[<-hm];exact I8 ents 0 σ.m fun k _ hk=>hBL k (by omega)
   rw[hmB] at hcU;simp only at hcU;split at hcU
   .rename_i ws sv ε hcore;simp only[Bt,beq_iff_eq] at hcU;obtain⟨⟨⟨⟨hws,hsv⟩,hkl⟩,hmm⟩,hek⟩:=hcU;have hws':=Y5 hws;have hsv':=SV.same_eq _ _ hsv;subst hws';subst hsv';have hcore':Ny P sig own ops (rid*4096+j) e.o ⟨tA (Vof ents) L σ.t ops.size,m,e.n⟩=some (e.ws,e.sv,ε):=by rw[<-hcore];exact Dk8 hlook
    have hrel':Rel w0 Oe J ⟨tA (Vof ents) L σ.t ops.size,m,e.n⟩ a.tmps w β hv O:=hrel.setN e.n;refine Zb ho (lg hC hrel' hcore' hw hη hn) fun v w' hp=> ?_;obtain⟨β',hv',O',hr2⟩:=hp.rels (d:=e.o.dst) (Yr hcore');let L':Nat->Bool:=fun i=>(listed.setIfInBounds j true).getD i false;have hL':∀i,L' i=if i=j then true else L i:=by
     intro i;show (listed.setIfInBounds j true).getD i false=_;split
     .rename_i he;subst he;rw[Cf,Array.getElem?_setIfInBounds_self_of_lt (by omega)];rfl
     .rename_i he;exact getD_set_ne false (Ne.symm he)
    refine ih _ _ _ (by simpa using hsize) ?_ ?_ (by rw[U1];exact hds) ?_
    .have:=Bc9 hLj hL' ops.size;rw[if_pos hj'] at this;have e1:cnt L' ops.size=cnt (fun i=>(listed.setIfInBounds j true).getD i false) ops.size:=rfl;have e2:cnt L ops.size=cnt (fun i=>listed.getD i false) ops.size:=rfl;omega
    .intro i y hy hl k hk;by_cases hij:i=j
     .subst hij;rw[ho] at hy;injection hy with hy;subst hy;exact getD_set_true (hready k hk)
     .rw[getD_set_ne false (Ne.symm hij)] at hl;exact getD_set_true (hcl i y hy hl k hk)
    .have e1:tA (Vof ents) L' σ.t ops.size=H6 (Vof ents j) (tA (Vof ents) L σ.t ops.size):=El3 hj' hLj hL' (fun i hi hji hLi=>⟨by
      cases hh:(Vof ents j).kl with
      |none=>rfl
      |some s=>exact(hfullj (hKi j hj' (by rw[hh];simp)) i hji hi hLi).elim,by
      cases hh:(Vof ents i).kl with
      |none=>rfl
      |some s=>have:=(hfull i hi (by omega) (hKi i hi (by rw[hh];simp))).1 hLi;omega⟩) fun i d x y hi hij hji hLi h1 h2=>by
      obtain⟨x',hx',hap⟩:=hbehind i hji hi hLi;obtain⟨y',hy',hyd⟩:=hVi i d y hi h2;rw[hx'] at hy';injection hy' with hy';subst hy';obtain⟨o',ho',hod⟩:=hVi j d x hj' h1;rw[ho] at ho';injection ho' with ho';subst ho';exact(Oper.apart_spec hap).2.1 d hod hyd
     have e4:tA (Vof ents) L' σ.t ops.size=(((⟨tA (Vof ents) L σ.t ops.size,m,e.n⟩:St).eff ε).set e.o.dst e.sv).t:=by
      rw[e1,hVj,c5];simp only[Ent.vx];rw[hkl];cases htr:e.tr with
      |false=>simp
      |true=>
       simp only[if_true];cases hk2:e.kl with
       |none=>rfl
       |some s=>
        unfold By4 at hcK;rw[htr] at hcK;simp only[d3,B5,if_false,hk2,Bt,Db,Hr,Cq,beq_iff_eq] at hcK;obtain⟨g1,g2⟩:=hcK;have hkt:=pn (V:=Vof ents) (L:=fun k=>L k && decide (k<ops.size)) (s:=s) (SV.sames_eq _ _ g1) (fun k d x hLk hvk=>by
         simp only[Bt,decide_eq_true_eq] at hLk;obtain⟨hLk,hks⟩:=hLk;obtain⟨e',he'⟩:∃e,ents[k]? =some e:=⟨_,B4 (by omega)⟩;rcases g2 k (by omega) with(h1|h1)|h1
         .subst h1;rw[hLj] at hLk;cases hLk
         .have:=hup k hks hLk j h1;rw[hLj] at this;cases this
         .rw[he'] at h1;simp only[Vof,he',Ent.vx] at hvk;obtain⟨d',_,hh⟩:=Bp.1 hvk;simp only[B3] at hh;rw[<-hh.2];exact SV.same_eq _ _ h1) ops.size
        have hcg:=l8 (V:=Vof ents) (t0:=σ.t) (L:=fun k=>L k && decide (k<ops.size)) (L':=L) (n:=ops.size) (fun i hi=>by simp[hi]) ops.size (B7 _);rw[hcg] at hkt;simp only[H6,N6,hkt]
     have hmm':∃m',d5 P sig own ops rid (fun k=>Tl ents k && L' k) ents 0 σ.m=some m'∧eqM ε.m m'=true:=by
      split at hmm
      .rename_i m' hm';refine⟨m',?_,hmm⟩;cases hef:e.ef with
       |true=>
        rw[hef] at hm';simp only[if_true] at hm';rw[<-hm'];refine I8 ents 0 σ.m fun k _ hk=> ?_;have hk':k<ops.size:=by omega
        show (Tl ents k && L' k)=(B k||k==j);rw[hBL k hk',hL'];by_cases hkj:k=j
        .subst hkj;simp[hefj,hef]
        .simp[hkj]
       |false=>
        rw[hef] at hm';simp only[B5,if_false] at hm';rw[<-hm',<-hm];refine I8 ents 0 σ.m fun k _ hk=> ?_;show (Tl ents k && L' k)=(Tl ents k && L k);rw[hL'];by_cases hkj:k=j
        .subst hkj;simp[hefj,hef]
        .simp[hkj]
      .cases hmm
     obtain⟨m',hm1,hm2⟩:=hmm';refine⟨m',hm1,β',hv',O',?_⟩;have:=hr2.eqm (m':=m') (n:=0) (fun s=>by rw[Bb3];exact Dj3 hm2 s);rw[<-e4] at this;exact this
   .cases hcU
def lf (hC:Contract P sig fn) {own:List Nat} {rid:Nat} {Q:Exit->Act->World->Prop} {σ σ':St} {a:Act} {w:World} {η1 η2 ζ:List PV} {ws:List W} (h:Yq w0 Oe J σ a.tmps w)
  (hx:Dk7 P sig own ops rid σ=some (ws,σ')) (hw:Eb fn η1 ws=some η2) (hη:J=η2++ζ) (hn:η1.length=σ.n) (hQ:∀a' w',a'.defers=a.defers->Yq w0 Oe J σ' a'.tmps w'->Q .normal a' w'):
  (Code.region rid ops true).wp P Q a w∧η2.length=σ'.n:=by
 unfold Dk7 at hx;split at hx
 .rename_i hc;simp only[Bt] at hc;split at hx
  .rename_i σ1 _;simp only at hx;split at hx
   .rename_i ents σ2 htr;split at hx
    .rename_i hchk;simp only[Bm,B3] at hx;obtain⟨rfl,rfl⟩:=hx;obtain⟨h1,h2,h3,h4⟩:=Aj5 (fn:=fn) (J:=J) (ops:=ops) ops.toList 0 _ ents σ2 η1 η2 ζ htr hw hη hn;have hl:ents.length=ops.size:=by rw[h1];simp
     refine⟨wp_region_any hc.2 ?_,h2⟩;obtain⟨β,hv,O,hrel⟩:=h;obtain⟨O',hfrz,_⟩:=hrel.frz (R5 σ1.m) (n:=σ.n);have hrel2:=hfrz.below (w':=w.drew) ((Blw.refl _ _).drew);rw[hl] at h4;refine Dr7 (w0:=w0) (Oe:=Oe) (J:=J) hC (ds:=a.defers) hc.1 hl (fun k e he=> ?_) h4 hchk (fun a' w' hd hr=>hQ a' w' hd ?_) ops.size (Array.replicate ops.size false) a _ (by simp) ?_ ?_ rfl ?_
     .obtain⟨q1,q2,q3⟩:=h3 k e he;exact⟨by simpa using q1,q2,q3⟩
     .obtain⟨β',hv',O',r⟩:=hr;exact⟨β',hv',O',r.setN σ2.n⟩
     .have:∀(L:Nat->Bool) k,cnt L k<=k:=by
       intro L k
       induction k with
       |zero=>exact B7 _
       |succ k ih=>simp only[cnt];split<;>omega
      exact this _ _
     .intro j o ho hl;have hj:=(Dd.1 ho).1;simp[hj] at hl
     .have hno:∀i,i<ops.size->(Array.replicate ops.size false).getD i false=false:=fun i hi=>by simp[hi]
      have c1:=Dz2 (V:=Vof ents) (t0:=σ.t) (L:=fun i=>(Array.replicate ops.size false).getD i false) hno;refine⟨Ks (R5 σ1.m) σ.m,?_,β,hv,O',?_⟩
      .rw[I8 (B':=fun _=>false) ents 0 _ (fun k _ hk=>by rw[hno k (by omega),Bool.and_false])];have:∀(l:List Ent) (i:Nat) (m:List (Nat×Blk)),d5 P sig own ops rid (fun _=>false) l i m=some m:=by
        intro l
        induction l with
        |nil=>intro i m;rfl
        |cons x l ih=>intro i m;simp only[d5,B5,if_false];exact ih _ _
       exact this _ _ _
      .rw[c1 _ (B7 _)];exact hrel2.setN 0
    .cases hx
   .cases hx
  .cases hx
 .cases hx
end
def Fc9 {J:List PV} {es:List E} {vs:List PV} (h:E.evs J es=some vs) {j:Nat} {e:E} (he:es[j]? =some e):∃p,vs[j]? =some p∧e.ev J=some p:=(Pd h).2 j e he
section
variable {J ζ vs:List PV} {es:List E} {n:Nat}
def Rb (hvs:E.evs (J++ζ) es=some vs) (hn:J.length=n) {x y:E} (h:Cl9 es n x y=true) {p:PV} (hp:x.ev (J++ζ)=some p):y.ev (J++vs)=some p:=by
 have hh:∀k,k<n->(J++ζ)[k]? =(J++vs)[k]? :=fun k hk=>by rw[Cd (by omega),Cd (by omega)]
 unfold Cl9 at h;split at h
 .rename_i k;split at h
  .rename_i hk;split at h
   .rename_i e he;have:=E.same_eq _ _ h;subst this;obtain⟨q,hq,hq2⟩:=Fc9 hvs he;rw[hp] at hq2;injection hq2 with hq2;subst hq2;simp only[E.ev];rw[Cw (by omega),hn];exact hq
   .cases h
  .rename_i hk;have:=E.same_eq _ _ h;subst this;rw[<-E.ev_scp hh _ (by simp only[E.scp,decide_eq_true_eq];omega)];exact hp
 .simp only[Bt] at h;have:=E.same_eq _ _ h.1;subst this;rw[<-E.ev_scp hh _ h.2];exact hp
structure Mv (C C':Cx) (n:Nat) (R:List (Nat×SV)):Prop where
 ev:∀x:E,x.scp n=true->x.ev C'.J=x.ev C.J
 M:C.M.Le C'.M
 at_:∀s,Hf R s=none->C'.β s=C.β s∧C'.hv s=C.hv s
 arr:∀s e sz x ro xs,Hf R s=none->Cy5 C'.m s=true->mget C.m s=some (.arr e sz x ro)->x.ev C.J=some (.l sz xs)->∃e' x' ro',mget C'.m s=some (.arr e' sz x' ro')∧x'.ev C'.J=some (.l sz xs)
mutual
def Cj.mv {C C':Cx} {n:Nat} {R:List (Nat×SV)} (h:Mv C C' n R):∀(x:SV) (v:Value),x.scp n=true->x.okM C'.m R=true->Cj C x v->Cj C' x v
 | .e x,v,hs,hk,hr=>by simp only[Cj,SV.scp] at hs hr ⊢;obtain⟨p,h1,h2⟩:=hr;exact⟨p,by rw[h.ev _ hs];exact h1,h2.mono h.M⟩
 | .nil _,v,hs,hk,hr=>by simpa only[Cj] using hr
 | .lit sz x,v,hs,hk,hr=>by simp only[Cj,SV.scp] at hs hr ⊢;obtain⟨xs,a,h1,h2,h3⟩:=hr;exact⟨xs,a,by rw[h.ev _ hs];exact h1,h2,h3.mono h.M⟩
 | .may g x,v,hs,hk,hr=>by simp only[Cj,SV.scp,SV.okM,Bt] at hs hk hr ⊢;obtain⟨b,h1,h2,h3⟩:=hr;exact⟨b,by rw[h.ev _ hs.1];exact h1,fun hb=>Cj.mv h x v hs.2 hk (h2 hb),h3⟩
 | .und,v,hs,hk,hr=>by simp only[Cj]
 | .bp s off,v,hs,hk,hr=>by simp only[Cj,SV.okM,Dw] at hk hr ⊢;rw[(h.at_ s hk).1];exact hr
 | .ip x off,v,hs,hk,hr=>by simp only[Cj,SV.scp] at hs hr ⊢;obtain⟨p,h1,h2⟩:=hr;exact⟨p,by rw[h.ev _ hs];exact h1,h2.mono h.M⟩
 | .ap s i off,v,hs,hk,hr=>by simp only[Cj,SV.scp,SV.okM,Bt,Dw] at hs hk hr ⊢;obtain⟨hn,e,sz,x,ro,xs,k,iv,h1,h2,h3,h4,h5,h6⟩:=hr;obtain⟨e',x',ro',g1,g2⟩:=h.arr s e sz x ro xs hk.1 hk.2 h1 h2;exact⟨hn,e',sz,x',ro',xs,k,iv,g1,g2,by rw[h.ev _ hs];exact h3,h4,h5,by rw[(h.at_ s hk.1).1];exact h6⟩
 | .suf s i,v,hs,hk,hr=>by simp only[Cj,SV.scp,SV.okM,Bt,Dw] at hs hk hr ⊢;obtain⟨hn,e,sz,x,ro,xs,k,iv,h1,h2,h3,h4,h5,h6⟩:=hr;obtain⟨e',x',ro',g1,g2⟩:=h.arr s e sz x ro xs hk.1 hk.2 h1 h2;exact⟨hn,e',sz,x',ro',xs,k,iv,g1,g2,by rw[h.ev _ hs];exact h3,h4,h5,by rw[(h.at_ s hk.1).2];exact h6⟩
 | .h s,v,hs,hk,hr=>by simp only[Cj,SV.okM,Dw] at hk hr ⊢;rw[(h.at_ s hk).2];exact hr
 | .mh s,v,hs,hk,hr=>by simp only[Cj,SV.okM,Dw] at hk hr ⊢;rw[(h.at_ s hk).1];exact hr
 | .slf s T,v,hs,hk,hr=>by simp only[Cj,SV.okM,Dw] at hk hr ⊢;rw[(h.at_ s hk).1];exact hr
 | .nilq x,v,hs,hk,hr=>by simp only[Cj,SV.scp] at hs hr ⊢;obtain⟨sz,xs,b,h1,h2,h3⟩:=hr;exact⟨sz,xs,b,by rw[h.ev _ hs];exact h1,h2,h3⟩
 | .tup xs,v,hs,hk,hr=>by simp only[Cj,SV.scp,SV.okM] at hs hk hr ⊢;obtain⟨us,h1,h2⟩:=hr;exact⟨us,h1,Cb.mv h xs _ hs hk h2⟩
 | .ag xs,v,hs,hk,hr=>by simp only[Cj,SV.scp,SV.okM] at hs hk hr ⊢;obtain⟨us,h1,h2,h3⟩:=hr;exact⟨us,h1,h2,Cb.mv h xs _ hs hk h3⟩
 | .clo g xs,v,hs,hk,hr=>by simp only[Cj,SV.scp,SV.okM] at hs hk hr ⊢;obtain⟨us,h1,h2⟩:=hr;exact⟨us,h1,Cb.mv h xs _ hs hk h2⟩
def Cb.mv {C C':Cx} {n:Nat} {R:List (Nat×SV)} (h:Mv C C' n R):∀(xs:List SV) (us:List Value),SV.scps n xs=true->SV.okMs C'.m R xs=true->Cb C xs us->Cb C' xs us
 |[],us,hs,hk,hr=>by simpa only[Cb] using hr
 |x::xs,us,hs,hk,hr=>by simp only[Cb,SV.scps,SV.okMs,Bt] at hs hk hr ⊢;obtain⟨v,r,rfl,h1,h2⟩:=hr;exact⟨v,r,rfl,Cj.mv h x v hs.1 hk.1 h1,Cb.mv h xs r hs.2 hk.2 h2⟩
end
def Br1 {C C':Cx} {R:List (Nat×SV)} (hvs:E.evs (J++ζ) es=some vs) (hn:J.length=n) (hC:C.J=J++ζ) (hC':C'.J=J++vs) (hm:Mv C C' n R)
  (hR:∀s s',Hf R s=some (.h s')->C'.hv s=C.hv s') (hR2:∀s z,Hf R s=some (.nil z)->C'.hv s= .slice none 0 0) {x y:SV} (h:tl es n C'.m R x y=true) {v:Value} (hr:Cj C x v):Cj C' y v:=by
 unfold tl at h;split at h
 .simp only[Cj]
 .rename_i y;split at h
  .rename_i e he;obtain⟨p,hp,hpr⟩:=SV.asE_ok he hr;simp only[Cj];rw[hC] at hp;exact⟨p,by rw[hC'];exact Rb hvs hn h hp,hpr.mono hm.M⟩
  .cases h
 .rename_i s;simp only[Cj];split at h
  .rename_i s' hl;split at h
   .simp only[beq_iff_eq] at h;subst h;simp only[Cj] at hr;rw[hR s _ hl];exact hr
   .cases h
  .rename_i z hl;split at h
   .simp only[Cj] at hr;rw[hR2 s _ hl];exact hr
   .cases h
  .cases h
  .rename_i hl;split at h
   .simp only[beq_iff_eq] at h;subst h;simp only[Cj] at hr;rw[(hm.at_ _ hl).2];exact hr
   .cases h
 .simp only[Bt] at h;have:=SV.same_eq _ _ h.1.1;subst this;exact Cj.mv hm _ _ h.1.2 h.2 hr
def Rz {C C':Cx} {R:List (Nat×SV)} (hvs:E.evs (J++ζ) es=some vs) (hn:J.length=n) (hC:C.J=J++ζ) (hC':C'.J=J++vs) (hm:Mv C C' n R)
  (hR:∀s s',Hf R s=some (.h s')->C'.hv s=C.hv s') (hR2:∀s z,Hf R s=some (.nil z)->C'.hv s= .slice none 0 0):∀{xs ys:List SV},Jr es n C'.m R xs ys=true->∀{us:List Value},Cb C xs us->Cb C' ys us
 |[],[],_,us,hr=>by simpa only[Cb] using hr
 |x::xs,y::ys,h,us,hr=>by simp only[Jr,Bt] at h;simp only[Cb] at hr ⊢;obtain⟨v,r,rfl,h1,h2⟩:=hr;exact⟨v,r,rfl,Br1 hvs hn hC hC' hm hR hR2 h.1 h1,Rz hvs hn hC hC' hm hR hR2 h.2 h2⟩
 |[],_::_,h,_,_=>by simp[Jr] at h
 |_::_,[],h,_,_=>by simp[Jr] at h
end
def Mz {R:List (Nat×SV)} {s s':Nat} (h:Hf R s=some (.h s')):s'∈w6 R:=by
 induction R with
 |nil=>simp[Hf] at h
 |cons p R ih=>
  obtain⟨k,x⟩:=p;simp only[Hf] at h;split at h
  .injection h with h;subst h;simp[w6]
  .have:=ih h;cases x<;>simp[w6,this]
def wv {R:List (Nat×SV)} (hg:Z3 (w6 R)=true) {s1 s2 s':Nat} (h1:Hf R s1=some (.h s')) (h2:Hf R s2=some (.h s')):s1=s2:=by
 induction R with
 |nil=>simp[Hf] at h1
 |cons p R ih=>
  obtain⟨k,x⟩:=p;simp only[Hf] at h1 h2;have hg':Z3 (w6 R)=true:=by cases x<;>simp only[w6,Z3,Bt] at hg<;>first|exact hg|exact hg.2
  by_cases hk1:k=s1
  .by_cases hk2:k=s2
   .rw[<-hk1,<-hk2]
   .rw[if_pos hk1] at h1;rw[if_neg hk2] at h2;injection h1 with h1;subst h1;simp only[w6,Z3,Bt,Dl,List.contains_eq_mem,decide_eq_false_iff_not] at hg;exact absurd (Mz h2) hg.1
  .rw[if_neg hk1] at h1;by_cases hk2:k=s2
   .rw[if_pos hk2] at h2;injection h2 with h2;subst h2;simp only[w6,Z3,Bt,Dl,List.contains_eq_mem,decide_eq_false_iff_not] at hg;exact absurd (Mz h1) hg.1
   .rw[if_neg hk2] at h2;exact ih hg' h1 h2
section
variable {w0:Fr} {Oe:Nat->Option Nat} {J ζ vs:List PV} {es:List E} {n:Nat} {σ' σh:St} {tm:Array Value} {w:World} {β:Nat->Nat} {hv:Nat->Value} {O:Nat->Option Nat}
def Pj (R:List (Nat×SV)) (β:Nat->Nat) (s:Nat):Nat:=match Hf R s with|some (.h s')=>β s'|some _=>0|none=>β s
def T3 (R:List (Nat×SV)) (hv:Nat->Value) (s:Nat):Value:=match Hf R s with|some (.h s')=>hv s'|some _=> .slice none 0 0|none=>hv s
def Dz5 {es:List E} {n s' T':Nat} {m:List (Nat×Blk)} {R:List (Nat×SV)} {xs ys:List SV} (h:Jr es n m R xs ys=true) (hy:ys[0]? =some (.slf s' T')):xs[0]? =some (.slf s' T'):=by
 cases ys with
 |nil=>simp at hy
 |cons y ys=>
  simp only[Dm,Bm] at hy;subst hy;cases xs with
  |nil=>simp[Jr] at h
  |cons x xs=>
   simp only[Jr,tl,Bt] at h;rw[SV.same_eq _ _ h.1.1.1];rfl
def Un {m:List (Nat×Blk)} {R:List (Nat×SV)}:∀{xs ys:List SV},Jr es n m R xs ys=true->∀{j:Nat} {y:SV},ys[j]? =some y->∃x,xs[j]? =some x∧tl es n m R x y=true
 |[],[],_,j,y,hy=>by simp at hy
 |x::xs,y::ys,h,j,z,hz=>by
  simp only[Jr,Bt] at h;cases j with
  |zero=>simp at hz;subst hz;exact⟨x,rfl,h.1⟩
  |succ j=>simpa using Un h.2 (j:=j) (by simpa using hz)
 |[],_::_,h,_,_,_=>by simp[Jr] at h
 |_::_,[],h,_,_,_=>by simp[Jr] at h
def Vq {k:Nat}:∀{R:List (Nat×SV)},(R.map (·.1)).contains k=false->Hf R k=none
 |[],_=>rfl
 |(a,x)::R,h=>by simp only[Gs,List.contains_cons,y7,beq_eq_false_iff_ne,ne_eq] at h;simp only[Hf];rw[if_neg (fun e=>h.1 e.symm)];exact Vq h.2
def G7.nil {C:Cx} {sz:Nat} {vs:List Value}:∀{lk:Option (Nat×Option (Option Nat))},G7 C sz 0 vs lk
 |none=>trivial
 |some (_,none)=>trivial
 |some (_,some _)=>fun h=>absurd h (Nat.lt_irrefl 0)
def Br2 {C C':Cx} {R:List (Nat×SV)} {sz k:Nat} {us:List Value} {l:Option (Nat×Option (Option Nat))} (h1:∀s s',Hf R s=some (.h s')->C'.hv s=C.hv s') (h2:∀s z,Hf R s=some (.nil z)->C'.hv s= .slice none 0 0)
  (h3:∀s,Hf R s=none->C'.hv s=C.hv s) (hl:G7 C sz k us l):∀{l'},tn R l l'=true->G7 C' sz k us l'
 |none,_=>trivial
 |some (_,none),_=>trivial
 |some (off,some none),h=>by simp only[tn,beq_iff_eq] at h;subst h;exact hl
 |some (off,some (some s)),h=>by
  simp only[tn] at h;split at h
  .rename_i s' hs;simp only[beq_iff_eq] at h;subst h;simp only[G7] at hl ⊢;rw[h1 s s' hs];exact hl
  .rename_i z hs;simp only[beq_iff_eq] at h;subst h;simp only[G7] at hl ⊢;rw[h2 s z hs];exact hl
  .cases h
  .rename_i hs;simp only[beq_iff_eq] at h;subst h;simp only[G7] at hl ⊢;rw[h3 s hs];exact hl
def Tb {p:Pat} (h:Qy σ' σh n p=some es) (hvs:E.evs (J++ζ) es=some vs) (hn:J.length=n) (hr:Yq w0 Oe (J++ζ) σ' tm w):Yq w0 Oe (J++vs) σh tm w∧(J++vs).length=σh.n:=by
 unfold Qy at h;split at h
 .rename_i es' _;dsimp only at h;split at h
  .rename_i hc;injection h with h;subst h;simp only[Bt,beq_iff_eq,Db,Dl] at hc;obtain⟨⟨⟨⟨⟨hT,hM⟩,hg⟩,_⟩,hS0⟩,hN⟩:=hc;generalize rens σ' p.items=R at hT hM hg hS0;obtain⟨β,hv,O,rel⟩:=hr;let C:Cx:=⟨J++ζ,Cr w O,β,hv,σ'.m⟩;let C':Cx:=⟨J++vs,Cr w O,Pj R β,T3 R hv,σh.m⟩;have hh:∀k,k<n->(J++vs)[k]? =(J++ζ)[k]? :=fun k hk=>by rw[Cd (by omega),Cd (by omega)]
   have hblk:∀s b,mget σh.m s=some b->Zw es' n σh.m R σ'.m s=true:=fun s b hb=>hM (s,b) (Cw4 hb);have hmv:Mv C C' n R:=by
    refine⟨fun x hx=>E.ev_scp hh x hx,Vw.Le.refl _,fun s hs=>⟨by simp only[C',C,Pj,hs],by simp only[C',C,T3,hs]⟩,fun s e sz x ro xs hs ha hx hx2=> ?_⟩;have ha':Cy5 σh.m s=true:=ha;unfold Cy5 at ha';split at ha'
    .rename_i e' sz' y ro' hb;have hx':mget σ'.m s=some (.arr e sz x ro):=hx;have:=hblk s _ hb;unfold Zw at this;rw[hs,hx',hb] at this;simp only[Bt,beq_iff_eq] at this;obtain⟨_,⟨⟨⟨h1,h2⟩,_⟩,h3⟩,h4⟩:=this;subst h2;exact⟨e',y,ro',hb,Rb hvs hn h4 hx2⟩
    .cases ha'
   have hR1:∀s s',Hf R s=some (.h s')->C'.hv s=C.hv s':=fun s s' hl=>by simp only[C',C,T3,hl]
   have hR2:∀s z,Hf R s=some (.nil z)->C'.hv s= .slice none 0 0:=fun s z hl=>by simp only[C',T3,hl]
   have from_:∀s b,mget σh.m s=some b->Has C' s b->∃s0 b0,mget σ'.m s0=some b0∧Has C s0 b0∧Pj R β s=β s0∧((Hf R s=some (.h s0))∨(Hf R s=none∧s0=s∧s∉w6 R)):=by
    intro s b hb hhas;have:=hblk s b hb;unfold Zw at this;split at this
    .rename_i s' hl;split at this
     .rename_i e sz x ro e' sz' y ro' h1 h2;rw[hb] at h2;injection h2 with h2;subst h2;have hhas':C8 (T3 R hv s)=some (Pj R β s):=hhas;simp only[T3,Pj,hl] at hhas';exact⟨s',_,h1,hhas',by simp only[Pj,hl],.inl hl⟩
     .cases this
    .rename_i z hl;split at this
     .rename_i e sz y ro h2;rw[hb] at h2;injection h2 with h2;subst h2;have hhas':C8 (T3 R hv s)=some (Pj R β s):=hhas;simp only[T3,hl,C8] at hhas';cases hhas'
     .cases this
    .cases this
    .rename_i hl;simp only[Bt,Dl,List.contains_eq_mem,decide_eq_false_iff_not] at this;obtain⟨hgs,this⟩:=this;split at this
     .rename_i xs ro ys ro' h1 h2;exact⟨s,_,h1,trivial,by simp only[Pj,hl],.inr ⟨hl,rfl,hgs⟩⟩
     .rename_i e sz x ro e' sz' y ro' h1 h2;rw[hb] at h2;injection h2 with h2;subst h2;have hhas':C8 (T3 R hv s)=some (Pj R β s):=hhas;simp only[T3,Pj,hl] at hhas';exact⟨s,_,h1,hhas',by simp only[Pj,hl],.inr ⟨hl,rfl,hgs⟩⟩
     .rename_i x ro y ro' h1 h2;exact⟨s,_,h1,trivial,by simp only[Pj,hl],.inr ⟨hl,rfl,hgs⟩⟩
     .cases this
   have evs_len:vs.length=es'.length:=(Pd hvs).1;refine⟨⟨Pj R β,T3 R hv,O,rel.bel,rel.ext,rel.out,Rz hvs hn rfl rfl hmv hR1 hR2 hT rel.tmps,fun s b hb=> ?_,fun s1 s2 b1 b2 h1 h2 h12 k1 k2=> ?_,fun v hv0 ht=> ?_⟩,by rw[Br,hn,evs_len,hN]⟩
   .have:=hblk s b hb;unfold Zw at this;have copy:∀s' e sz x ro ro' y,mget σ'.m s'=some (.arr e sz x ro)->Cl9 es' n x y=true->(ro'.b=true∨ro.b=false)->tn R ro.lk ro'.lk=true->Pj R β s=β s'->T3 R hv s=hv s'->Kj C' w O w0.ok s (.arr e sz y ro'):=by
     intro s' e sz x ro ro' y h1 h2 hro hlk h3 h4;obtain⟨q0,xs,us,q1,q2,q3,q4,qlk⟩:=rel.mem s' _ h1;refine⟨q0,xs,us,Rb hvs hn h2 q1,?_,q3,?_,Br2 (C:=C) hR1 hR2 (fun s hs=>by simp only[C',C,T3,hs]) qlk hlk⟩
     .show Own w w0.ok e sz (T3 R hv s) xs.length us;rw[h4];exact q2
     .intro g hg';have hg2:C8 (T3 R hv s)=some g:=hg';rw[h4] at hg2;obtain⟨q5,q6⟩:=q4 g hg2;obtain⟨lim,q6,q7,q8⟩:=q6;exact⟨by show g=Pj R β s;rw[h3];exact q5,lim,q6,q7,fun hb=>q8 (hro.resolve_left (by simp[hb]))⟩
    split at this
    .rename_i s' hl;split at this
     .rename_i e sz x ro e' sz' y ro' h1 h2;rw[hb] at h2;injection h2 with h2;subst h2;simp only[Bt,beq_iff_eq,Cq,Dl] at this;obtain⟨⟨⟨⟨rfl,rfl⟩,hro⟩,hlk⟩,h3⟩:=this;exact copy s' e sz x ro ro' y h1 h3 hro hlk (by simp only[Pj,hl]) (by simp only[T3,hl])
     .cases this
    .rename_i z hl;split at this
     .rename_i e sz y ro h2;rw[hb] at h2;injection h2 with h2;subst h2;simp only[Bt,decide_eq_true_eq] at this;refine⟨this.1,[],[],Rb (p:= .l sz []) hvs hn this.2 rfl,?_,fun i x hx=>by simp at hx,fun g hg'=> ?_,G7.nil⟩
      .show Own w w0.ok e sz (T3 R hv s) 0 [];simp only[T3,hl];exact⟨by simp,.inl ⟨none,rfl,rfl⟩⟩
      .have hg2:C8 (T3 R hv s)=some g:=hg';simp only[T3,hl,C8] at hg2;cases hg2
     .cases this
    .cases this
    .rename_i hl;simp only[Bt] at this;obtain⟨_,this⟩:=this;split at this
     .rename_i xs ro ys ro' h1 h2;rw[hb] at h2;injection h2 with h2;subst h2;simp only[Bt,beq_iff_eq] at this;obtain⟨rfl,h3⟩:=this;obtain⟨q1,q2,us,T,q3,q4,q5,q6⟩:=rel.mem s _ h1;have hβ:Pj R β s=β s:=by simp only[Pj,hl]
      refine⟨by show w0.ok (Pj R β s);rw[hβ];exact q1,fun hro=>by show O (Pj R β s)=_;rw[hβ];exact q2 hro,us,T,by show w.heap[Pj R β s]? =_;rw[hβ];exact q3,q4,?_,fun s' T' hh=>q6 s' T' (Dz5 h3 hh)⟩;exact Rz hvs hn rfl rfl hmv hR1 hR2 h3 q5
     .rename_i e sz x ro e' sz' y ro' h1 h2;rw[hb] at h2;injection h2 with h2;subst h2;simp only[Bt,beq_iff_eq,Cq,Dl] at this;obtain⟨⟨⟨⟨rfl,rfl⟩,hro⟩,hlk⟩,h3⟩:=this;exact copy s e sz x ro ro' y h1 h3 hro hlk (by simp only[Pj,hl]) (by simp only[T3,hl])
     .rename_i x ro y ro' h1 h2;rw[hb] at h2;injection h2 with h2;subst h2;simp only[Bt,beq_iff_eq] at this;obtain⟨rfl,h3⟩:=this;obtain⟨q1,q2,qs,ents,clock,q3,q4,q5⟩:=rel.mem s _ h1;have hβ:Pj R β s=β s:=by simp only[Pj,hl]
      exact⟨by show w0.ok (Pj R β s);rw[hβ];exact q1,fun hro=>by show O (Pj R β s)=_;rw[hβ];exact q2 hro,qs,ents,clock,Rb hvs hn h3 q3,by show w.heap[Pj R β s]? =_;rw[hβ];exact q4,q5⟩
     .cases this
   .obtain⟨s1',c1,m1,p1,q1,r1⟩:=from_ s1 b1 h1 k1;obtain⟨s2',c2,m2,p2,q2,r2⟩:=from_ s2 b2 h2 k2;rw[q1,q2];refine rel.inj s1' s2' c1 c2 m1 m2 (fun he=> ?_) p1 p2;subst he;rcases r1 with r1|⟨_,r1,r1'⟩<;>rcases r2 with r2|⟨_,r2,r2'⟩
    .exact h12 (wv hg r1 r2)
    .exact r2' (by rw[<-r2];exact Mz r1)
    .exact r1' (by rw[<-r1];exact Mz r2)
    .exact h12 (by rw[<-r1,<-r2])
   .obtain⟨x,hx,hs⟩:=Un hT ht;have hno:Hf R S0=none:=Vq hS0;simp only[tl,hno] at hs;split at hs
    .rename_i s';simp only[beq_iff_eq] at hs;subst hs;exact rel.t0 v hv0 hx
    .cases hs
  .cases h
 .cases h
end
def Iz {fn:Fns} {N id:Nat}:∀(t:T) (J:List PV) (vs:List PV),t.yields id=false->t.ev fn N J=some (.yld id vs)->False
 | .w x k,J,vs,h,he=>by simp only[T.ev,Bl] at he;obtain⟨η',_,he⟩:=he;exact Iz k η' vs h he
 | .ite c t e,J,vs,h,he=>by
   simp only[T.yields,y7] at h;simp only[T.ev,Bl] at he;obtain⟨r,_,he⟩:=he;split at he
   .exact Iz t J vs h.1 he
   .exact Iz e J vs h.2 he
   .cases he
 | .ret es,J,vs,h,he=>by simp only[T.ev,Bp] at he;obtain⟨_,_,he⟩:=he;cases he
 | .yld j es,J,vs,h,he=>by simp only[T.ev,Bp] at he;obtain⟨_,_,he⟩:=he;injection he with h1 h2;simp only[T.yields,beq_eq_false_iff_ne,ne_eq] at h;exact h h1
 | .blk j b k,J,vs,h,he=>by
   simp only[T.yields,y7] at h;simp only[T.ev,Bl] at he;obtain⟨o,ho,he⟩:=he;split at he
   .rename_i j' us;split at he
    .exact Iz k _ vs h.2 he
    .injection he with he;injection he with h1 h2;subst h1;exact Iz b J us h.1 ho
   .cases he
 | .loop j es b,J,vs,h,he=>by
   simp only[T.ev,Bl] at he;obtain⟨st,_,he⟩:=he;have key:∀m st,Hq (fun vs=>b.ev fn N (J++vs)) j m st=some (.yld id vs)->False:=by
    intro m
    induction m with
    |zero=>intro st h;simp[Hq] at h
    |succ m ih=>
     intro st hr;simp only[Hq,Bl] at hr;obtain⟨o,ho,hr⟩:=hr;split at hr
     .rename_i j' us;split at hr
      .exact ih _ hr
      .injection hr with hr;injection hr with h1 h2;subst h1;exact Iz b _ us h ho
     .cases hr
   exact key N st he
def mj {fn:Fns} {N:Nat} {J:List PV} {o:Out}:∀{t:T},t.ev fn N J=some o->t.strip.ev fn N J=some o
 | .w (.chk x) k,h=>by simp only[T.ev,W.ev,Bl,Bp] at h;obtain⟨η',⟨_,_,rfl⟩,h⟩:=h;simp only[T.strip];exact mj h
 | .w (.call ..) k,h| .w (.clo ..) k,h| .w (.mcall ..) k,h| .ite ..,h| .ret ..,h| .yld ..,h| .blk ..,h| .loop ..,h=>h
def Cq6 {fn:Fns} {N:Nat} {J:List PV} {o:Out} {ex:E} {ta tb:T} {sz:Nat} (h:Dd9 ex ta tb=true) (hex:ex.ev J=some (.l sz [])) (hb:tb.ev fn N J=some o):ta.ev fn N J=some o:=by
 have hb':=mj hb;unfold Dd9 at h;split at h
 .rename_i sz1 s1 s2 y heq;simp only[Bt,beq_iff_eq] at h;obtain⟨⟨rfl,rfl⟩,h3⟩:=h;have:=E.same_eq _ _ h3;subst this;rw[heq] at hb';simp only[T.ev,E.evs,E.ev,hex,Bs,I0] at hb';split at hb'
  .rename_i hc;obtain⟨_,rfl,_⟩:=hc;simpa [T.ev,E.evs,E.ev] using hb'
  .simp at hb'
 .cases h
def U5 {id:Nat} {r:Option T} {t:T} (h:Z4 id r=some t):r=some t∧t.yields id=false:=by
 unfold Z4 at h;obtain⟨u,h1,h2⟩:=Bl.1 h;split at h2
 .cases h2
 .rename_i hy;injection h2 with h2;subst h2;exact⟨h1,by simpa using hy⟩
def z8 {P:Program} {Q:Exit->Act->World->Prop} {a:Act} {w:World} {c:Code} {n:Nat} (I:Nat->Act->World->Prop) (h₀:I n a w)
  (round:∀n a w,I n a w->c.wp P (Exit.then (fun a' w'=>∃m,m<n∧I m a' w') Q) a w):(Code.loop c).wp P Q a w:=by
 intro b k cs;have key:∀n a w,I n a w->∃e a' w',Q e a' w'∧Arrives P (lone (b.at a (.code c:: .inLoop c::k)) cs w) b k cs e a' w':=by
  intro n
  induction n using Nat.strongRecOn with
  |_ n ih=>
   intro a w hI;obtain⟨e,a₁,w₁,hq,harr⟩:=round n a w hI b (.inLoop c::k) cs;cases e with
   |normal=>
    obtain⟨m,hlt,hI₁⟩:=hq;obtain⟨e₂,a₂,w₂,hq₂,harr₂⟩:=ih m hlt a₁ w₁ hI₁;exact⟨e₂,a₂,w₂,hq₂,.of_steps (Steps.trans harr (.one step_inLoop)) harr₂⟩
   |exit id=>exact⟨_,a₁,w₁,hq,.pass (x:= .inLoop c) rfl (fun _ _=> .inl (by simp)) harr⟩
   |goto l=>exact⟨_,a₁,w₁,hq,.pass (x:= .inLoop c) rfl (fun _ _=> .inl (by simp)) harr⟩
   |ret=>exact⟨_,a₁,w₁,hq,.pass (x:= .inLoop c) rfl (fun _ _=> .inl (by simp)) harr⟩
   |panic ch=>exact⟨_,a₁,w₁,hq,.pass (x:= .inLoop c) rfl (fun _ _=> .inl (by simp)) harr⟩
   |outgrown=>exact⟨_,a₁,w₁,hq,.pass (x:= .inLoop c) rfl (fun _ _=> .inl (by simp)) harr⟩
 obtain⟨e,a',w',hq,harr⟩:=key n a w h₀;exact⟨e,a',w',hq,.of_steps (.one step_loop) harr⟩
def SX.exit':SX->Exit
 | .normal=> .normal
 | .exit b=> .exit b
 | .ret=> .ret
section
variable {P:Program} {sig:Nat->Option Nat} {fn:Fns} {w0:Fr} {Oe:Nat->Option Nat} {N:Nat}
def KOk (fn:Fns) (N:Nat) (w0:Fr) (Oe:Nat->Option Nat) (k:K) (J:List PV) (o:Out) (ds:List Deferred) (Q:Exit->Act->World->Prop):Prop:=
 ∀x σ' T' η' ζ a' w',k x σ'=some T'->T'.ev fn N η'=some o->η'=J++ζ->η'.length=σ'.n->Yq w0 Oe η' σ' a'.tmps w'->a'.defers=ds->Q x.exit' a' w'
def KOk.ext {k:K} {J ζ:List PV} {o:Out} {ds:List Deferred} {Q:Exit->Act->World->Prop} (h:KOk fn N w0 Oe k J o ds Q):KOk fn N w0 Oe k (J++ζ) o ds Q:=
 fun x σ' T' η' ζ' a' w' h1 h2 h3 h4 h5 h6=>h x σ' T' η' (ζ++ζ') a' w' h1 h2 (by rw[h3,Ck]) h4 h5 h6
def Yq.env {J:List PV} {σ:St} {tm:Array Value} {w:World} (h:Yq w0 Oe J σ tm w) (ζ:List PV):Yq w0 Oe (J++ζ) σ tm w:=by obtain⟨β,hv,O,h⟩:=h;exact⟨β,hv,O,h.env ζ⟩
def Dk2 {p:Pat} {σ σh:St} {k:K} {J:List PV} {o:Out} {ds:List Deferred} {Q:Exit->Act->World->Prop} {d:Nat} {body tk:T} (hev:(T.blk d body tk).ev fn N J=some o) (hn:J.length=σ.n)
  (htk:k .normal σh=some tk) (hk:KOk fn N w0 Oe k J o ds Q):
  ∃o1,body.ev fn N J=some o1∧∀(x:SX) (σ':St) (T':T) (η' ζ:List PV) (a':Act) (w':World),
   ((∃y,(Qy σ' σh σ.n p).map (.yld d)=some T'∧x=y∧y= .normal)∨Z4 d (k x σ')=some T')->T'.ev fn N η'=some o1->η'=J++ζ->η'.length=σ'.n->Yq w0 Oe η' σ' a'.tmps w'->a'.defers=ds->Q x.exit' a' w':=by
 simp only[T.ev,Bl] at hev;obtain⟨o1,ho1,hev⟩:=hev;refine⟨o1,ho1,fun x σ' T' η' ζ a' w' h1 h2 h3 h4 h5 h6=> ?_⟩;rcases h1 with⟨y,h1,rfl,rfl⟩|h1
 .obtain⟨es,ha,rfl⟩:=Bp.1 h1;simp only[T.ev,Bp] at h2;obtain⟨vs,hvs,rfl⟩:=h2;simp only[if_true] at hev;subst h3;obtain⟨g1,g2⟩:=Tb ha hvs hn h5;exact hk .normal σh tk (J++vs) vs a' w' htk hev rfl g2 g1 h6
 .obtain⟨h1,hy⟩:=U5 h1;have:o1=o:=by
   split at hev
   .rename_i j vs;split at hev
    .rename_i hj;subst hj;exact(Iz T' η' vs hy h2).elim
    .injection hev
   .injection hev
  subst this;exact hk x σ' T' η' ζ a' w' h1 h2 h3 h4 h5 h6
def O4 (hC:Contract P sig fn) {H:Hints}:∀(c:Code) (lb d:Nat) (σ:St) (k:K) (t:T) (J:List PV) (o:Out) (a:Act) (w:World) (Q:Exit->Act->World->Prop),sx P sig H c lb d σ k=some t->t.ev fn N J=some o->J.length=σ.n->Yq w0 Oe J σ a.tmps w->
  KOk fn N w0 Oe k J o a.defers Q->c.wp P Q a w
 | .skip,lb,d,σ,k,t,J,o,a,w,Q,hs,he,hn,hr,hk=>by simp only[sx] at hs;exact wp_skip (hk .normal σ t J [] a w hs he (by simp) hn hr rfl)
 | .exit id,lb,d,σ,k,t,J,o,a,w,Q,hs,he,hn,hr,hk=>by simp only[sx] at hs;exact wp_exit (hk (.exit id) σ t J [] a w hs he (by simp) hn hr rfl)
 | .ret,lb,d,σ,k,t,J,o,a,w,Q,hs,he,hn,hr,hk=>by simp only[sx] at hs;exact wp_ret (hk .ret σ t J [] a w hs he (by simp) hn hr rfl)
 | .region id ops draw,lb,d,σ,k,t,J,o,a,w,Q,hs,he,hn,hr,hk=>by
   simp only[sx] at hs;split at hs
   .rename_i ws σ' hx;obtain⟨t',hk',rfl⟩:=Bp.1 hs;rw[lr] at he;obtain⟨η2,hw,he⟩:=Bl.1 he;obtain⟨ζ,rfl⟩:=I9 hw;cases draw with
    |true=>
     simp only[if_true] at hx;refine(lf (w0:=w0) (Oe:=Oe) hC (hr.env ζ) hx hw (ζ:=[]) (by simp) hn (Q:=Q) (fun a' w' hd hr'=> ?_)).1;have hlen:=(lf (w0:=w0) (Oe:=Oe) (a:=a) (w:=w) (Q:=fun _ _ _=>True) hC (hr.env ζ) hx hw (ζ:=[]) (by simp) hn (fun _ _ _ _=>trivial)).2;exact hk .normal σ' t' _ ζ a' w' hk' he rfl hlen hr' hd
    |false=>
     simp only[B5,if_false] at hx;refine wp_region ?_;have:=zj (w0:=w0) (Oe:=Oe) hC (Q:=Q) ops.toList 0 σ a w J (J++ζ) [] ws σ' (fun k o hk=>by simpa using hk) (hr.env ζ) hx hw (by simp) hn (fun a' w' hd hr'=>hk .normal σ' t' _ ζ a' w' hk' he rfl (lc _ _ _ _ _ _ _ hx hw hn) hr' hd);rw[List.range_eq_range'];simpa using this
   .split at hs
    .injection hs with hs;subst hs;simp[T.bot,T.ev,E.evs,E.ev,PV.scal] at he
    .cases hs
 | .seq x y,lb,d,σ,k,t,J,o,a,w,Q,hs,he,hn,hr,hk=>by
   simp only[sx] at hs;refine wp_seq (O4 hC x lb d σ _ t J o a w _ hs he hn hr fun z σ' T' η' ζ a' w' h1 h2 h3 h4 h5 h6=> ?_);cases z with
   |normal=>
    simp only at h1;show y.wp P Q a' w';refine O4 hC y lb d σ' k T' η' o a' w' Q h1 h2 h4 h5 ?_;rw[h6,h3];exact hk.ext
   |exit b=>exact hk _ σ' T' η' ζ a' w' h1 h2 h3 h4 h5 h6
   |ret=>exact hk _ σ' T' η' ζ a' w' h1 h2 h3 h4 h5 h6
 | .cond c x y,lb,d,σ,k,t,J,o,a,w,Q,hs,he,hn,hr,hk=>by
   have hbool:∀ec,Gx P σ none 0 c=some ec->∀b,ec.ev J=some (.b b)->a.eval c= .bool b:=by intro ec hec b hb;obtain⟨β,hv,O,rel⟩:=hr;obtain⟨p,hp,hpr⟩:=Ey (ds:=a.defers) (C:=⟨J,Cr w O,β,hv,σ.m⟩) (G:=none) (fun g hg=>by cases hg) rfl hec rel.tmps;have hp':ec.ev J=some p:=hp;rw[hb] at hp';injection hp' with hp';subst hp';exact hpr.bool
   have plain:∀ec ta tb,Gx P σ none 0 c=some ec->∀(k':K) (d':Nat) (o':Out),sx P sig H x lb d' σ k'=some ta->sx P sig H y lb d' σ k'=some tb->(T.ite ec ta tb).ev fn N J=some o'->KOk fn N w0 Oe k' J o' a.defers Q->(Code.cond c x y).wp P Q a w:=by
    intro ec ta tb hec k' d' o' hta htb he' hk';simp only[T.ev,Bl] at he';obtain⟨r,hr',he'⟩:=he';split at he'
    .exact wp_cond_true (hbool ec hec true hr') (O4 hC x lb d' σ k' ta J o' a w Q hta he' hn hr hk')
    .exact wp_cond_false (hbool ec hec false hr') (O4 hC y lb d' σ k' tb J o' a w Q htb he' hn hr hk')
    .cases he'
   simp only[sx] at hs;split at hs
   .rename_i hec;exact wp_cond_true (hbool _ hec true rfl) (O4 hC x lb d σ k t J o a w Q hs he hn hr hk)
   .rename_i hec;exact wp_cond_false (hbool _ hec false rfl) (O4 hC y lb d σ k t J o a w Q hs he hn hr hk)
   .rename_i ec _ _ hec;split at hs
    .split at hs
     .rename_i ta tb hta htb;injection hs with hs;subst hs;exact plain ec ta tb hec k d o hta htb he hk
     .cases hs
    .rename_i p _;split at hs
     .cases hs
     .rename_i σh _;split at hs
      .rename_i ta tb tk hta htb htk;injection hs with hs;subst hs;obtain⟨o1,ho1,hgo⟩:=Dk2 (p:=p) he hn htk hk;refine plain ec ta tb hec _ (d+1) o1 hta htb ho1 fun z σ' T' η' ζ a' w' h1 h2 h3 h4 h5 h6=>hgo z σ' T' η' ζ a' w' ?_ h2 h3 h4 h5 h6;cases z with
       |normal=>exact .inl ⟨.normal,h1,rfl,rfl⟩
       |exit b=>exact .inr h1
       |ret=>exact .inr h1
      .cases hs
   .split at hs
    .rename_i ex hq;split at hs
     .rename_i ta tb hta htb;split at hs
      .rename_i hnil;injection hs with hs;subst hs;obtain⟨sz,xs,b,hex,hcb,hxs⟩:∃sz xs b,ex.ev J=some (.l sz xs)∧a.eval c= .bool b∧(b=true->xs=[]):=by obtain⟨β,hv,O,rel⟩:=hr;have hr0:=Fw (ds:=a.defers) (C:=⟨J,Cr w O,β,hv,σ.m⟩) (G:=none) (fun g hg=>by cases hg) rfl hq rel.tmps;simpa only[Cj] using hr0
       cases b with
       |true=>
        rw[hxs rfl] at hex;exact wp_cond_true hcb (O4 hC x lb d σ k ta J o a w Q hta (Cq6 hnil hex he) hn hr hk)
       |false=>exact wp_cond_false hcb (O4 hC y lb d σ k _ J o a w Q htb he hn hr hk)
      .cases hs
     .cases hs
    .cases hs
 | .block id c,lb,d,σ,k,t,J,o,a,w,Q,hs,he,hn,hr,hk=>by
   simp only[sx] at hs;split at hs
   .refine wp_block (O4 hC c id d σ _ t J o a w _ hs he hn hr fun z σ' T' η' ζ a' w' h1 h2 h3 h4 h5 h6=> ?_);cases z with
    |normal=>exact hk .normal σ' T' η' ζ a' w' h1 h2 h3 h4 h5 h6
    |exit b=>
     simp only at h1;simp only[SX.exit',Exit.inBlock];by_cases hb:b=id
     .rw[if_pos hb] at h1 ⊢;exact hk .normal σ' T' η' ζ a' w' h1 h2 h3 h4 h5 h6
     .rw[if_neg hb] at h1 ⊢;exact hk (.exit b) σ' T' η' ζ a' w' h1 h2 h3 h4 h5 h6
    |ret=>exact hk .ret σ' T' η' ζ a' w' h1 h2 h3 h4 h5 h6
   .rename_i p _;split at hs
    .cases hs
    .rename_i σh _;split at hs
     .rename_i tc tk htc htk;injection hs with hs;subst hs;obtain⟨o1,ho1,hgo⟩:=Dk2 (p:=p) he hn htk hk;refine wp_block (O4 hC c id (d+1) σ _ tc J o1 a w _ htc ho1 hn hr fun z σ' T' η' ζ a' w' h1 h2 h3 h4 h5 h6=> ?_);cases z with
      |normal=>exact hgo .normal σ' T' η' ζ a' w' (.inl ⟨.normal,h1,rfl,rfl⟩) h2 h3 h4 h5 h6
      |exit b=>
       simp only at h1;simp only[SX.exit',Exit.inBlock];by_cases hb:b=id
       .rw[if_pos hb] at h1 ⊢;exact hgo .normal σ' T' η' ζ a' w' (.inl ⟨.normal,h1,rfl,rfl⟩) h2 h3 h4 h5 h6
       .rw[if_neg hb] at h1 ⊢;exact hgo (.exit b) σ' T' η' ζ a' w' (.inr h1) h2 h3 h4 h5 h6
      |ret=>exact hgo .ret σ' T' η' ζ a' w' (.inr h1) h2 h3 h4 h5 h6
     .cases hs
 | .loop c,lb,d,σ,k,t,J,o,a,w,Q,hs,he,hn,hr,hk=>by
   simp only[sx] at hs;split at hs
   .cases hs
   .rename_i p _;split at hs
    .cases hs
    .rename_i σh _;split at hs
     .rename_i es tb ha htb;injection hs with hs;subst hs;simp only[T.ev,Bl] at he;obtain⟨st,hst,he⟩:=he;have h0:=Tb (J:=J) (ζ:=[]) (vs:=st) ha (by simpa using hst) hn (by simpa using hr);refine z8 (n:=N) (fun m a' w'=>∃st,Hq (fun vs=>tb.ev fn N (J++vs)) d m st=some o∧Yq w0 Oe (J++st) σh a'.tmps w'∧(J++st).length=σh.n∧a'.defers=a.defers) ⟨st,he,h0.1,h0.2,rfl⟩ ?_;rintro m a1 w1 ⟨st1,hround,hr1,hn1,hd1⟩;cases m with
      |zero=>simp[Hq] at hround
      |succ m=>
       simp only[Hq,Bl] at hround;obtain⟨o1,ho1,hround⟩:=hround;refine O4 hC c lb (d+1) σh _ tb (J++st1) o1 a1 w1 _ htb ho1 hn1 hr1 fun z σ' T' η' ζ a' w' h1 h2 h3 h4 h5 h6=> ?_;have other:Z4 d (k z σ')=some T'->Q z.exit' a' w':=by
        intro h1;obtain⟨h1,hy⟩:=U5 h1;have:o1=o:=by
         split at hround
         .rename_i j vs;split at hround
          .rename_i hj;subst hj;exact(Iz T' η' vs hy h2).elim
          .injection hround
         .injection hround
        subst this;exact hk z σ' T' η' (st1++ζ) a' w' h1 h2 (by rw[h3,Ck]) h4 h5 (by rw[h6,hd1])
       cases z with
       |normal=>
        simp only at h1;obtain⟨es1,ha1,rfl⟩:=Bp.1 h1;simp only[T.ev,Bp] at h2;obtain⟨vs,hvs,rfl⟩:=h2;simp only[if_true] at hround;rw[Ck] at h3;subst h3;obtain⟨g1,g2⟩:=Tb ha1 hvs hn h5;exact⟨m,Nat.lt_succ_self m,vs,hround,g1,g2,by rw[h6,hd1]⟩
       |exit b=>exact other h1
       |ret=>exact other h1
     .cases hs
 | .scope ..,lb,d,σ,k,t,J,o,a,w,Q,hs,_,_,_,_=>by simp[sx] at hs
 | .label ..,lb,d,σ,k,t,J,o,a,w,Q,hs,_,_,_,_=>by simp[sx] at hs
 | .goto ..,lb,d,σ,k,t,J,o,a,w,Q,hs,_,_,_,_=>by simp[sx] at hs
 | .rangeFunc ..,lb,d,σ,k,t,J,o,a,w,Q,hs,_,_,_,_=>by simp[sx] at hs
 | .refuse ..,lb,d,σ,k,t,J,o,a,w,Q,hs,_,_,_,_=>by simp[sx] at hs
end
end Go.X
