/- Operations, ninth part: slice literals, make. -/
import Derived.Test.YtjjbngkgndckcaaGreatDoorValidateAnswersG0
import Derived.Lib.AppendZerosOnto
import Derived.Lib.Builder
import Derived.Lib.AppendStr
import Derived.Lib.UnsafeStr
import Derived.Lib.Strings
import Derived.Lib.Walk
import Derived.WalkKit
import Derived.Laws.Externs
import Derived.OwnWalk
import Derived.MapKept
open Array renaming getElem?_toList->B9,getD_eq_getD_getElem?->Cg,length_toList->Dv,toArray_toList->D9,getElem?_eq_some_iff->El,getElem?_append_left->Em,getElem?_eq_getElem->E8,size_append->P2,toList_append->T9,getElem?_modify->rj,getElem?_range->Bb2,getElem?_map->Ik2,append_empty->Ik3
open Bool renaming eq_false_or_eq_true->Bm,and_eq_true->Bt,false_eq_true->B5,or_eq_true->Cz,not_eq_true'->Dp,true_and->F0,eq_iff_iff->G3,false_or->Hb,and_true->Mc,not_true->qd,not_eq_false->zn,or_eq_false_iff->Bb1
open Int renaming toNat_natCast->Eg,le_refl->Yh
open List renaming length_append->Bp,getElem?_eq_some_iff->Br,getElem?_eq_getElem->B3,mem_of_getElem?->B6,length_cons->Cq,length_take->Cv,append_assoc->Cy,getElem?_append_right->Cf,mem_cons->Ch,mem_singleton->Cl,getElem?_append_left->Cm,length_drop->Cn,getElem?_take->Cp,length_nil->Cs,length_pos_iff->Ct,eq_nil_of_length_eq_zero->C1,getD_eq_getElem?_getD->C4,getElem?_map->Dk,mem_append->Dw,getElem?_range->Dn,all_eq_true->Ds,getElem?_cons_zero->D7,mem_append_right->Ej,flatMap_cons->Er,getElem?_set->E4,mem_filter->Fp,getElem?_cons_succ->Fs,mem_append_left->F3,getElem?_of_mem->F4,mem_cons_self->Gm,map_cons->G2,length_singleton->Hw,length_replicate->Hy,getElem_mem->H1,mem_range->Ih,length_set->I6,getLast?_eq_getElem?->Jx,mem_cons_of_mem->Kw,size_toArray->K2,getElem?_replicate->K3,all_cons->Mb,take_left->Um,filter_cons->Un,length_range->zm,take_take->Bz8,mem_map->Dm0
open Nat renaming le_refl->B7,mul_le_mul_right->C0,zero_le->Dz,add_mul->Dl,le_trans->Ep,mod_eq_of_lt->Fj,one_mul->Gh,lt_of_lt_of_le->Gl,add_zero->G6,mul_comm->Hg,zero_add->Ig,mul_le_mul->Kv,mul_add_mod->ic,min_eq_left->ig,sub_self->Dl7
open Option renaming bind_eq_some_iff->Bl,map_eq_some_iff->Bs,bind_some->B0,map_some->Cc,isSome_iff_exists->Dt,isNone_iff_eq_none->D5,getD_some->Ez
open Option.some renaming injEq->Bn
open Prod.mk renaming injEq->B4
set_option maxHeartbeats 1000000
set_option linter.defProp false
set_option linter.unusedVariables false
set_option linter.unusedSimpArgs false
namespace Go.X
open Go Go.RowKit
section
variable {P:Program} {w0:Fr} {Oe:Nat->Option Nat} {J:List PV} {U:St} {a:Act} {tm:Array Value} {w:World} {K:Nat->Nat} {hv:Nat->Value} {O:Nat->Option Nat} {G:Option E} {o:Oper} {ws:List W}
def Qw (w:World) (t e:TypeId) (len:Nat) (parts:Array (Nat×Value)) (vs:List Value) (ie:TypeInfo) (z:Value)
  (hu:P.underlying t=some (.slice e)) (hie:P.info? e=some ie) (hz:ie.zero=some z) (hsmall:len*ie.size<=16777216) (hpos:0<ie.size) (hl:vs.length=len) (h1:∀v,v∈vs->v.cells.size=ie.size)
  (hp:parts.toList=(vs.zipIdx 0).map fun x=>(x.2,x.1)):
  (Instr.buildSlice t len parts).run P w= .ok (.slice (some ⟨w.heap.size,0,none⟩) len len) (w.alloc (.cells (vs.flatMap fun v=>v.cells.toList).toArray e)):=by
 by_cases h0:len=0
 .subst h0;have hvs:vs=[]:=C1 hl;subst hvs;have hpe:parts= #[]:=by rw[<-D9 (xs:=parts),hp];rfl
  subst hpe;simp[Instr.buildSlice,run_underlying hu,sizeOf,typeInfo,hie,Instr.fill,newRow];congr 2;exact Array.eq_empty_of_size_eq_zero (by simp)
 .have hlp:0<len*ie.size:=Nat.mul_pos (by omega) hpos;refine run_buildSlice w t e len parts _ ie z hu hie hz (by omega) (by omega) ?_;rw[hp];exact Great.fill_whole hpos vs _ h1 (by simp[hl])
def Wt:∀{cs:List SV} {k j:Nat},Q1 cs k=some j->k<=j∧∃n,cs[j - k]? =some (.nil n)
 |[],_,_,h=>by cases h
 | .nil n::r,k,j,h=>by simp only[Q1,Bn] at h;subst h;exact⟨B7 _,n,by simp⟩
 | .e _::r,k,j,h| .lit _ _::r,k,j,h| .may _ _::r,k,j,h| .und::r,k,j,h| .bp _ _::r,k,j,h| .ip _ _::r,k,j,h| .ap _ _ _::r,k,j,h
 | .suf _ _::r,k,j,h| .h _::r,k,j,h| .mh _::r,k,j,h| .tup _::r,k,j,h| .ag _::r,k,j,h| .clo _ _::r,k,j,h| .nilq _::r,k,j,h| .slf _ _::r,k,j,h=>by obtain⟨h1,n,h2⟩:=Wt (cs:=r) (k:=k+1) h;exact⟨by omega,n,by rw[show j - k=j - (k+1)+1 by omega];simpa using h2⟩
def W5 {m:List (Nat×Blk)} {e:TypeId}:∀{svs:List SV} {ws:List W},Ng P m e svs=some ws->∀sv,sv∈svs->∀w1 cs,cellsOf P m e sv=some (w1,cs)->∀x,x∈w1->x∈ws
 |[],_,_,sv,h=>by cases h
 |y::r,ws,h,sv,hs=>by
  intro w1 cs hc x hx;unfold Ng at h;split at h
  .rename_i wy _ ws' h1 h2;injection h with h;subst h;rcases Ch.1 hs with rfl|hs
   .rw[h1] at hc;simp only[Bn,B4] at hc;obtain⟨rfl,_⟩:=hc;exact F3 _ hx
   .exact Ej _ (W5 h2 sv hs w1 cs hc x hx)
  .cases h
def Ey0 {C:Cx} {m:List (Nat×Blk)} {e:TypeId} {svs:List SV} {us:List Value} {ws1:List W} (hm:C.m=m) (hel:Ng P m e svs=some ws1) (hk:∀x,W.chk x∈ws1->∃p,x.ev C.J=some p)
  (harr:∀s e sz x ro,mget m s=some (.arr e sz x ro)->One (C.hv s)) (hr:Cd C svs us) (hcells:∀v,v∈us->v.cells.size=Cj P e) (hpos:0<Cj P e) (C':Cx):
  Hr C' (Cj P e) us.length (us.flatMap fun v=>v.cells.toList) (Ey1 P m e svs):=by
 unfold Ey1;split
 .rename_i sv hsv;split
  .rename_i w1 cs hc;cases hf:Q1 cs 0 with
   |none=>trivial
   |some k=>
    obtain⟨_,n,hn⟩:=Wt hf;simp only[Cc,Hr];intro hlen;rw[Jx] at hsv;obtain⟨v,hv,hrv⟩:=hr.get _ _ hsv;obtain⟨c1,c2,c3,c4⟩:=J9 hm hc (fun x hx=>hk x (W5 hel sv (B6 hsv) w1 cs hc _ hx)) harr hrv;obtain⟨u,hu,hru⟩:=c4.get _ _ hn;simp only[Cw] at hru;subst hru;rw[hr.length] at hv;have hkl:k<Cj P e:=by have:=(Br.1 hu).1;simp at this;omega
    rw[Great.flat_get hpos us hcells];have e1:((us.length - 1)*Cj P e+k) / Cj P e=us.length - 1:=by rw[Hg,Nat.mul_add_div hpos,Nat.div_eq_of_lt hkl,G6]
    have e2:((us.length - 1)*Cj P e+k) % Cj P e=k:=by rw[Hg,ic,Fj hkl]
    rw[e1,e2,hv];simpa using hu
  .trivial
 .trivial
def Qz {t e:TypeId} {len:Nat} {parts:Array (Nat×Operand)} {tf:Nat->TypeId} {zs:List SV} {vs:List (Nat×SV)} {ws1:List W} {es:List E} {ss:List Nat} {s:Nat} {own:Bool} {r:SV} {F:Eff} (ho:o.op= .buildSlice t len parts) (ht:P.underlying t=some (.slice e))
  (h:Rel w0 Oe J U a.tmps w K hv O) (hG:GOk J G) (hz:Jd P e=some zs) (hvs:Cm1 P U G tf parts.toList=some vs) (hr0:vs.map (·.1)=List.range len) (hsm:len*Cj P e<=16777216) (hsz:Cj P e≠0)
  (hel:Ng P U.m e (vs.map (·.2))=some ws1) (hes:Aj7 U.m (vs.map (·.2))=some (es,ss)) (hk:Chk J (ws1++[.chk (.lit (Cj P e) es)]))
  (hres:own=false∧r= .lit (Cj P e) (.lit (Cj P e) es)∧F=⟨Mn ss U.m,U.n,none⟩∨own=true∧r= .h s∧∃lk,F=H0 (Mn ss U.m) U.n s (.arr e (Cj P e) (.lit (Cj P e) es) ⟨false,lk⟩)∧(lk=none∨lk=Ey1 P U.m e (vs.map (·.2)))):
  Fc P o a w (Ix w0 Oe J U a.tmps F r):=by
 let C:Cx:=⟨J,C5 w O,K,hv,U.m⟩;obtain⟨i,z,hi,hzz,hzs,_,_⟩:=H2 (C:=C) hz;have his:Cj P e=i.size:=by simp[Cj,hi]
 have hparts:=uj (C:=C) rfl hG h.tmps hvs;obtain⟨p1,p2⟩:=hparts.svs;let us:=(parts.toList.map fun p=>(p.1,a.eval p.2)).map (·.2);have hlen:us.length=len:=by
  have e1:(vs.map (·.1)).length=len:=by rw[hr0];simp
  rw[p2] at e1;simpa [us] using e1
 have hcells:=ay (C:=C) rfl h.oneH hel (fun x hx=>hk x (F3 _ hx)) p1;have hpz:(parts.map fun (i,x)=>(i,a.eval x)).toList=(us.zipIdx 0).map fun x=>(x.2,x.1):=by
  have e1:(parts.map fun (i,x)=>(i,a.eval x)).toList=parts.toList.map fun p=>(p.1,a.eval p.2):=by simp
  rw[e1];refine im _ 0 ?_;rw[<-p2,hr0,List.range_eq_range'];congr 1;rw[<-hlen];simp[us]
 have hrun:=Qw w t e len _ us i z ht hi hzz (by rw[<-his];exact hsm) (by omega) hlen (fun v hv=>by rw[<-his];exact(hcells v hv).1) hpz;obtain⟨O',hrel,hM,hop,_⟩:=h.frz ss (n:=U.n);obtain⟨ps,q1,q2,q3⟩:=U9 h hM hes p1 (fun s hs=>hop s (by simpa using hs));obtain⟨q,hq⟩:=hk (.lit (Cj P e) es) (by simp);have hq':=hq;simp only[E.ev,q1,B0,Lf] at hq';split at hq'
 .rename_i hok;injection hq' with hq';have hel':=Bv2 (M:=C5 w O') (by omega) (q2.trans rfl) hok hcells q3;let cells:=(us.flatMap fun v=>v.cells.toList).toArray;have hpl:ps.length=len:=q2.trans hlen;have hbel:Blw w.heap.size w (w.alloc (.cells cells e)):=(Blw.refl _ _).alloc (B7 _) _;have hcs:cells.size=len*Cj P e:=by
   have:∀l:List Value,(∀v,v∈l->v.cells.size=Cj P e)->(l.flatMap fun v=>v.cells.toList).length=l.length*Cj P e:=by
    intro l
    induction l with
    |nil=>intro _;simp
    |cons v l ih=>
     intro hl;rw[Er,Bp,ih (fun u hu=>hl u (.tail _ hu)),Dv,hl v (.head _),Cq,Dl,Gh,Nat.add_comm]
   have e1:=this us (fun v hv=>(hcells v hv).1);rw[hlen] at e1;simpa [cells] using e1
  rcases hres with⟨_,rfl,rfl⟩|⟨_,rfl,lk,rfl,hlk⟩
  .have hrel2:=hrel.below hbel;have hM2:(C5 w O').Le (C5 (w.alloc (.cells cells e)) O'):=Ir (fun c hc _=>hbel.block c hc) (fun c _ lim hl=>⟨lim,hl,B7 _⟩) (fun c _ hn=>hn);have hout:O' w.heap.size=none:=hrel.out _ (B7 _);refine Fc.value (v:= .slice (some ⟨w.heap.size,0,none⟩) len len) (w':=w.alloc (.cells cells e)) ?_ ⟨K,hv,O',hrel2,?_⟩
   .simp only[execOp,ho,Sem.run_bind,hrun,Result.andThen];rfl
   .simp only[Cw];refine⟨ps,some ⟨w.heap.size,0,none⟩,hq.trans (by rw[<-hq']),by rw[hpl],?_⟩;rw[<-hpl];have get:∀(i:Nat) (x:PV) (j:Nat) (c:PV),ps[i]? =some x->x.cells[j]? =some c->∃u,cells[i*Cj P e+j]? =some u∧One u∧Rep (C5 w O') c u:=by intro i x j c hx hc;obtain⟨u,g1,g2,g3⟩:=(hel' i x hx).2 j c hc;exact⟨u,(List.getElem?_toArray ..).trans g1,g2,g3⟩
    refine .l _ _ _ _ ⟨w.heap.size,0,none⟩ (fun i j=>cells.getD (i*Cj P e+j) undef) (B7 _) (fun _=>rfl) (fun i x hx=>(hel' i x hx).1) (fun i x j c hx hc=> ?_) (fun i x j c hx hc=> ?_) (fun i x j c hx hc=> ?_)
    .obtain⟨u,g1,g2,g3⟩:=get i x j c hx hc;rw[add_lit];refine F8 ?_ fun lim hl=> ?_
     .have:(w.alloc (.cells cells e)).cell? ⟨w.heap.size,0+(i*Cj P e+j),none⟩=cells[0+(i*Cj P e+j)]? :=cell_of_row _ _ _ cells e (0,0) (heap_alloc_new w _);rw[this,Ig,g1];simp[Cg,g1]
     .rw[show O' w.heap.size=none from hout] at hl;cases hl
    .obtain⟨u,g1,g2,g3⟩:=get i x j c hx hc;simp only[Cg,g1,Ez];exact g2
    .obtain⟨u,g1,g2,g3⟩:=get i x j c hx hc;simp only[Cg,g1,Ez];exact g3.mono hM2
  .have hown:=Own.of (World.ownsRow_lit (e:=e) (size:=Cj P e) (base:=w.heap.size) w cells len (B7 _) (by have h1:len*1<=len*Cj P e:=Nat.mul_le_mul_left _ (by omega);simp only[maxLen];omega) hcs);obtain⟨β',hv',O'',r1,r2⟩:=hrel.ownNew (n:=U.n) (s:=s) (e:=e) (sz:=Cj P e) (x:= .lit (Cj P e) es) (v:= .slice (some ⟨w.heap.size,0,none⟩) len len) (xs:=ps) (vs:=us.flatMap fun v=>v.cells.toList) hbel (by simp)
    (fun g hg=>by simp only[Dd] at hg;split at hg<;>simp at hg;exact hg.symm) (by omega) (hq.trans (by rw[<-hq'])) (by rw[hpl];simpa [cells] using hown) hel' (ro:=⟨false,lk⟩) (fun C'=>by
     rcases hlk with rfl|rfl
     .trivial
     .rw[hpl,<-hlen];exact Ey0 (C:=C) rfl hel (fun x hx=>hk x (F3 _ hx)) h.oneH p1 (fun v hv=>(hcells v hv).1) (by omega) C')
   refine Fc.value (v:= .slice (some ⟨w.heap.size,0,none⟩) len len) (w':=w.alloc (.cells cells e)) ?_ ⟨β',hv',O'',r1,?_⟩
   .simp only[execOp,ho,Sem.run_bind,hrun,Result.andThen];rfl
   .simp only[Cw];exact r2.symm
 .cases hq'
end
section
variable {P:Program} {w0:Fr} {Oe:Nat->Option Nat} {J:List PV} {U:St} {a:Act} {tm:Array Value} {w:World} {K:Nat->Nat} {hv:Nat->Value} {O:Nat->Option Nat} {G:Option E} {o:Oper} {ws:List W}
def Src (w:World) (O:Nat->Option Nat) (sz:Nat) (ys:List PV) (v:Value) (news:List Value):Prop:=
 news.length=ys.length*sz∧(∀u,u∈news->One u)∧J5 (C5 w O) sz ys news∧∃b c,v= .slice b ys.length c∧(ys≠[]->∃ad,b=some ad∧∀j u,news[j]? =some u->w.cell? (ad.add j)=some u)
def Cv0 {sz:Nat} {ys:List PV} {v:Value} (hsz:0<sz) (hr:Rep (C5 w O) (.l sz ys) v):∃news,Src w O sz ys v news:=by
 cases hr with
 |l _ _ b cap ad el hc hb hs hM h1 hh=>
  have each:∀k,k<ys.length*sz->∃y c,ys[k / sz]? =some y∧y.cells[k % sz]? =some c:=by intro k hk;have hi:k / sz<ys.length:=Nat.div_lt_of_lt_mul (by rw[Hg];exact hk);have hy:ys[k / sz]? =some ys[k / sz]:=B3 hi;have hl:=hs _ _ hy;exact⟨_,_,hy,B3 (by rw[hl];exact Nat.mod_lt _ hsz)⟩
  refine⟨(List.range (ys.length*sz)).map fun k=>el (k / sz) (k % sz),by simp,fun u hu=> ?_,fun i x hx=>⟨hs i x hx,fun j c hcj=> ?_⟩,b,cap,rfl,fun hne=>⟨ad,hb hne,fun j u hu=> ?_⟩⟩
  .simp only[Dm0,Ih] at hu;obtain⟨k,hk,rfl⟩:=hu;obtain⟨y,c,hy,hc'⟩:=each k hk;exact h1 _ _ _ _ hy hc'
  .have hj:j<sz:=by rw[<-hs i x hx];exact(Br.1 hcj).1
   have hi:=(Br.1 hx).1;have hlt:i*sz+j<ys.length*sz:=by have:(i+1)*sz<=ys.length*sz:=C0 _ hi;rw[Dl,Gh] at this;omega
   have e1:(i*sz+j) / sz=i:=by rw[Hg,Nat.mul_add_div hsz,Nat.div_eq_of_lt hj,G6]
   have e2:(i*sz+j) % sz=j:=by rw[Hg,ic,Fj hj]
   refine⟨el i j,?_,h1 i x j c hx hcj,hh i x j c hx hcj⟩;rw[Dk,Dn hlt];simp only[Cc,e1,e2]
  .simp only[Dk,Bs] at hu;obtain⟨k,hk,rfl⟩:=hu;have hk1:=(Br.1 hk).1;simp only[zm] at hk1;rw[Dn hk1] at hk;injection hk with hk;subst hk;obtain⟨y,c,hy,hc'⟩:=each j hk1;have:=(M1 (hM _ _ _ _ hy hc')).1;rwa[show j / sz*sz+j % sz=j by rw[Hg];exact Nat.div_add_mod j sz] at this
def Fn0 {s e sz:Nat} {y:E} {ro:Ro} {ys:List PV} (h:Rel w0 Oe J U tm w K hv O) (hb:mget U.m s=some (.arr e sz y ro)) (hy:y.ev J=some (.l sz ys)):∃news,Src w O sz ys (hv s) news∧Hr ⟨J,C5 w O,K,hv,U.m⟩ sz ys.length news ro.lk:=by
 obtain⟨h0,xs,vs,g1,g2,g3,g4,g5⟩:=h.mem s _ hb;have g1':y.ev J=some (.l sz xs):=g1;rw[hy] at g1';injection g1' with g1';injection g1' with _ g1';subst g1';have hl:=g2.1;refine⟨vs,⟨hl,fun u hu=> ?_,g3,?_⟩,g5⟩
 .obtain⟨k,hk⟩:=F4 hu;have hk1:=(Br.1 hk).1;rw[hl] at hk1;have hi:k / sz<ys.length:=Nat.div_lt_of_lt_mul (by rw[Hg];exact hk1);obtain⟨l1,l2⟩:=g3 (k / sz) _ (B3 hi);obtain⟨u',m1,m2,_⟩:=l2 (k % sz) _ (B3 (by rw[l1];exact Nat.mod_lt _ h0));rw[show k / sz*sz+k % sz=k by rw[Hg];exact Nat.div_add_mod k sz,hk] at m1;injection m1 with m1;subst m1;exact m2
 .rcases g2.2 with⟨b,e1,e2⟩|⟨g,cap,cur,e1,e1c,_⟩
  .exact⟨b,0,by rw[e2];exact e1,fun hne=>absurd (C1 e2) hne⟩
  .exact⟨_,cap,e1,fun _=>⟨_,rfl,fun j u hu=>g2.cells (g:=g) (by rw[e1];simp only[Dd,if_neg (show¬cap=0 by omega)]) j u hu⟩⟩
def Tl (t ty e:TypeId) (i:TypeInfo) (z:Value) (ht:P.underlying t=some (.slice e)) (hi:P.info? e=some i) (hz:i.zero=some z)
  (b:Option Addr) (ad:Addr) (n c:Nat) (news:List Value) (hl:news.length=n*i.size) (hnews:∀j v,news[j]? =some v->w.cell? (ad.add j)=some v)
  (h0:0<n) (h63:(n:Int)<=9223372036854775807) (h48:n*i.bytes<=281474976710656):
  (Builtin.append_ #[t,t] ty #[.slice b 0 0,.slice (some ad) n c]).run P w=
   .ok (.slice (some ⟨w.heap.size,0,none⟩) n (grownCap w n 0 e)) (w.drew.alloc (.cells (news.toArray++Builtin.zeroCells z.cells (grownCap w n 0 e - n)) e)):=by
 cases b with
 |none=>exact run_append_nil w t ty e i z ht hi hz ad n c news hl hnews h0 h63 h48
 |some b=>
  have hn:n≠0:=by omega
  have h63':¬(9223372036854775807<(n:Int)):=by omega
  have h48':¬(281474976710656<Builtin.nextslicecap n 0*i.bytes):=by rw[nextslicecap_zero h0];omega
  have hf:=run_firstCells_some (P:=P) w.drew i.size n ad n c news hl (by simpa using hnews);have hf0:=run_firstCells_some (P:=P) w.drew i.size 0 b 0 0 [] (by simp) (by simp);simp[Builtin.append_,run_underlying ht,sizeOf,typeInfo,zeroValue,hi,hz,Builtin.lenOf,hn,h63',h48',Question.forced,hf0,hf,newRow,grownCap]
def Vm (t ty e:TypeId) (ht:P.underlying t=some (.slice e)) (hi:(P.info? e).isSome) (b b':Option Addr) (n cap c:Nat) (hn:n<=cap):
  (Builtin.append_ #[t,t] ty #[.slice b n cap,.slice b' 0 c]).run P w= .ok (.slice b n cap) w:=by
 obtain⟨i,hi⟩:=Dt.1 hi;have hf0:∀b' c,(Builtin.firstCells i.size 0 (.slice b' 0 c)).run P w= .ok #[] w:=by
  intro b' c;cases b' with
  |none=>simp[Builtin.firstCells]
  |some ad=>exact run_firstCells_some (P:=P) w i.size 0 ad 0 c [] (by simp) (by simp)
 cases b<;>simp[Builtin.append_,run_underlying ht,sizeOf,typeInfo,hi,Builtin.lenOf,hn,hf0,storeCells]
def J5.append {M:Vw} {sz:Nat} {xs ys:List PV} {vs us:List Value} (hl:vs.length=xs.length*sz) (h1:J5 M sz xs vs) (h2:J5 M sz ys us):J5 M sz (xs++ys) (vs++us):=by
 intro i x hx;rw[List.getElem?_append] at hx;split at hx
 .rename_i hi;obtain⟨g1,g2⟩:=h1 i x hx;refine⟨g1,fun j c hc=> ?_⟩;obtain⟨u,k1,k2,k3⟩:=g2 j c hc;exact⟨u,by rw[Cm (Br.1 k1).1];exact k1,k2,k3⟩
 .rename_i hi;obtain⟨g1,g2⟩:=h2 _ x hx;refine⟨g1,fun j c hc=> ?_⟩;obtain⟨u,k1,k2,k3⟩:=g2 j c hc;have hle:xs.length*sz<=i*sz:=C0 _ (by omega);refine⟨u,?_,k2,k3⟩;rw[Cf (by omega),hl];have:i*sz+j - xs.length*sz=(i - xs.length)*sz+j:=by rw[Nat.mul_sub_right_distrib];omega
  rw[this];exact k1
def rt {w w':World} {O:Nat->Option Nat} {g lim:Nat} (hO:O g=some lim) (hb:∀c,c≠g->w'.heap[c]? =w.heap[c]?) (hg:∀(a:Addr) (v:Value),a.block=g->a.off<lim->w.cell? a=some v->w'.cell? a=some v):(C5 w O).Le (C5 w' O):=by
 constructor
 .intro a v h;obtain⟨h1,h2⟩:=M1 h;by_cases ha:a.block=g
  .have:=h2 lim (by rw[ha];exact hO);exact F8 (hg a v ha this h1) h2
  .refine F8 ?_ h2;rw[World.cell?_of_block (hb a.block ha)];exact h1
 .intro r es h;obtain⟨h1,c,h2⟩:=Aj5 h;have hr:r≠g:=fun e=>by subst e;rw[hO] at h1;cases h1
  exact Pq h1 (by rw[hb r hr];exact h2)
def tn {c:Call} {d x:Operand} {t u:TypeId} (ho:o.op= .call c) (hc:c.callee= .builtin .append) (ha:c.args.toList=[d,x]) (hty:c.argTypes.toList=[t,u]) {v:Value} {w':World}
  (h:(Builtin.append_ #[t,u] o.type #[a.eval d,a.eval x]).run P w= .ok v w'):(execOp a.eval o).run P w= .ok (.value v) w':=by
 have hargs:c.args= #[d,x]:=by rw[<-D9 (xs:=c.args),ha]
 have htys:c.argTypes= #[t,u]:=by rw[<-D9 (xs:=c.argTypes),hty]
 simp[execOp,ho,resolve,hc,hargs,htys,invoke,builtin,h]
structure SrcR (P:Program) (w:World) (O:Nat->Option Nat) (t u ty e:TypeId) (ys:List PV) (vx:Value) (news:List Value):Prop where
 len:news.length=ys.length*Cj P e
 one:∀u,u∈news->One u
 el:J5 (C5 w O) (Cj P e) ys news
 none:ys=[]->∀(b:Option Addr) (n cap:Nat),n<=cap->(Builtin.append_ #[t,u] ty #[.slice b n cap,vx]).run P w= .ok (.slice b n cap) w
 fresh:ys≠[]->ys.length<=LIM->∀(i:TypeInfo) (z:Value) (b:Option Addr),P.info? e=some i->i.zero=some z->i.bytes<=65536->(Builtin.append_ #[t,u] ty #[.slice b 0 0,vx]).run P w=
   .ok (.slice (some ⟨w.heap.size,0,.none⟩) ys.length (grownCap w ys.length 0 e)) (w.drew.alloc (.cells (news.toArray++Builtin.zeroCells z.cells (grownCap w ys.length 0 e - ys.length)) e))
 room:ys≠[]->∀(i:TypeInfo) (g sLen sCap:Nat) (cur:Array Value),P.info? e=some i->w.heap[g]? =some (.cells cur e (0,0))->sLen+ys.length<=sCap->sLen*i.size+news.length<=cur.size->
   (Builtin.append_ #[t,u] ty #[.slice (some ⟨g,0,.none⟩) sLen sCap,vx]).run P w= .ok (.slice (some ⟨g,0,.none⟩) (sLen+ys.length) sCap) (w.setRow g (cur.toList.take (sLen*i.size)++news++cur.toList.drop (sLen*i.size+news.length)).toArray)
 grow:ys≠[]->∀(i:TypeInfo) (z:Value) (ad:Addr) (sLen sCap:Nat) (olds:List Value),P.info? e=some i->i.zero=some z->i.bytes<=65536->olds.length=sLen*i.size->(∀j v,olds[j]? =some v->w.cell? (ad.add j)=some v)->sCap<sLen+ys.length->sLen+ys.length<=LIM->
   (Builtin.append_ #[t,u] ty #[.slice (some ad) sLen sCap,vx]).run P w= .ok (.slice (some ⟨w.heap.size,0,.none⟩) (sLen+ys.length) (grownCap w (sLen+ys.length) sCap e))
    (w.drew.alloc (.cells (olds.toArray++news.toArray++Builtin.zeroCells z.cells (grownCap w (sLen+ys.length) sCap e - (sLen+ys.length))) e))
def Src.runs {t ty e:TypeId} {ys:List PV} {vx:Value} {news:List Value} (ht:P.underlying t=some (.slice e)) (hi0:(P.info? e).isSome=true) (h:Src w O (Cj P e) ys vx news):SrcR P w O t t ty e ys vx news:=by
 obtain⟨hl,h1,hel,bb,c,rfl,hcells⟩:=h;have size:∀i,P.info? e=some i->Cj P e=i.size:=fun i hi=>by simp[Cj,hi]
 refine⟨hl,h1,hel,fun hy b n cap hn=> ?_,fun hy hlim i z b hi hz hbb=> ?_,fun hy i g sLen sCap cur hi hg hroom hfit=> ?_,fun hy i z ad0 sLen sCap olds hi hz hbb hlo holds hgr hlim=> ?_⟩
 .subst hy;exact Vm t ty e ht hi0 b bb n cap c hn
 .obtain⟨ad,rfl,hcell⟩:=hcells hy;have hpos:0<ys.length:=Ct.2 hy;simp only[LIM] at hlim;have hb2:ys.length*i.bytes<=1073741824*65536:=Kv hlim hbb;exact Tl (P:=P) (w:=w) t ty e i z ht hi hz b ad ys.length c news (by rw[<-size i hi];exact hl) hcell hpos (by omega) (by omega)
 .obtain⟨ad,rfl,hcell⟩:=hcells hy;exact run_append_room (P:=P) w t ty e i ht hi g sLen sCap cur hg ad ys.length c news (by rw[<-size i hi];exact hl) hcell h1 hroom hfit
 .obtain⟨ad,rfl,hcell⟩:=hcells hy;simp only[LIM] at hlim;have hb2:(sLen+ys.length)*i.bytes<=1073741824*65536:=Kv hlim hbb;exact run_append_grow (P:=P) w t ty e i z ht hi hz ad0 sLen sCap olds hlo holds ad ys.length c news (by rw[<-size i hi];exact hl) hcell hgr (by omega) (growslice_fits (by omega) (by omega))
def Hr.append {C:Cx} {sz n m:Nat} {vs news:List Value} (hl:vs.length=n*sz):∀{lk:Option (Nat×Option (Option Nat))},Hr C sz m news lk->(lk=none∨0<m)->Hr C sz (n+m) (vs++news) lk
 |none,_,_=>trivial
 |some (_,none),_,_=>trivial
 |some (off,some t),h,hm=>by
  have hm':0<m:=by simpa using hm
  have h':=h hm';intro _;rw[Cf (by rw[hl];have:n*sz<=(n+m - 1)*sz:=C0 _ (by omega);omega),hl];rw[show (n+m - 1)*sz+off - n*sz=(m - 1)*sz+off by rw[show n+m - 1=n+(m - 1) by omega,Dl];omega];exact h'
def Lk {t u ty e:TypeId} {s:Nat} {b:Option Addr} {ys:List PV} {news:List Value} {vx:Value} {X:E} {ro:Ro} {n':Nat} (h:Rel w0 Oe J U tm w K hv O) (hinfo:En P e=true)
  {i:TypeInfo} {z:Value} (hi:P.info? e=some i) (hz:i.zero=some z) (hzs:z.cells.size=i.size) (hsrc:SrcR P w O t u ty e ys vx news) (hX:X.ev J=some (.l (Cj P e) ys)) (hlim:ys.length<=LIM) (hlk:∀C':Cx,Hr C' (Cj P e) ys.length news ro.lk:=by intro _;trivial):
  ∃v' w' β' hv' O',(Builtin.append_ #[t,u] ty #[.slice b 0 0,vx]).run P w= .ok v' w'∧Rel w0 Oe J (U.eff (H0 U.m n' s (.arr e (Cj P e) X ro))) tm w' β' hv' O'∧hv' s=v':=by
 have his:Cj P e=i.size:=by simp[Cj,hi]
 have hib:K4 P e=i.bytes:=by simp[K4,hi]
 simp only[En,Bt,decide_eq_true_eq] at hinfo;obtain⟨⟨hb0,hb1⟩,hsz⟩:=hinfo;have hl:=hsrc.len;have hel:=hsrc.el;by_cases hy:ys=[]
 .subst hy;have hn0:news=[]:=C1 (by simpa using hl);subst hn0;obtain⟨β',hv',r1,r2⟩:=h.own (n:=n') (s:=s) (e:=e) (ro:=ro) (x:=X) (v:= .slice b 0 0) (xs:=[]) (vs:=[]) (w':=w) (O':=O) (Blw.refl _ _) (fun _ _=>rfl) h.out (fun g hg=>by cases b<;>simp[Dd] at hg) hsz hX
   ⟨by simp,.inl ⟨b,rfl,rfl⟩⟩ (fun i x hx=>by simp at hx) hlk
  exact⟨_,w,β',hv',O,hsrc.none rfl b 0 0 (B7 _),r1,r2⟩
 .have hpos:0<ys.length:=Ct.2 hy;have hrun:=hsrc.fresh hy hlim i z b hi hz (by omega);simp only[LIM] at hlim;generalize hC:(news.toArray++Builtin.zeroCells z.cells (grownCap w ys.length 0 e - ys.length))=C at hrun;have hge:=grownCap_ge w ys.length 0 e;have hmx:=grownCap_le_maxLen w ys.length 0 e (by simp only[maxLen];omega);have hbel:Blw w.heap.size w (w.drew.alloc (.cells C e)):=((Blw.refl _ _).drew).alloc (B7 _) _;have hCs:C.size=grownCap w ys.length 0 e*Cj P e:=by rw[<-hC,P2,size_zeroCells,K2,hl,hzs,<-his,<-Dl];congr 1;omega
  have hown:Own (w.drew.alloc (.cells C e)) (Bz7 w.heap.size) e (Cj P e) (.slice (some ⟨w.heap.size,0,none⟩) ys.length (grownCap w ys.length 0 e)) ys.length news:=by refine⟨hl,.inr ⟨w.heap.size,_,C,rfl,by omega,B7 _,heap_alloc_new w.drew _,hge,hmx,hCs,?_⟩⟩;rw[<-hC,T9,<-hl];exact Um
  obtain⟨β',hv',O',r1,r2⟩:=h.ownNew (n:=n') (s:=s) (e:=e) (ro:=ro) (x:=X) (xs:=ys) (vs:=news) hbel (by simp) (fun g hg=>by simp only[Dd] at hg;split at hg<;>simp at hg;exact hg.symm) hsz hX hown hel hlk;exact⟨_,_,β',hv',O',hrun,r1,r2⟩
end
section
variable {P:Program} {w0:Fr} {Oe:Nat->Option Nat} {J:List PV} {U:St} {a:Act} {tm:Array Value} {w:World} {K:Nat->Nat} {hv:Nat->Value} {O:Nat->Option Nat} {G:Option E} {o:Oper} {ws:List W}
def bk {t u ty e:TypeId} {s s0:Nat} {σ2:St} {xs ys:List PV} {news:List Value} {vx:Value} {y X:E} {ro:Ro} {lk:Option (Nat×Option (Option Nat))} {n':Nat} (h:Rel w0 Oe J U tm w K hv O) (h2:Rel w0 Oe J σ2 tm w K hv O) (hsub:∀s' b',s'≠s->mget σ2.m s'=some b'->s'≠s0∧mget U.m s'=some b') (hinfo:En P e=true)
  {i:TypeInfo} {z:Value} (hi:P.info? e=some i) (hz:i.zero=some z) (hzs:z.cells.size=i.size) (hb:mget U.m s0=some (.arr e (Cj P e) y ro)) (hy:y.ev J=some (.l (Cj P e) xs)) 
  (hsrc:SrcR P w O t u ty e ys vx news) (hX:X.ev J=some (.l (Cj P e) (xs++ys))) (hlim:xs.length+ys.length<=LIM) (hlk:∀C':Cx,Hr C' (Cj P e) ys.length news lk:=by intro _;trivial) (hne:lk=none∨0<ys.length:=by exact .inl rfl):
  ∃v' w' β' hv' O',(Builtin.append_ #[t,u] ty #[hv s0,vx]).run P w= .ok v' w'∧Rel w0 Oe J (σ2.eff (H0 σ2.m n' s (.arr e (Cj P e) X ⟨ro.b,lk⟩))) tm w' β' hv' O'∧hv' s=v':=by
 obtain⟨h0,xs',vs,g1,g2,g3,g4,_⟩:=h.mem s0 _ hb;have g1':y.ev J=some (.l (Cj P e) xs'):=g1;rw[hy] at g1';injection g1' with g1';injection g1' with _ g1';subst g1';rcases g2.2 with⟨b,e1,e2⟩|⟨g,cap,cur,e1,e1c,e2,e3,e4,e5,e6,e7⟩
 .have e1':hv s0= .slice b 0 0:=e1;have hx0:xs=[]:=C1 e2;subst hx0;rw[e1'];exact Lk h2 hinfo hi hz hzs hsrc hX (by simpa using hlim) hlk
 .have e1':hv s0= .slice (some ⟨g,0,none⟩) xs.length cap:=e1;have his:Cj P e=i.size:=by simp[Cj,hi]
  have hhas:Has ⟨J,C5 w O,K,hv,U.m⟩ s0 (.arr e (Cj P e) y ro):=by
   have hg:Dd (hv s0)=some g:=by rw[e1'];simp only[Dd,if_neg (show¬cap=0 by omega)]
   have:=(g4 g hg).1;have h3:g=K s0:=this;show Dd (hv s0)=some (K s0);rw[hg,h3]
  have hg:Dd (hv s0)=some g:=by rw[e1'];simp only[Dd,if_neg (show¬cap=0 by omega)]
  obtain⟨hgβ,lim,hOg,hlim1,hlim2⟩:=g4 g hg;have hgβ':g=K s0:=hgβ;have hinfo':=hinfo;simp only[En,Bt,decide_eq_true_eq] at hinfo';obtain⟨⟨hb0,hb1⟩,hsz⟩:=hinfo';have hib:K4 P e=i.bytes:=by simp[K4,hi]
  have hl:=hsrc.len;have h1:=hsrc.one;have hel:=hsrc.el;have hlim0:=hlim;simp only[LIM] at hlim;have keep:∀(w':World) (cur':Array Value),(∀c,c≠g->w'.heap[c]? =w.heap[c]?)->w'.heap[g]? =some (.cells cur' e (0,0))->w'.heap.size=w.heap.size->Bel w0 w'->cur'.size=cap*Cj P e->xs.length+ys.length<=cap->cur'.toList.take ((xs.length+ys.length)*Cj P e)=vs++news->
    (Builtin.append_ #[t,u] ty #[hv s0,vx]).run P w= .ok (.slice (some ⟨g,0,none⟩) (xs.length+ys.length) cap) w'->
    ∃v' w' β' hv' O',(Builtin.append_ #[t,u] ty #[hv s0,vx]).run P w= .ok v' w'∧Rel w0 Oe J (σ2.eff (H0 σ2.m n' s (.arr e (Cj P e) X ⟨ro.b,lk⟩))) tm w' β' hv' O'∧hv' s=v':=by
   intro w' cur' hoth hnew hsize hbel hcs hcap htake hrun;let β':=fun s'=>if s'=s then g else K s'
   have hβ:∀s',s'≠s->β' s'=K s':=fun s' hs=>if_neg hs;have hβs:β' s=g:=if_pos rfl;let hv':=fun s'=>if s'=s then(.slice (some ⟨g,0,none⟩) (xs.length+ys.length) cap:Value) else hv s'
   have hhv:∀s',s'≠s->hv' s'=hv s':=fun s' hs=>if_neg hs;have hhvs:hv' s= .slice (some ⟨g,0,none⟩) (xs.length+ys.length) cap:=if_pos rfl;have hlenvs:vs.length=xs.length*Cj P e:=g2.1;have hM:(C5 w O).Le (C5 w' O):=by
    refine rt hOg hoth fun ad v hab hoff hcell=> ?_;have hold:w.cell? ⟨g,ad.off,none⟩=cur[ad.off]? :=cell_of_row w g ad.off cur e (0,0) e3;have c1:w.cell? ad=w.cell? ⟨g,ad.off,none⟩∧w'.cell? ad=w'.cell? ⟨g,ad.off,none⟩∨w.cell? ad=none:=by
     cases hsp:ad.spot with
     |none=>left;rw[<-hab];constructor<;>(congr 1;cases ad;simp_all)
     |some sp=>right;simp only[World.cell?,hsp];split<;>simp
    rcases c1 with⟨c1,c2⟩|c1
    .rw[c1,hold] at hcell;rw[c2,cell_of_row w' g ad.off cur' e (0,0) hnew];have ho:ad.off<xs.length*Cj P e:=by omega
     have h5:cur.toList[ad.off]? =vs[ad.off]? :=by rw[<-e7,Cp,if_pos ho]
     have h6:cur'.toList[ad.off]? =(vs++news)[ad.off]? :=by rw[<-htake,Cp,if_pos];rw[Dl];omega
     rw[<-B9,h6,Cm (by omega),<-h5,B9];exact hcell
    .rw[c1] at hcell;cases hcell
   have hown:Own w' w0.ok e (Cj P e) (hv' s) (xs++ys).length (vs++news):=by rw[hhvs,Bp];exact⟨by rw[Bp,hl,hlenvs,Dl],.inr ⟨g,cap,cur',rfl,e1c,e2,hnew,hcap,e5,hcs,htake⟩⟩
   have hinj:∀s' b',s'≠s->mget σ2.m s'=some b'->Has ⟨J,C5 w O,K,hv,σ2.m⟩ s' b'->K s'≠g:=fun s' b' hs hb' hh=>by obtain⟨k1,k2⟩:=hsub s' b' hs hb';rw[hgβ'];exact h.inj s' s0 b' _ k2 hb k1 (by cases b'<;>exact hh) hhas
   refine⟨_,w',β',hv',O,hrun,h2.fresh hbel hM hβ hhv (fun s' b' hs hb' hh=>⟨hoth _ (hinj s' b' hs hb' hh),rfl⟩) h.ext (fun c hc=>h.out c (by omega)) ?_ (fun s' b' hs hb' hh _=>by rw[hβs];exact hinj s' b' hs hb' hh),hhvs⟩;refine⟨hsz,xs++ys,vs++news,hX,hown,(g3.append hlenvs hel).mono hM,fun g' hg'=> ?_,by rw[Bp];exact(hlk _).append hlenvs hne⟩;have hg'':Dd (hv' s)=some g':=hg';rw[hhvs] at hg'';simp only[Dd,if_neg (show¬cap=0 by omega),Bn] at hg'';subst hg'';exact⟨hβs.symm,lim,hOg,by rw[Bp,Dl];omega,hlim2⟩
  by_cases hy0:ys=[]
  .subst hy0;have hn0:news=[]:=C1 (by simpa using hl);subst hn0;refine keep w cur (fun _ _=>rfl) e3 rfl h.bel e6 (by simpa using e4) (by simpa using e7) ?_;rw[e1'];simpa using hsrc.none rfl (some ⟨g,0,none⟩) xs.length cap e4
  .have hpos:0<ys.length:=Ct.2 hy0;by_cases hroom:xs.length+ys.length<=cap
   .have hlenvs:vs.length=xs.length*Cj P e:=g2.1;have hfit:xs.length*i.size+news.length<=cur.size:=by rw[hl,e6,<-his,<-Dl];exact C0 _ hroom
    have hr:=hsrc.room hy0 i g xs.length cap cur hi e3 hroom hfit;refine keep _ _ (fun c hc=>setRow_other w g c _ hc) (setRow_heap w g cur _ e _ e3) (by simp) (M4 h.bel (show w0.ok g from e2) _) ?_ hroom ?_ (by rw[e1'];exact hr)
    .rw[<-his] at hfit;simp only[K2,Bp,Cv,Cn,Dv,<-his];omega
    .simp only[<-his];rw[Cy,e7,<-Cy];have:(xs.length+ys.length)*Cj P e=(vs++news).length:=by rw[Bp,hl,hlenvs,Dl]
     rw[this];exact Um
   .have holds:∀j u,vs[j]? =some u->w.cell? ((⟨g,0,none⟩:Addr).add j)=some u:=fun j u hu=>g2.cells hg j u hu;have hlenvs:vs.length=xs.length*Cj P e:=g2.1;have hbytes:(xs.length+ys.length)*i.bytes<=1073741824*65536:=Kv hlim (by omega);have hr:=hsrc.grow hy0 i z ⟨g,0,none⟩ xs.length cap vs hi hz (by omega) (by rw[<-his];exact hlenvs) holds (by omega) hlim0;generalize hC:(vs.toArray++news.toArray++Builtin.zeroCells z.cells (grownCap w (xs.length+ys.length) cap e - (xs.length+ys.length)))=C at hr;have hge:=grownCap_ge w (xs.length+ys.length) cap e;have hmx:=grownCap_le_maxLen w (xs.length+ys.length) cap e (by simp only[maxLen];omega);have hbel:Blw w.heap.size w (w.drew.alloc (.cells C e)):=((Blw.refl _ _).drew).alloc (B7 _) _;have hCs:C.size=grownCap w (xs.length+ys.length) cap e*Cj P e:=by rw[<-hC,P2,P2,size_zeroCells,K2,K2,hl,hzs,<-his,hlenvs,<-Dl,<-Dl];congr 1;omega
    have hown:Own (w.drew.alloc (.cells C e)) (Bz7 w.heap.size) e (Cj P e) (.slice (some ⟨w.heap.size,0,none⟩) (xs.length+ys.length) (grownCap w (xs.length+ys.length) cap e)) (xs++ys).length (vs++news):=by
     have hll:(vs++news).length=(xs.length+ys.length)*Cj P e:=by rw[Bp,hl,hlenvs,Dl]
     rw[Bp];refine⟨hll,.inr ⟨w.heap.size,_,C,rfl,by omega,B7 _,heap_alloc_new w.drew _,hge,hmx,hCs,?_⟩⟩;rw[<-hC,T9,T9,<-hll];exact Um
    obtain⟨β',hv',O',r1,r2⟩:=h2.ownNew (n:=n') (s:=s) (e:=e) (ro:=⟨ro.b,lk⟩) (x:=X) (xs:=xs++ys) (vs:=vs++news) hbel (by simp) (fun g hg=>by simp only[Dd] at hg;split at hg<;>simp at hg;exact hg.symm) hsz hX hown (g3.append hlenvs hel) (fun C'=>by rw[Bp];exact(hlk C').append hlenvs hne);exact⟨_,_,β',hv',O',by rw[e1'];exact hr,r1,r2⟩
def y8 {t u ty e:TypeId} {s:Nat} {xs ys:List PV} {vs news:List Value} {vd vx:Value} {X:E} {n':Nat} (h:Rel w0 Oe J U tm w K hv O) (hinfo:En P e=true)
  {i:TypeInfo} {z:Value} (hi:P.info? e=some i) (hz:i.zero=some z) (hzs:z.cells.size=i.size) (hsrc:SrcR P w O t u ty e ys vx news) (hd:Src w O (Cj P e) xs vd vs) (hfull:∃b,vd= .slice b xs.length xs.length)
  (hne:xs=[]∨ys≠[]) (hX:X.ev J=some (.l (Cj P e) (xs++ys))) (hlim:xs.length+ys.length<=LIM):
  ∃v' w' β' hv' O',(Builtin.append_ #[t,u] ty #[vd,vx]).run P w= .ok v' w'∧Rel w0 Oe J (U.eff (H0 U.m n' s (.arr e (Cj P e) X .no))) tm w' β' hv' O'∧hv' s=v':=by
 obtain⟨b,rfl⟩:=hfull;by_cases hx0:xs=[]
 .subst hx0;exact Lk h hinfo hi hz hzs hsrc hX (by simpa using hlim)
 .have hy0:ys≠[]:=by rcases hne with h|h;exact absurd h hx0;exact h
  have his:Cj P e=i.size:=by simp[Cj,hi]
  have hib:K4 P e=i.bytes:=by simp[K4,hi]
  simp only[En,Bt,decide_eq_true_eq] at hinfo;obtain⟨⟨hb0,hb1⟩,hsz⟩:=hinfo;have hl:=hsrc.len;have hel:=hsrc.el;obtain⟨hlenvs,_,g3,b',c',hbe,hcell⟩:=hd;injection hbe with hb1' _ hc';subst hb1';subst hc';obtain⟨ad,rfl,holds⟩:=hcell hx0;have hpos:0<ys.length:=Ct.2 hy0;have hr:=hsrc.grow hy0 i z ad xs.length xs.length vs hi hz (by omega) (by rw[<-his];exact hlenvs) holds (by omega) hlim;simp only[LIM] at hlim;generalize hC:(vs.toArray++news.toArray++Builtin.zeroCells z.cells (grownCap w (xs.length+ys.length) xs.length e - (xs.length+ys.length)))=C at hr;have hge:=grownCap_ge w (xs.length+ys.length) xs.length e;have hmx:=grownCap_le_maxLen w (xs.length+ys.length) xs.length e (by simp only[maxLen];omega);have hbel:Blw w.heap.size w (w.drew.alloc (.cells C e)):=((Blw.refl _ _).drew).alloc (B7 _) _;have hCs:C.size=grownCap w (xs.length+ys.length) xs.length e*Cj P e:=by rw[<-hC,P2,P2,size_zeroCells,K2,K2,hl,hzs,<-his,hlenvs,<-Dl,<-Dl];congr 1;omega
  have hown:Own (w.drew.alloc (.cells C e)) (Bz7 w.heap.size) e (Cj P e) (.slice (some ⟨w.heap.size,0,none⟩) (xs.length+ys.length) (grownCap w (xs.length+ys.length) xs.length e)) (xs++ys).length (vs++news):=by
   have hll:(vs++news).length=(xs.length+ys.length)*Cj P e:=by rw[Bp,hl,hlenvs,Dl]
   rw[Bp];refine⟨hll,.inr ⟨w.heap.size,_,C,rfl,by omega,B7 _,heap_alloc_new w.drew _,hge,hmx,hCs,?_⟩⟩;rw[<-hC,T9,T9,<-hll];exact Um
  obtain⟨β',hv',O',r1,r2⟩:=h.ownNew (n:=n') (s:=s) (e:=e) (ro:= .no) (x:=X) (xs:=xs++ys) (vs:=vs++news) hbel (by simp) (fun g hg=>by simp only[Dd] at hg;split at hg<;>simp at hg;exact hg.symm) hsz hX hown (g3.append hlenvs hel);exact⟨_,_,β',hv',O',hr,r1,r2⟩
def Zc {c:Call} {d x:Operand} {t u:TypeId} {mv:Bool} {s:Nat} {sd sx r:SV} {F:Eff} (ho:o.op= .call c) (hc:c.callee= .builtin .append) (ha:c.args.toList=[d,x]) (hty:c.argTypes.toList=[t,u])
  (h:Rel w0 Oe J U a.tmps w K hv O) (hG:GOk J G) (hd:opd P U G t d=some sd) (hs:Ol P U mv s t sd sx=some (ws,r,F)) (hk:Chk J ws)
  (source:∀e src,Is P t=some e->Ht6 U sx=some src->En P e=true->∀i z,P.info? e=some i->i.zero=some z->∀ys,src.ev J=some (.l (Cj P e) ys)->∃news,SrcR P w O t u o.type e ys (a.eval x) news∧(∀C':Cx,Hr C' (Cj P e) ys.length news (Tm U sx))∧(Tm U sx=none∨0<ys.length)):
  Fc P o a w (Ix w0 Oe J U a.tmps F r):=by
 have e0:a.eval=(Act.mk a.tmps a.defers).eval:=rfl;have hrd:=F9 (ds:=a.defers) (C:=⟨J,C5 w O,K,hv,U.m⟩) hG rfl hd h.tmps;rw[<-e0] at hrd;unfold Ol at hs;split at hs
 .rename_i e src he hsrc;have ht:P.underlying t=some (.slice e):=by
   unfold Is at he;split at he
   .rename_i h;rw[h];injection he with he;rw[he]
   .cases he
  dsimp only at hs;generalize (if mv=true then s+NAP else s)=s at hs;split at hs
  .cases hs
  .rename_i hsm;simp only[Cz,Dp,not_or,zn,D5] at hsm;obtain⟨hsm',hzn⟩:=hsm;obtain⟨zs,hzs⟩:=Option.ne_none_iff_exists'.1 hzn;obtain⟨i,z,hi,hzz,hzz2,_,_⟩:=H2 (C:=⟨J,C5 w O,K,hv,U.m⟩) hzs;have hsz:0<Cj P e:=by simp only[En,Bt,decide_eq_true_eq] at hsm';exact hsm'.2
   have source:=source e src he hsrc hsm' i z hi hzz;have fresh:∀b lk,lk=none∨lk=Tm U sx->a.eval d= .slice b 0 0->ws=[.chk (.app (Cj P e) (.c (.l (Cj P e) [])) src)]->r= .h s->F=H0 U.m U.n s (.arr e (Cj P e) (.app (Cj P e) (.c (.l (Cj P e) [])) src) ⟨false,lk⟩)->
     Fc P o a w (Ix w0 Oe J U a.tmps F r):=by
    intro b lk hlk hb hw hr hε;subst hw;subst hr;subst hε;obtain⟨q,hq⟩:=hk _ (Cl.2 rfl);have hq':=hq;simp only[E.ev,B0,Bl] at hq';obtain⟨p,hp,hq'⟩:=hq';unfold Jm at hq';split at hq'
    .rename_i s1 xs1 s2 ys heq;injection heq with heq1 heq2;subst heq1;subst heq2;split at hq'
     .rename_i hcond;obtain⟨_,rfl,hlim⟩:=hcond;obtain⟨news,hnews,hnl,_⟩:=source ys hp;injection hq' with hq';obtain⟨v',w',β',hv',O',r1,r2,r3⟩:=Lk (s:=s) (b:=b) (ty:=o.type) (ro:=⟨false,lk⟩) (n':=U.n) h hsm' hi hzz hzz2 hnews (hq.trans (by rw[<-hq'];simp)) (by simpa using hlim)
       (fun C'=>by rcases hlk with rfl|rfl;trivial;exact hnl C')
      refine Fc.value (tn ho hc ha hty (by rw[hb];exact r1)) ⟨β',hv',O',r2,?_⟩;simp only[Cw];exact r3.symm
     .cases hq'
    .cases hq'
   split at hs
   .simp only[Bn,B4] at hs;obtain⟨h1,h2,h3⟩:=hs;simp only[Cw] at hrd;exact fresh none _ (.inr rfl) hrd h1.symm h2.symm h3.symm
   .simp only[Bn,B4] at hs;obtain⟨h1,h2,h3⟩:=hs;simp only[Cw,E.ev,Bn,PV.l.injEq] at hrd;obtain⟨xs,b,⟨_,hxs⟩,hv1,_⟩:=hrd;subst hxs;exact fresh b none (.inl rfl) (by simpa using hv1) h1.symm h2.symm h3.symm
   .simp only[Bn,B4] at hs;obtain⟨h1,h2,h3⟩:=hs;simp only[Cw,E.ev,E.evs,B0,Lf,V6,List.all_nil,if_true,Bn,PV.l.injEq] at hrd;obtain⟨xs,b,⟨_,hxs⟩,hv1,_⟩:=hrd;subst hxs;exact fresh b none (.inl rfl) (by simpa using hv1) h1.symm h2.symm h3.symm
   .rename_i sz0 y _ _;split at hs
    .rename_i hszz;subst hszz;simp only[Bn,B4] at hs;obtain⟨rfl,rfl,rfl⟩:=hs;simp only[Cw] at hrd;obtain⟨xs,b,hy,hv1,hrep⟩:=hrd;have hy':y.ev J=some (.l (Cj P e) xs):=hy;obtain⟨q,hq⟩:=hk _ (.head _);obtain⟨q2,hq2⟩:=hk _ (.tail _ (.head _));have hq':=hq;simp only[E.ev,hy',B0,Bl] at hq';obtain⟨p,hp,hq'⟩:=hq';unfold Jm at hq';split at hq'
     .rename_i s1 xs1 s2 ys heq;injection heq with heq1 heq2;subst heq1;subst heq2;split at hq'
      .rename_i hcond;obtain⟨_,rfl,hlim⟩:=hcond;obtain⟨news,hnews,_⟩:=source ys hp;obtain⟨vs,hvs⟩:=Cv0 hsz hrep;injection hq' with hq';have hne:xs=[]∨ys≠[]:=by
        by_cases hx0:xs=[]
        .exact .inl hx0
        .right;intro hy0;subst hy0;have hl:¬((xs.length:Int)=0):=by have:=Ct.2 hx0;omega
         simp only[E.ev,hy',hp,B0,H7,X.bin,Gd,Lg,if_true] at hq2;have hd:((xs.length:Int)==0)=false:=by simpa using hl
         rw[hd] at hq2;simp at hq2
       obtain⟨v',w',β',hv',O',r1,r2,r3⟩:=y8 (s:=s) (ty:=o.type) (n':=U.n) h hsm' hi hzz hzz2 hnews hvs ⟨b,hv1⟩ hne (hq.trans (by rw[<-hq'])) hlim;refine Fc.value (tn ho hc ha hty r1) ⟨β',hv',O',r2,?_⟩;simp only[Cw];exact r3.symm
      .cases hq'
     .cases hq'
    .cases hs
   .rename_i s0;split at hs
    .rename_i e1 sz0 y ro hb0;split at hs
     .rename_i hcond;obtain⟨rfl,rfl⟩:=hcond;simp only[Cw] at hrd;have hσ:∃s1 σ2,Rel w0 Oe J σ2 a.tmps w K hv O∧(∀s' b',s'≠s1->mget σ2.m s'=some b'->s'≠s0∧mget U.m s'=some b')∧σ2.n=U.n∧σ2.t=U.t∧ws=[.chk (.app (Cj P e1) y src)]∧r= .h s1∧
        F=H0 σ2.m U.n s1 (.arr e1 (Cj P e1) (.app (Cj P e1) y src) ⟨ro.b,Tm U sx⟩):=by
       split at hs
       .split at hs
        .rename_i hc2;simp only[Bn,B4] at hs;obtain⟨rfl,rfl,rfl⟩:=hs;refine⟨s,{U with m:=O6 U.m s0},h.forget hc2,fun s' b' _ hb'=> ?_,rfl,rfl,rfl,rfl,rfl⟩;by_cases hss:s'=s0
         .subst hss;have hb2:mget (O6 U.m s') s'=some b':=hb';rw[H6] at hb2;cases hb2
         .have hb2:mget (O6 U.m s0) s'=some b':=hb';exact⟨hss,by rwa[G4 hss] at hb2⟩
        .cases hs
       .simp only[Bn,B4] at hs;obtain⟨rfl,rfl,rfl⟩:=hs;exact⟨s0,U,h,fun s' b' hne hb'=>⟨hne,hb'⟩,rfl,rfl,rfl,rfl,rfl⟩
      obtain⟨s1,σ2,h2,hsub,hn2,ht2,rfl,rfl,rfl⟩:=hσ;obtain⟨q,hq⟩:=hk _ (Cl.2 rfl);have hq':=hq;simp only[E.ev,Bl] at hq';obtain⟨p0,hp0,p,hp,hq'⟩:=hq';unfold Jm at hq';split at hq'
      .rename_i s1 xs1 s2 ys;split at hq'
       .rename_i hcond;obtain⟨rfl,rfl,hlim⟩:=hcond;obtain⟨news,hnews,hnl,hne⟩:=source ys hp;injection hq' with hq';obtain⟨v',w',β',hv',O',r1,r2,r3⟩:=bk (s:=s1) (ty:=o.type) (n':=U.n) h h2 hsub hsm' hi hzz hzz2 hb0 hp0 hnews (hq.trans (by rw[<-hq'])) hlim hnl hne;refine Fc.value (tn ho hc ha hty (by rw[hrd];exact r1)) ⟨β',hv',O',by rw[show U.eff (H0 σ2.m U.n s1 _)=σ2.eff (H0 σ2.m U.n s1 _) by unfold St.eff;rw[ht2]];exact r2,?_⟩;simp only[Cw];exact r3.symm
       .cases hq'
      .cases hq'
     .cases hs
    .cases hs
   .cases hs
 .cases hs
def Cm3 {c:Call} {d x:Operand} {t:TypeId} {mv:Bool} {s:Nat} {sd sx r:SV} {F:Eff} (ho:o.op= .call c) (hc:c.callee= .builtin .append) (ha:c.args.toList=[d,x]) (hty:c.argTypes.toList=[t,t])
  (h:Rel w0 Oe J U a.tmps w K hv O) (hG:GOk J G) (hd:opd P U G t d=some sd) (hx:opd P U G t x=some sx) (hs:Ol P U mv s t sd sx=some (ws,r,F)) (hk:Chk J ws):
  Fc P o a w (Ix w0 Oe J U a.tmps F r):=by
 have e0:a.eval=(Act.mk a.tmps a.defers).eval:=rfl;have hrx:=F9 (ds:=a.defers) (C:=⟨J,C5 w O,K,hv,U.m⟩) hG rfl hx h.tmps;rw[<-e0] at hrx;refine Zc ho hc ha hty h hG hd hs hk ?_;intro e src he hsrc hsm' i z hi hzz ys0 hys0;have ht:P.underlying t=some (.slice e):=by
  unfold Is at he;split at he
  .rename_i h;rw[h];injection he with he;rw[he]
  .cases he
 have hsz:0<Cj P e:=by simp only[En,Bt,decide_eq_true_eq] at hsm';exact hsm'.2
 have source:∀ys,src.ev J=some (.l (Cj P e) ys)->∃news,Src w O (Cj P e) ys (a.eval x) news∧(∀C':Cx,Hr C' (Cj P e) ys.length news (Tm U sx))∧(Tm U sx=none∨0<ys.length):=by
  intro ys hys;unfold Ht6 at hsrc;split at hsrc
  .rename_i s';split at hsrc
   .rename_i e' sz' y' ro' hb';injection hsrc with hsrc;subst hsrc;simp only[Cw] at hrx;have hszz:sz'=Cj P e:=by obtain⟨_,xs,vs,g1,_⟩:=h.mem s' _ hb';have g1':y'.ev J=some (.l sz' xs):=g1;rw[hys] at g1';injection g1' with g1';injection g1' with g1' _;exact g1'.symm
    subst hszz;rw[hrx];obtain⟨news,n1,n2⟩:=Fn0 h hb' hys;refine⟨news,n1,?_⟩;simp only[Tm,hb'];split
    .rename_i x0 r0 lo heq;injection heq with heq;injection heq with _ _ q3 q4;subst q3;subst q4;refine⟨fun C'=>n2,.inr ?_⟩;simp only[E.ev,E.evs,Bl,Bs] at hys;obtain⟨_,⟨_,_,_,_,rfl⟩,hys⟩:=hys;unfold Lf at hys;split at hys
     .injection hys with hys;injection hys with _ hys;subst hys;simp
     .cases hys
    .exact⟨fun _=>trivial,.inl rfl⟩
   .cases hsrc
  .obtain⟨p,hp,hpr⟩:=SV.asE_ok hsrc hrx;have hp':src.ev J=some p:=hp;rw[hys] at hp';injection hp' with hp';subst hp';obtain⟨news,hn⟩:=Cv0 hsz hpr;have hz:Tm U sx=none:=by
    unfold Tm;split
    .rename_i s' hns;exact absurd rfl (hns s')
    .rfl
   rw[hz];exact⟨news,hn,fun _=>trivial,.inl rfl⟩
 obtain⟨news,hnews,hnl⟩:=source ys0 hys0;exact⟨news,hnews.runs ht (by rw[hi];rfl),hnl⟩
end
section
variable {P:Program} {w0:Fr} {Oe:Nat->Option Nat} {J:List PV} {U:St} {a:Act} {tm:Array Value} {w:World} {K:Nat->Nat} {hv:Nat->Value} {O:Nat->Option Nat} {G:Option E} {o:Oper} {ws:List W}
def Wb {C:Cx} {zs:List SV} {cs:Array Value} {ze:E} (h:Cd C zs cs.toList) (h1:∀u,u∈cs.toList->One u) (hz:Wc zs=some ze):∃p,ze.ev C.J=some p∧(p.cells.length=cs.size->∀(j:Nat) (c:PV),p.cells[j]? =some c->∃u,cs[j]? =some u∧One u∧Rep C.M c u):=by
 have fin:∀{p:PV} {v:Value},Rep C.M p v->v.cells=cs->p.cells.length=cs.size->∀(j:Nat) (c:PV),p.cells[j]? =some c->∃u,cs[j]? =some u∧One u∧Rep C.M c u:=by
  intro p v hr hv hl j c hc;have hj:j<cs.size:=by rw[<-hl];exact(Br.1 hc).1
  have hu:cs[j]? =some cs[j]:=E8 hj;refine⟨cs[j],hu,h1 _ (by simp),?_⟩;by_cases hp:p= .u
  .subst hp;cases j with
   |zero=>simp[PV.cells] at hc;subst hc;exact .u _
   |succ j=>simp[PV.cells] at hc
  .exact(hr.cells hp).2.2 j c _ hc (by rw[hv];exact hu)
 unfold Wc at hz;split at hz
 .simp only[Cd] at h;obtain⟨v,r,hv,hr,rfl⟩:=h;obtain⟨p,hp,hpr⟩:=SV.asE_ok hz hr;have hcs:cs= #[v]:=by rw[<-D9 (xs:=cs),hv]
  have h1v:One v:=h1 v (by rw[hv];simp);exact⟨p,hp,fin hpr (by rw[V5 h1v,hcs])⟩
 .have hr:=Uw h h1;obtain⟨p,hp,hpr⟩:=SV.asE_ok hz hr;exact⟨p,hp,fin hpr rfl⟩
def Dr1 {t u ty e:TypeId} {kn:IntKind} {i:TypeInfo} {z:Value} {pz:PV} (ht:P.underlying t=some (.slice e)) (hu:P.underlying u=some (.int kn)) (hi:P.info? e=some i) (hz:i.zero=some z) (hzs:z.cells.size=i.size)
  (h1:∀v,v∈z.cells.toList->One v) (hb1:i.bytes<=65536) (hpl:pz.cells.length=i.size) (hpos:0<i.size) (hpz:∀(j:Nat) (c:PV),pz.cells[j]? =some c->∃u,z.cells[j]? =some u∧One u∧Rep (C5 w O) c u) (n:Nat) (hn:n<=1073741824):
  SrcR P w O t u ty e (List.replicate n pz) (.int .i64 (n:Int)) (Builtin.zeroCells z.cells n).toList:=by
 have his:Cj P e=i.size:=by simp[Cj,hi]
 have hll:(List.replicate n pz).length=n:=Hy ..;have hzl:(Builtin.zeroCells z.cells n).toList.length=n*i.size:=by rw[Dv,size_zeroCells,hzs]
 have at_:∀k,k<n*i.size->(Builtin.zeroCells z.cells n).toList[k]? =z.cells[k % i.size]? :=by
  intro k hk;have hm:k % i.size<z.cells.size:=by rw[hzs];exact Nat.mod_lt _ hpos
  rw[B9];simp only[Builtin.zeroCells,Ik2,Bb2,hzs,hk,if_true,Cc];rw[Array.getElem!_eq_getD,Cg,E8 hm];rfl
 have hne:List.replicate n pz≠[]->0<n:=fun h=>by
  rcases Nat.eq_zero_or_pos n with h0|h0
  .subst h0;exact absurd rfl h
  .exact h0
 have hbytes:∀m:Nat,m<=1073741824->m*i.bytes<=281474976710656:=fun m hm=>by have:m*i.bytes<=1073741824*65536:=Kv hm hb1;omega
 have hone:∀v,v∈(Builtin.zeroCells z.cells n).toList->One v:=by intro v hv;obtain⟨k,hk⟩:=F4 hv;have hlt:=(Br.1 hk).1;rw[hzl] at hlt;rw[at_ k hlt] at hk;exact h1 v (by rw[<-B9] at hk;exact B6 hk)
 refine⟨by rw[hzl,hll,his],hone,?_,fun hy b m cap hm=> ?_,fun hy hlim i' z' b hi' hz' hbb=> ?_,fun hy i' g sLen sCap cur hi' hg hroom hfit=> ?_,fun hy i' z' ad0 sLen sCap olds hi' hz' hbb hlo holds hgr hlim=> ?_⟩
 .intro j x hj;rw[K3] at hj;split at hj
  .rename_i hjk;injection hj with hj;subst hj;refine⟨by rw[hpl,his],fun m c hc=> ?_⟩;have hm:m<i.size:=by rw[<-hpl];exact(Br.1 hc).1
   obtain⟨u',g1,g2,g3⟩:=hpz m c hc;refine⟨u',?_,g2,g3⟩;have hlt:j*i.size+m<n*i.size:=by have:(j+1)*i.size<=n*i.size:=C0 _ hjk;rw[Dl,Gh] at this;omega
   rw[his,at_ _ hlt,Hg,ic,Fj hm];exact g1
  .cases hj
 .have h0:n=0:=by
   rcases Nat.eq_zero_or_pos n with h0|h0
   .exact h0
   .exfalso;have:=congrArg List.length hy;rw[hll,Cs] at this;omega
  subst h0;have hw:IntKind.i64.wrap (0:Int)=0:=by decide
  cases b<;>simp[Builtin.append_,run_underlying ht,run_underlying hu,sizeOf,typeInfo,hi,asInt,asIntOf,hw,hm,storeCells]
 .rw[hi] at hi';injection hi' with hi';subst hi';rw[hz] at hz';injection hz' with hz';subst hz';rw[hll] at hlim ⊢;have h0:=hne hy;cases b with
  |none=>
   have:=Lib.run_append_nil_zeros (P:=P) w t u ty e i z .i64 kn ht hu hi hz n h0 hpos (by omega) (hbytes n hn);simpa using this
  |some ad=>
   have hf0:=run_firstCells_some (P:=P) w.drew i.size 0 ad 0 0 [] (by simp) (by simp);have:=Lib.run_append_grow_zeros (P:=P) w t u ty e i z .i64 kn ht hu hi hz (some ad) 0 0 [] hf0 n h0 hpos (by omega) (by omega) (hbytes n hn) (by rw[Ig,nextslicecap_zero h0];exact hbytes n hn)
   simpa using this
 .rw[hi] at hi';injection hi' with hi';subst hi';rw[hll] at hroom ⊢;have h0:=hne hy;have hk:n≠0:=by omega
  have hw:IntKind.i64.wrap (n:Int)=n:=by rw[IntKind.wrap_i64];omega
  have h48i:¬(281474976710656<(n:Int)*(i.bytes:Int)):=by have:=hbytes n hn;rw[<-Int.natCast_mul];omega
  have hneg:¬((n:Int)<0):=by omega
  have hns:¬(n*i.size=0):=Nat.mul_ne_zero hk (by omega);have hst:=run_storeCells_at P g (sLen*i.size) e (Builtin.zeroCells z.cells n).toList 0 cur w hg (by simpa using hfit) hone;simp only[G6] at hst;simp[Builtin.append_,run_underlying ht,run_underlying hu,sizeOf,typeInfo,zeroValue,hi,hz,asInt,asIntOf,hw,hneg,hns,h48i,hroom,Addr.add_lit,hst]
 .rw[hi] at hi';injection hi' with hi';subst hi';rw[hz] at hz';injection hz' with hz';subst hz';rw[hll] at hgr hlim ⊢;have h0:=hne hy;simp only[LIM] at hlim;have hold:=run_firstCells_some (P:=P) w.drew i.size sLen ad0 sLen sCap olds hlo (by simpa using holds);have:=Lib.run_append_grow_zeros (P:=P) w t u ty e i z .i64 kn ht hu hi hz (some ad0) sLen sCap olds hold n h0 hpos hgr (by omega) (hbytes n hn) (growslice_fits (by omega) (by have:(sLen+n)*i.bytes<=1073741824*65536:=Kv (by omega) hb1;omega));simpa using this
def Bj3 {c:Call} {d x:Operand} {t u e:TypeId} {mv:Bool} {s:Nat} {sd r:SV} {n ze:E} {zs:List SV} {F:Eff} (ho:o.op= .call c) (hc:c.callee= .builtin .append) (ha:c.args.toList=[d,x]) (hty:c.argTypes.toList=[t,u])
  (h:Rel w0 Oe J U a.tmps w K hv O) (hG:GOk J G) (hd:opd P U G t d=some sd) (hx:G8 P U G 0 x=some n) (he:Is P t=some e) (hu:Dv5 P u=true) (hz:Jd P e=some zs) (hze:Wc zs=some ze)
  (hs:Ol P U mv s t sd (.e (.rep (Cj P e) n ze))=some (ws,r,F)) (hk:Chk J ws):
  Fc P o a w (Ix w0 Oe J U a.tmps F r):=by
 have ht:P.underlying t=some (.slice e):=by
  unfold Is at he;split at he
  .rename_i h;rw[h];injection he with he;rw[he]
  .cases he
 have hui:∃kn,P.underlying u=some (.int kn):=by
  unfold Dv5 at hu;split at hu
  .rename_i kn hk;exact⟨kn,hk⟩
  .cases hu
 obtain⟨kn,hui⟩:=hui;refine Zc ho hc ha hty h hG hd hs hk ?_;intro e' src he' hsrc hsm i z hi hzz ys hys;rw[he] at he';injection he' with he';subst he';simp only[Ht6,SV.asE,Bn] at hsrc;subst hsrc;obtain⟨i',z',hi',hzz',hzs,h1,hr⟩:=H2 (C:=⟨J,C5 w O,K,hv,U.m⟩) hz;rw[hi] at hi';injection hi' with hi';subst hi';rw[hzz] at hzz';injection hzz' with hzz';subst hzz';have his:Cj P e=i.size:=by simp[Cj,hi]
 have hib:K4 P e=i.bytes:=by simp[K4,hi]
 simp only[En,Bt,decide_eq_true_eq] at hsm;obtain⟨⟨hb0,hb1⟩,hsz⟩:=hsm;obtain⟨p1,hp1,hpr1⟩:=E6 (ds:=a.defers) (C:=⟨J,C5 w O,K,hv,U.m⟩) hG rfl hx h.tmps;have hp1':n.ev J=some p1:=hp1;obtain⟨pz,hpz,hpzc⟩:=Wb (C:=⟨J,C5 w O,K,hv,U.m⟩) hr h1 hze;have hpz':ze.ev J=some pz:=hpz;simp only[E.ev,hp1',hpz',B0] at hys;unfold M6 at hys;split at hys
 .rename_i k;split at hys
  .rename_i hb;injection hys with hys;injection hys with _ hys;subst hys;have e1:a.eval x= .int .i64 (k.toNat:Int):=by have:a.eval x= .int .i64 k:=hpr1.int;rw[this];congr 1;omega
   have hkl:k.toNat<=1073741824:=by have:=hb.2.1;simp only[LIM] at this;omega
   rw[e1];exact⟨_,Dr1 ht hui hi hzz hzs h1 (by omega) (by rw[hb.2.2,his]) (by omega) (hpzc (by rw[hb.2.2,hzs,his])) k.toNat hkl,fun _=>trivial,.inl rfl⟩
  .cases hys
 .cases hys
def dc {t e:TypeId} {x y:Operand} {n n' ze:E} {zs:List SV} {s:Nat} (ho:o.op= .makeSlice t x y) (he:Is P t=some e) (h:Rel w0 Oe J U a.tmps w K hv O) (hG:GOk J G) (hx:G8 P U G 0 x=some n) (hy:G8 P U G 0 y=some n') (hs:n.same (.c (.i .i64 0))=true)
  (hsm:En P e=true) (hz:Jd P e=some zs) (hk:Chk J [.chk (.rep (Cj P e) n' ze)]):
  Fc P o a w (Ix w0 Oe J U a.tmps (H0 U.m U.n s (.arr e (Cj P e) (.c (.l (Cj P e) [])) .no)) (.h s)):=by
 have ht:P.underlying t=some (.slice e):=by
  unfold Is at he;split at he
  .rename_i h;rw[h];injection he with he;rw[he]
  .cases he
 have:=E.same_eq _ _ hs;subst this;obtain⟨i,z,hi,hzz,hzs,h1,hr⟩:=H2 (C:=⟨J,C5 w O,K,hv,U.m⟩) hz;have his:Cj P e=i.size:=by simp[Cj,hi]
 have hib:K4 P e=i.bytes:=by simp[K4,hi]
 simp only[En,Bt,decide_eq_true_eq] at hsm;obtain⟨⟨hb0,hb1⟩,hsz⟩:=hsm;obtain⟨q,hq⟩:=hk _ (Cl.2 rfl);have hq':=hq;obtain⟨p1,hp1,hpr1⟩:=E6 (ds:=a.defers) (C:=⟨J,C5 w O,K,hv,U.m⟩) hG rfl hx h.tmps;obtain⟨p2,hp2,hpr2⟩:=E6 (ds:=a.defers) (C:=⟨J,C5 w O,K,hv,U.m⟩) hG rfl hy h.tmps;have hp2':n'.ev J=some p2:=hp2;simp only[E.ev,Bn] at hp1;subst hp1;simp only[E.ev,hp2',B0,Bl] at hq';obtain⟨pz,_,hq'⟩:=hq';unfold M6 at hq';split at hq'
 .rename_i k;split at hq'
  .rename_i hb;have e1:a.eval x= .int .i64 ((0:Nat):Int):=hpr1.int;have e2:a.eval y= .int .i64 (k.toNat:Int):=by have:a.eval y= .int .i64 k:=hpr2.int;rw[this];congr 1;omega
   have hkl:k.toNat<=1073741824:=by have:=hb.2.1;simp only[LIM] at this;omega
   have hbytes:i.bytes*k.toNat<=65536*1073741824:=Kv (by omega) hkl;have hrun:=run_make (P:=P) w t e i z ht hi hzz .i64 .i64 ((0:Nat):Int) (k.toNat:Int) (by omega) (by omega) (by
    have:((i.bytes*k.toNat:Nat):Int)<=281474976710656:=by omega
    rwa[Int.natCast_mul] at this) (by omega)
   simp only[Eg] at hrun;have hbel:Blw w.heap.size w (w.alloc (.cells (madeCells z.cells (k.toNat*i.size)) e)):=(Blw.refl _ _).alloc (B7 _) _;have hown:Own (w.alloc (.cells (madeCells z.cells (k.toNat*i.size)) e)) (Bz7 w.heap.size) e (Cj P e) (.slice (some ⟨w.heap.size,0,none⟩) 0 k.toNat) 0 []:=by
    refine⟨by simp,?_⟩;by_cases hk0:k.toNat=0
    .rw[hk0];exact .inl ⟨_,rfl,rfl⟩
    .exact .inr ⟨w.heap.size,k.toNat,_,rfl,by omega,B7 _,heap_alloc_new w _,Dz _,by simp only[maxLen];omega,by rw[size_madeCells,his],by simp⟩
   obtain⟨β',hv',O',r1,r2⟩:=h.ownNew (n:=U.n) (s:=s) (e:=e) (sz:=Cj P e) (ro:= .no) (x:= .c (.l (Cj P e) [])) (v:= .slice (some ⟨w.heap.size,0,none⟩) 0 k.toNat) (xs:=[]) (vs:=[]) hbel (by simp)
    (fun g hg=>by simp only[Dd] at hg;split at hg<;>simp at hg;exact hg.symm) hsz (by simp only[E.ev]) hown (fun i x hx=>by simp at hx)
   refine Fc.value (v:= .slice (some ⟨w.heap.size,0,none⟩) 0 k.toNat) (w':=w.alloc (.cells (madeCells z.cells (k.toNat*i.size)) e)) ?_ ⟨β',hv',O',r1,?_⟩
   .simp only[execOp,ho,e1,e2,Sem.run_bind,hrun,Result.andThen];rfl
   .simp only[Cw];exact r2.symm
  .cases hq'
 .cases hq'
def lq {t e:TypeId} {x y:Operand} {n n' ze:E} {zs:List SV} {s:Nat} (ho:o.op= .makeSlice t x y) (he:Is P t=some e) (h:Rel w0 Oe J U a.tmps w K hv O) (hG:GOk J G) (hx:G8 P U G 0 x=some n) (hy:G8 P U G 0 y=some n') (hs:n.same n'=true)
  (hsm:En P e=true) (hz:Jd P e=some zs) (hze:Wc zs=some ze) (hk:Chk J [.chk (.rep (Cj P e) n ze)]):
  Fc P o a w (Ix w0 Oe J U a.tmps (H0 U.m U.n s (.arr e (Cj P e) (.rep (Cj P e) n ze) .no)) (.h s)):=by
 have ht:P.underlying t=some (.slice e):=by
  unfold Is at he;split at he
  .rename_i h;rw[h];injection he with he;rw[he]
  .cases he
 have:=E.same_eq _ _ hs;subst this;obtain⟨i,z,hi,hzz,hzs,h1,hr⟩:=H2 (C:=⟨J,C5 w O,K,hv,U.m⟩) hz;have his:Cj P e=i.size:=by simp[Cj,hi]
 have hib:K4 P e=i.bytes:=by simp[K4,hi]
 simp only[En,Bt,decide_eq_true_eq] at hsm;obtain⟨⟨hb0,hb1⟩,hsz⟩:=hsm;obtain⟨q,hq⟩:=hk _ (Cl.2 rfl);have hq':=hq;obtain⟨p1,hp1,hpr1⟩:=E6 (ds:=a.defers) (C:=⟨J,C5 w O,K,hv,U.m⟩) hG rfl hx h.tmps;obtain⟨p2,hp2,hpr2⟩:=E6 (ds:=a.defers) (C:=⟨J,C5 w O,K,hv,U.m⟩) hG rfl hy h.tmps;have hp1':n.ev J=some p1:=hp1;have hp2':n.ev J=some p2:=hp2;rw[hp1'] at hp2';injection hp2' with hp2';subst hp2';obtain⟨pz,hpz,hpzc⟩:=Wb (C:=⟨J,C5 w O,K,hv,U.m⟩) hr h1 hze;have hpz':ze.ev J=some pz:=hpz;simp only[E.ev,hp1',hpz',B0] at hq';unfold M6 at hq';split at hq'
 .rename_i k;split at hq'
  .rename_i hb;injection hq' with hq';have e1:a.eval x= .int .i64 (k.toNat:Int):=by have:a.eval x= .int .i64 k:=hpr1.int;rw[this];congr 1;omega
   have e2:a.eval y= .int .i64 (k.toNat:Int):=by have:a.eval y= .int .i64 k:=hpr2.int;rw[this];congr 1;omega
   have hkl:k.toNat<=1073741824:=by have:=hb.2.1;simp only[LIM] at this;omega
   have hbytes:i.bytes*k.toNat<=65536*1073741824:=Kv (by omega) hkl;have hrun:=run_make (P:=P) w t e i z ht hi hzz .i64 .i64 (k.toNat:Int) (k.toNat:Int) (by omega) (Yh _) (by
    have:((i.bytes*k.toNat:Nat):Int)<=281474976710656:=by omega
    rwa[Int.natCast_mul] at this) (by omega)
   simp only[Eg] at hrun;have hbel:Blw w.heap.size w (w.alloc (.cells (madeCells z.cells (k.toNat*i.size)) e)):=(Blw.refl _ _).alloc (B7 _) _;have hown:=Own.of (World.ownsRow_lit (e:=e) (size:=Cj P e) (base:=w.heap.size) w (madeCells z.cells (k.toNat*i.size)) k.toNat (B7 _) (by simp only[maxLen];omega) (by rw[size_madeCells,his]));have hel:J5 (C5 w O) (Cj P e) (List.replicate k.toNat pz) (madeCells z.cells (k.toNat*i.size)).toList:=by
    intro j x hj;rw[K3] at hj;split at hj
    .rename_i hjk;injection hj with hj;subst hj;refine⟨hb.2.2,fun m c hc=> ?_⟩;have hm:m<Cj P e:=by rw[<-hb.2.2];exact(Br.1 hc).1
     obtain⟨u,g1,g2,g3⟩:=hpzc (by rw[hb.2.2,hzs,his]) m c hc;refine⟨u,?_,g2,g3⟩;have hlt:j*Cj P e+m<k.toNat*i.size:=by have:(j+1)*Cj P e<=k.toNat*Cj P e:=C0 _ hjk;rw[Dl,Gh] at this;rw[<-his];omega
     have hmod:(j*Cj P e+m) % z.cells.size=m:=by rw[hzs,<-his,Hg,ic,Fj hm]
     rw[B9];simp only[madeCells,Ik2,Bb2,hlt,if_true,Cc,hmod];rw[Array.getElem!_eq_getD,Cg,g1];rfl
    .cases hj
   obtain⟨β',hv',O',r1,r2⟩:=h.ownNew (n:=U.n) (s:=s) (e:=e) (sz:=Cj P e) (ro:= .no) (x:= .rep (Cj P e) n ze) (v:= .slice (some ⟨w.heap.size,0,none⟩) k.toNat k.toNat) (xs:=List.replicate k.toNat pz) (vs:=(madeCells z.cells (k.toNat*i.size)).toList) hbel (by simp)
    (fun g hg=>by simp only[Dd] at hg;split at hg<;>simp at hg;exact hg.symm) hsz (hq.trans (by rw[<-hq'])) (by rw[Hy];exact hown) hel
   refine Fc.value (v:= .slice (some ⟨w.heap.size,0,none⟩) k.toNat k.toNat) (w':=w.alloc (.cells (madeCells z.cells (k.toNat*i.size)) e)) ?_ ⟨β',hv',O',r1,?_⟩
   .simp only[execOp,ho,e1,e2,Sem.run_bind,hrun,Result.andThen];rfl
   .simp only[Cw];exact r2.symm
  .cases hq'
 .cases hq'
end
end Go.X
set_option linter.unusedVariables false
namespace Go.X
open Go Go.RowKit
variable {P:Program}
def Tb (b:Nat) (p:Value) (w w1:World):Prop:=
 (p= .pointer none∧w1=w.setCell ⟨b,0,none⟩ (.pointer (some ⟨b,0,none⟩)))∨(p= .pointer (some ⟨b,0,none⟩)∧w1=w)
def Tb.blk {b:Nat} {p u:Value} {w w1:World} {T:TypeId} (hbk:w.heap[b]? =some (.cells #[p,u] T (0,0))) (h:Tb b p w w1):w1.heap[b]? =some (.cells #[.pointer (some ⟨b,0,none⟩),u] T (0,0)):=by
 rcases h with⟨rfl,rfl⟩|⟨rfl,rfl⟩
 .simp[World.setCell,rj,hbk]
 .exact hbk
def Y1 {ops:Array Oper} {rest:List Oper} {o:Oper} {a:Act} {w w2:World} {v':Value} {Q:Exit->Act->World->Prop} (hgd:o.guard=none) (sl x:Operand) (t u:TypeId)
  (ho:o.op= .call {callee:= .builtin .append,args:= #[sl,x],argTypes:= #[t,u]}) (v vx:Value) (hs:a.eval sl=v) (hx:a.eval x=vx)
  (hr:(Builtin.append_ #[t,u] o.type #[v,vx]).run P w= .ok v' w2) (h:wpList P ops Q rest (a.put o.dst v') w2):wpList P ops Q (o::rest) a w:=by
 refine wpList_plain hgd fun Bg hK=> ?_;unfold Oper.wp execOp;simp only[ho,resolve,invoke,builtin,Sem.run_bind,Sem.run_pure,Result.andThen_ok,List.map_toArray,G2,List.map_nil,hs,hx,hr];exact hK _ _ h
end Go.X
namespace Go.X
open Go Go.RowKit
def I5 (P:Program) (f:FuncId) (args:Array Value) (w:World) (R:Value->World->Prop):Prop:=
 (∃v w',(callFunc f args).run P w= .ok (.value v) w'∧R v w')∨
 (∃w',(callFunc f args).run P w= .ok (.enter f args) w'∧Calls P f args w' fun e w''=>∃v,e= .returned v∧R v w'')
def I5.mono {P:Program} {f:FuncId} {args:Array Value} {w:World} {R R':Value->World->Prop} (h:I5 P f args w R) (hr:∀v w',R v w'->R' v w'):I5 P f args w R':=by
 rcases h with⟨v,w',h1,h2⟩|⟨w',h1,h2⟩
 .exact .inl ⟨v,w',h1,hr _ _ h2⟩
 .exact .inr ⟨w',h1,h2.mono fun e w'' ⟨v,he,hv⟩=>⟨v,he,hr _ _ hv⟩⟩
def I5.of_calls {P : Program} {f : FuncId} {fn : Func} {args : Array Value} {w : World} {R : Value → World → Prop} (hf : P.funcs[f]? = some fn) (hn : (fn.name == "runtime.NumGoroutine") = false) (hb : fn.body.isSome = true)
  (h:Calls P f args w fun e w'=>∃v,e= .returned v∧R v w'):I5 P f args w R:=by
 refine .inr ⟨w,?_,h⟩;have hn' : fn.name ≠ "runtime.NumGoroutine" := by simpa using hn
 have hb':fn.body≠none:=by cases hh:fn.body<;>simp_all
 simp[callFunc,hf,hn',hb']
def N1 (M:Vw) (rs:List PV) (v:Value):Prop:=match rs with
 |[p]=>Rep M p v
 |rs=>∃vs:Array Value,v= .tuple vs∧vs.size=rs.length∧∀(j:Nat) (p:PV) (u:Value),rs[j]? =some p->vs[j]? =some u->Rep M p u
def Hs9 (nl:Bool) (m:Nat) (v:Value):Prop:=∀j,m.testBit j=true->∃(vs:Array Value) (a:Option Addr) (n:Nat),v= .agg vs∧vs[j]? =some (.slice a n n)∧(nl=true->a=none∧n=0)
def In9 (P:Program) (w w':World) (O':Nat->Option Nat) (rs:List PV) (v:Value):RK->Prop
 | .plain=>N1 (C5 w' O') rs v
 | .own e=>0<Cj P e∧∃xs us,rs=[.l (Cj P e) xs]∧Own w' (Bz7 w.heap.size) e (Cj P e) v xs.length us∧J5 (C5 w' O') (Cj P e) xs us∧∀g,Dd v=some g->O' g=some 0
 | .full nl m=>N1 (C5 w' O') rs v∧Hs9 nl m v
 | .ownt e=>0<Cj P e∧∃xs us p v1 v2,rs=[.l (Cj P e) xs,p]∧v= .tuple #[v1,v2]∧Own w' (Bz7 w.heap.size) e (Cj P e) v1 xs.length us∧J5 (C5 w' O') (Cj P e) xs us∧(∀g,Dd v1=some g->O' g=some 0)∧Rep (C5 w' O') p v2
def Eh3 (P:Program) (own:Option Nat) (w:World) (O:Nat->Option Nat) (rs:List PV) (v:Value) (w':World):Prop:=
 Blw w.heap.size w w'∧∃O',(∀c,c<w.heap.size->O' c=O c)∧(∀c,w'.heap.size<=c->O' c=none)∧In9 P w w' O' rs v (rkOf own)
structure Given (w:World) (O:Nat->Option Nat) (n:Nat) (vs:List PV) (args:Array Value):Prop where
 out:∀c,w.heap.size<=c->O c=none
 size:args.size=vs.length
 val:∀(j:Nat) (p:PV) (v:Value),j<n->vs[j]? =some p->args[j]? =some v->Rep (C5 w O) p v
 cap:∀(j:Nat) (p:PV) (v:Value),n<=j->vs[j]? =some p->args[j]? =some v->I4 (C5 w O) p.cells v
structure GivenM (P:Program) (e:Nat) (w:World) (O:Nat->Option Nat) (n:Nat) (vs:List PV) (args:Array Value) (v0:Value) (xs:List PV) (us:List Value):Prop where
 out:∀c,w.heap.size<=c->O c=none
 size:args.size=vs.length
 pos:0<n
 fst:vs[0]? =some (.l (Cj P e) xs)
 arg:args[0]? =some v0
 sz:0<Cj P e
 own:Own w (fun _=>True) e (Cj P e) v0 xs.length us
 el:J5 (C5 w O) (Cj P e) xs us
 shut:∀g,Dd v0=some g->O g=some 0
 val:∀(j:Nat) (p:PV) (v:Value),0<j->j<n->vs[j]? =some p->args[j]? =some v->Rep (C5 w O) p v
 cap:∀(j:Nat) (p:PV) (v:Value),n<=j->vs[j]? =some p->args[j]? =some v->I4 (C5 w O) p.cells v
def Eh2 (P:Program) (e:Nat) (r:Bool) (v0:Value) (w:World) (O:Nat->Option Nat) (rs:List PV) (v:Value) (w':World):Prop:=
 Bel ⟨w,some v0⟩ w'∧∃O',(∀c,c<w.heap.size->Dd v0≠some c->O' c=O c)∧(∀c,w'.heap.size<=c->O' c=none)∧
  ∃xs us,rs=[.l (Cj P e) xs]∧J5 (C5 w' O') (Cj P e) xs us∧
   (r=true->Own w' (Fr.mk w (some v0)).ok e (Cj P e) v xs.length us∧∀g,Dd v=some g->O' g=some 0)∧
   (r=false->v= .tuple #[]∧Own w' (fun _=>True) e (Cj P e) v0 xs.length us∧∀g,Dd v0=some g->O' g=some 0)
structure Says (P:Program) (sig:Nat->Option Nat) (f n:Nat) (vs rs:List PV):Prop where
 plain:n<TAG->∀(w:World) (O:Nat->Option Nat) (args:Array Value),Given w O n vs args->I5 P f args w (Eh3 P (sig f) w O rs)
 turns:TAG<=n->(∃e r,g8 (sig f)=some (e,r)∧∀(w:World) (O:Nat->Option Nat) (args:Array Value) (v0:Value) (xs:List PV) (us:List Value),GivenM P e w O (n - TAG) vs args v0 xs us->I5 P f args w (Eh2 P e r v0 w O rs))∨
  ∃e,Bv0 (sig f)=some e∧∀(w:World) (O:Nat->Option Nat) (args:Array Value) (b:Option Addr) (xs:List PV),Given w O (n - TAG) vs args->vs[0]? =some (.l (Cj P e) xs)->args[0]? =some (.slice b xs.length xs.length)->I5 P f args w (Eh3 P (sig f) w O rs)
def Sp (P:Program) (f T:Nat):Nat->Prop
 |0=>∃tb ts e,Ty P T=some e∧P.underlying tb=some (.slice e)∧P.underlying ts=some .string∧∀(w w1 w2:World) (b:Nat) (p u:Value) (s:ByteArray) (ao:Option Addr) (n' c':Nat),w.heap[b]? =some (.cells #[p,u] T (0,0))->Tb b p w w1->
   (Builtin.append_ #[tb,ts] tb #[u,.string s]).run P w1= .ok (.slice ao n' c') w2->(∃q u',w2.heap[b]? =some (.cells #[q,u'] T (0,0)))->
   I5 P f #[.pointer (some ⟨b,0,none⟩),.string s] w fun _ w'=>w'=w2.setCell ⟨b,1,none⟩ (.slice ao n' c')
 |1=>∃tb e,Ty P T=some e∧P.underlying tb=some (.slice e)∧∀(w w1 w2:World) (b:Nat) (p u:Value) (c:Int) (ao:Option Addr) (n' c':Nat),w.heap[b]? =some (.cells #[p,u] T (0,0))->Tb b p w w1->
   (Builtin.append_ #[tb,tb] tb #[u,.slice (some ⟨w1.heap.size,0,none⟩) 1 1]).run P (w1.alloc (.cells #[.int .u8 c] e))= .ok (.slice ao n' c') w2->(∃q u',w2.heap[b]? =some (.cells #[q,u'] T (0,0)))->
   I5 P f #[.pointer (some ⟨b,0,none⟩),.int .u8 c] w fun _ w'=>w'=w2.setCell ⟨b,1,none⟩ (.slice ao n' c')
 |_=>∃e,Ty P T=some e∧∀(w:World) (b g cap:Nat) (p:Value) (cur:Array Value) (l:List UInt8),w.heap[b]? =some (.cells #[p,.slice (some ⟨g,0,none⟩) l.length cap] T (0,0))->
   w.heap[g]? =some (.cells cur e (0,0))->l≠[]->l.length<=cap->cap<=maxLen->cur.size=cap->cur.toList.take l.length=Lib.byteCells l->
   I5 P f #[.pointer (some ⟨b,0,none⟩)] w fun v w'=>v= .string ⟨l.toArray⟩∧w'=w.drew.freeze ⟨g,0,none⟩ l.length
def Ik0 (P:Program) (sig:Nat->Option Nat):Prop:=∀f T k,yq (sig f)=some (T,k)->Sp P f T k
structure Contract (P:Program) (sig:Nat->Option Nat) (fn:Fns):Prop where
 says:∀f n vs rs,fn f n vs=some rs->Says P sig f n vs rs
 bld:Ik0 P sig
section
variable {P:Program} {sig:Nat->Option Nat} {fn:Fns} {w0:Fr} {Oe:Nat->Option Nat} {J:List PV} {U:St} {a:Act} {tm:Array Value} {w:World} {K:Nat->Nat} {hv:Nat->Value} {O:Nat->Option Nat} {G:Option E} {o:Oper} {ws:List W}
def Rel.belowO {w':World} {O':Nat->Option Nat} (h:Rel w0 Oe J U tm w K hv O) (hb:Blw w.heap.size w w') (hO:∀c,c<w.heap.size->O' c=O c) (hout:∀c,w'.heap.size<=c->O' c=none):Rel w0 Oe J U tm w' K hv O'∧(C5 w O).Le (C5 w' O'):=by
 have hM:(C5 w O).Le (C5 w' O'):=Ir (fun c hc _=>hb.block c hc) (fun c hc lim hl=>⟨lim,by rw[<-hO c hc];exact hl,B7 _⟩) (fun c hc hn=>by rw[hO c hc];exact hn);have hl:(Cx.mk J (C5 w O) K hv U.m).Le ⟨J,C5 w' O',K,hv,U.m⟩:=⟨fun _ _ h=>h,hM⟩;have hs0:w0.heap.size<=w.heap.size:=h.bel.size;refine⟨⟨h.bel.then hb,fun c hc hx=>by rw[hO c (Gl hc hs0)];exact h.ext c hc hx,hout,Cd.le hl (fun s=>At.of (fun _ _ h=>h) s) _ _ h.tmps,fun s b hs=> ?_,fun s1 s2 b1 b2 h1 h2 h12 k1 k2=> ?_,h.t0⟩,hM⟩
 .have hbl:=h.mem s b hs;exact hbl.le hl (fun s=>At.of (fun _ _ h=>h) s) (fun hh=>hb.block _ (hbl.lt hh).2) (fun hh=>hO _ (hbl.lt hh).2)
 .exact h.inj s1 s2 b1 b2 h1 h2 h12 ((Has.congr (C:=⟨J,C5 w O,K,hv,U.m⟩) rfl rfl).1 k1) ((Has.congr (C:=⟨J,C5 w O,K,hv,U.m⟩) rfl rfl).1 k2)
def Cm0 {w:World} {O:Nat->Option Nat} {B:Nat->Prop} {e sz:Nat} {v:Value} {xs:List PV} {us:List Value} (hsz:0<sz) (how:Own w B e sz v xs.length us) (hel:J5 (C5 w O) sz xs us):
  Rep (C5 w fun c=>if Dd v=some c then none else O c) (.l sz xs) v:=by
 have hM:(C5 w O).Le (C5 w fun c=>if Dd v=some c then none else O c):=Ir (fun _ _ _=>rfl) (fun c _ lim hl=>by
  split at hl
  .cases hl
  .exact⟨lim,hl,B7 _⟩) (fun c _ hn=>by
  split
  .rfl
  .exact hn)
 rcases how.2 with⟨b,rfl,hn⟩|⟨g,cap,cur,rfl,e1c,e2,e3,e4,e5,e6,e7⟩
 .have hx:xs=[]:=C1 hn;subst hx;exact Rep.lnil _ _ _ _
 .have hg:Dd (.slice (some ⟨g,0,none⟩) xs.length cap)=some g:=by simp only[Dd,if_neg (show¬cap=0 by omega)]
  have get:∀(i:Nat) (x:PV) (j:Nat) (c:PV),xs[i]? =some x->x.cells[j]? =some c->∃u,us[i*sz+j]? =some u∧One u∧Rep (C5 w O) c u:=fun i x j c hx hc=>(hel i x hx).2 j c hc;refine .l sz xs _ cap ⟨g,0,none⟩ (fun i j=>us.getD (i*sz+j) undef) e4 (fun _=>rfl) (fun i x hx=>(hel i x hx).1) (fun i x j c hx hc=> ?_) (fun i x j c hx hc=> ?_) (fun i x j c hx hc=> ?_)
  .obtain⟨u,k1,k2,k3⟩:=get i x j c hx hc;simp only[C4,k1,Ez];refine F8 (how.cells hg _ _ k1) fun lim hl=> ?_;rw[add_lit] at hl;simp only[hg,if_true] at hl;cases hl
  .obtain⟨u,k1,k2,k3⟩:=get i x j c hx hc;simp only[C4,k1,Ez];exact k2
  .obtain⟨u,k1,k2,k3⟩:=get i x j c hx hc;simp only[C4,k1,Ez];exact k3.mono hM
def Eh3.plain {own:Option Nat} {rs:List PV} {v:Value} {w':World} (h:Eh3 P own w O rs v w') (hO:∀c,w.heap.size<=c->O c=none):Blw w.heap.size w w'∧∃O',(∀c,c<w.heap.size->O' c=O c)∧(∀c,w'.heap.size<=c->O' c=none)∧N1 (C5 w' O') rs v:=by
 obtain⟨hb,O',h1,h2,h3⟩:=h;refine⟨hb,?_⟩;generalize rkOf own=k at h3;cases k with
 |plain=>exact⟨O',h1,h2,h3⟩
 |full nl m=>exact⟨O',h1,h2,h3.1⟩
 |ownt e=>
  obtain⟨h0,xs,us,p,v1,v2,rfl,rfl,h4,h5,h6,h7⟩:=h3;have hM:(C5 w' O').Le (C5 w' fun c=>if Dd v1=some c then none else O' c):=Ir (fun _ _ _=>rfl) (fun c _ lim hl=>by
   split at hl
   .cases hl
   .exact⟨lim,hl,B7 _⟩) (fun c _ hn=>by
   split
   .rfl
   .exact hn)
  refine⟨fun c=>if Dd v1=some c then none else O' c,fun c hc=> ?_,fun c hc=> ?_,#[v1,v2],rfl,rfl,fun j q u hq hu=> ?_⟩
  .dsimp only;rw[if_neg,h1 c hc];intro hg;have:=(h4.lt c hg).1;omega
  .dsimp only;split
   .rfl
   .exact h2 c hc
  .match j with
   |0=>
    simp only[D7,Bn] at hq;have hu':some v1=some u:=hu;injection hu' with hu';subst hq;subst hu';exact Cm0 h0 h4 h5
   |1=>
    have hq':some p=some q:=hq;have hu':some v2=some u:=hu;injection hq' with hq';injection hu' with hu';subst hq';subst hu';exact h7.mono hM
   |j+2=>
    have hq':(none:Option PV)=some q:=hq;cases hq'
 |own e=>
  obtain⟨h0,xs,us,rfl,h4,h5,h6⟩:=h3;refine⟨fun c=>if Dd v=some c then none else O' c,fun c hc=> ?_,fun c hc=> ?_,Cm0 h0 h4 h5⟩
  .dsimp only;rw[if_neg,h1 c hc];intro hg;have:=(h4.lt c hg).1;omega
  .dsimp only;split
   .rfl
   .exact h2 c hc
def Rep.flat {M M':Vw} {p:PV} {v:Value} (h:Rep M p v) (hp:p.flat=true):Rep M' p v:=by
 induction h with
 |b x=>exact .b x
 |i k n=>exact .i k n
 |s x y h=>exact .s x y h
 |a cs vs hl h1 _ ih=>
  refine .a cs vs hl h1 fun j c v hc hv=>ih j c v hc hv ?_;have:∀(l:List PV),PV.flat.flats l=true->∀c,c∈l->c.flat=true:=by
   intro l
   induction l with
   |nil=>intro _ c hc;simp at hc
   |cons x l ih=>
    intro h c hc;simp only[PV.flat.flats,Bt] at h;rcases Ch.1 hc with rfl|hc
    .exact h.1
    .exact ih h.2 c hc
  simp only[PV.flat] at hp;exact this cs hp c (B6 hc)
 |u _=>simp[PV.flat] at hp
 |l=>simp[PV.flat] at hp
 |f=>simp[PV.flat] at hp
 |m=>simp[PV.flat] at hp
 |pt=>simp[PV.flat] at hp
def Nb:∀(l:List PV),PV.flat.flats l=true->∀c,c∈l->c.flat=true
 |[],_,c,hc=>by simp at hc
 |x::l,h,c,hc=>by
  simp only[PV.flat.flats,Bt] at h;rcases Ch.1 hc with rfl|hc
  .exact h.1
  .exact Nb l h.2 c hc
def N1.flat {M M':Vw} {rs:List PV} {v:Value} (h:N1 M rs v) (hf:PV.flat.flats rs=true):N1 M' rs v:=by
 unfold N1 at h ⊢;split at h
 .rename_i p;exact h.flat (Nb _ hf _ (.head _))
 .obtain⟨vs,h1,h2,h3⟩:=h;exact⟨vs,h1,h2,fun j p u hp hu=>(h3 j p u hp hu).flat (Nb _ hf _ (B6 hp))⟩
end
section
variable {P:Program} {sig:Nat->Option Nat} {fn:Fns} {w0:Fr} {Oe:Nat->Option Nat} {J:List PV} {U:St} {a:Act} {tm:Array Value} {w:World} {K:Nat->Nat} {hv:Nat->Value} {O:Nat->Option Nat} {G:Option E} {o:Oper} {ws:List W}
def Rel.setN (h:Rel w0 Oe J U tm w K hv O) (n:Nat):Rel w0 Oe J (U.eff ⟨U.m,n,none⟩) tm w K hv O:=⟨h.bel,h.ext,h.out,h.tmps,h.mem,h.inj,h.t0⟩
def Tgt (M:Vw) (f:Nat) (caps:List PV) (v:Value):Prop:=
 ∃cv:Array Value,v= .func (.func f) #[] cv∧cv.size=caps.length∧∀(j:Nat) (p:PV) (u:Value),caps[j]? =some p->cv[j]? =some u->I4 M p.cells u
def Tgt.static (M:Vw) (f:Nat):Tgt M f [] (.func (.func f) #[] #[]):=⟨#[],rfl,rfl,fun j p u h=>by simp at h⟩
def Tgt.of_rep {M:Vw} {f:Nat} {caps:List PV} {v:Value} (h:Rep M (.f f caps) v):Tgt M f caps v:=by
 cases h with
 |f _ _ cv ads el hl hcv hM h1 h=>
  refine⟨cv,rfl,hl,fun j p u hp hu=> ?_⟩;have hj:=(Br.1 hp).1;rw[hcv j hj] at hu;injection hu with hu;exact⟨ads j,el j,hu.symm,fun k c hc=>hM j p k c hp hc,fun k c hc=>h1 j p k c hp hc,fun k c hc=>h j p k c hp hc⟩
def H3 {c:Call} {x:Operand} {f:Nat} {cv:Array Value} {R:Value->World->Prop} (ho:o.op= .call c) (hc:c.callee= .value x) (hx:a.eval x= .func (.func f) #[] cv) (h:I5 P f (c.args.map a.eval++cv) w R):Fc P o a w R:=by
 have e:(execOp a.eval o).run P w=(callFunc f (c.args.map a.eval++cv)).run P w:=by simp[execOp,ho,resolve,hc,hx,Deferred.ofValue,invoke]
 rcases h with⟨v,w',h1,h2⟩|⟨w',h1,h2⟩
 .exact .inl ⟨v,w',by rw[e];exact h1,h2⟩
 .exact .inr (.inr ⟨_,_,w',by rw[e];exact h1,h2⟩)
def Ak8 {C:Cx} {η1 rs I:List PV} {n:Nat} {single:Bool} {v:Value} (hη:C.J=η1++rs++I) (hn:η1.length=n) (hs:single=true->rs.length=1) (hs2:single=false->rs.length≠1) (hr:N1 C.M rs v):Cw C (Cx4 n rs.length single) v:=by
 have get:∀j p,rs[j]? =some p->C.J[n+j]? =some p:=by intro j p hp;have hj:=(Br.1 hp).1;rw[hη,Cy,Cf (by omega),<-hn,Nat.add_sub_cancel_left,Cm hj];exact hp
 cases single with
 |true=>
  have h1:=hs rfl
  match rs,h1 with
  |[p],_=>
   have hr':Rep C.M p v:=hr;simp only[Cx4,if_true,Cw,E.ev];exact⟨p,get 0 p rfl,hr'⟩
 |false=>
  have h1:=hs2 rfl;have hr':∃vs:Array Value,v= .tuple vs∧vs.size=rs.length∧∀(j:Nat) (p:PV) (u:Value),rs[j]? =some p->vs[j]? =some u->Rep C.M p u:=by
   unfold N1 at hr;split at hr
   .exact absurd rfl h1
   .exact hr
  obtain⟨vs,rfl,h2,h3⟩:=hr';simp only[Cx4,B5,if_false,Cw];refine⟨vs,rfl,Cd.mk (by simp[h2]) fun j x u hx hu=> ?_⟩;simp only[Dk,Bs] at hx;obtain⟨k,hk,rfl⟩:=hx;have hj:j<rs.length:=by have:=(Br.1 hk).1;simpa using this
  rw[Dn hj] at hk;injection hk with hk;subst hk;simp only[Cw,E.ev];have hp:rs[j]? =some rs[j]:=B3 hj;exact⟨rs[j],get j _ hp,h3 j _ u hp (by rw[<-B9];exact hu)⟩
def J6 {flat:Bool} {m:Nat} {η1 η2:List PV} {r:Option (List PV)} (h:results flat m η1 r=some η2):∃rs,r=some rs∧rs.length=m∧(flat=true->PV.flat.flats rs=true)∧η2=η1++rs:=by
 simp only[results,Bl] at h;obtain⟨rs,hr,h⟩:=h;split at h
 .rename_i hc;injection h with h;exact⟨rs,hr,hc.1,hc.2,h.symm⟩
 .cases h
def Z7 {m:Nat} {η1 η2 I:List PV} {r:Option (List PV)} (h:Gb η1 m G r=some η2) (hη:J=η2++I) (hp:r=some η2->∃I,η2=η1++I) (hG:GOk J G):r=some η2:=by
 unfold Gb at h;split at h
 .exact h
 .rename_i g;simp only[Bl] at h;obtain⟨v,hv,h⟩:=h;split at h
  .exact h
  .injection h with h;have:=E.ev_mono η1 (List.replicate m .u++I) g _ hv;rw[<-Cy,h,<-hη,hG g rfl] at this;cases this
  .cases h
def Gc3 (P:Program) (sig:Nat->Option Nat) (m0:List (Nat×Blk)) (n:Nat) (J:List PV) (ty s f:Nat) (flat:Bool) (r:SV) (F:Eff) (r':SV) (ε':Eff):Prop:=
 (r'=r∧ε'=F)∨(∃e,rkOf (sig f)= .own e∧r'= .h s∧ε'=H0 F.m F.n s (.arr e (Cj P e) (.v n) .no))∨
 (∃e,rkOf (sig f)= .ownt e∧r'= .tup [.h s,.e (.v (n+1))]∧ε'=H0 F.m F.n s (.arr e (Cj P e) (.v n) .no))∨
 (∃e,rkOf (sig f)= .own e∧r'= .h s∧ε'=H0 m0 F.n s (.arr e (Cj P e) (.v n) .no)∧∃q,(E.flt (.v n)).ev J=some q)
def Gx3 (hC:Contract P sig fn) {c:Call} {x:Operand} {svs:List SV} {es:List E} {ss more:List Nat} {flat single:Bool} {m:Nat} {η1 I rs vs caps:List PV} {f s:Nat} {r:SV} {F:Eff} (ho:o.op= .call c) (hc:c.callee= .value x)
  (h:Rel w0 Oe J U a.tmps w K hv O) (hargs:Cd ⟨J,C5 w O,K,hv,U.m⟩ svs (c.args.map a.eval).toList) (hes:Aj7 U.m svs=some (es,ss)) (hvs:E.evs J es=some vs)
  (htgt:∀O1,(C5 w O).Le (C5 w O1)->(∀s,s∈more->Mh ⟨J,C5 w O,K,hv,U.m⟩ O1 s)->Tgt (C5 w O1) f caps (a.eval x))
  (hfn:fn f vs.length (vs++caps)=some rs) (hlt:vs.length<TAG) (hm:rs.length=m) (hfl:flat=true->PV.flat.flats rs=true) (hη:J=η1++rs++I) (hn:η1.length=U.n) (hs1:single=true->m=1) (hs2:single=false->m≠1)
  {ty:Nat} (hsi:L6 P ty=true->m=1) (hres:Gc3 P sig U.m U.n J ty s f flat (Cx4 U.n m single) ⟨if flat then U.m else Mn (ss++more) U.m,U.n+m,none⟩ r F):
  Fc P o a w (Ix w0 Oe J U a.tmps F r):=by
 obtain⟨O1,hrel,hM,hop,_⟩:=h.frz (ss++more) (n:=U.n+m);obtain⟨ps,q1,q2,q3⟩:=U9 h hM hes hargs (fun s hs=>hop s (by simp[hs]));rw[hvs] at q1;injection q1 with q1;subst q1;obtain⟨cv,hx,hcv,hcaps⟩:=htgt O1 hM (fun s hs=>hop s (by simp[hs]));have hsz:(c.args.map a.eval).size=vs.length:=by rw[q2,Dv]
 have hgiven:Given w O1 vs.length (vs++caps) (c.args.map a.eval++cv):=by
  refine⟨hrel.out,by rw[P2,Bp,hsz,hcv],fun j p v hj hp hu=> ?_,fun j p v hj hp hu=> ?_⟩
  .rw[Cm hj] at hp;rw[Em (by omega)] at hu;exact q3 j p v hp (by rw[B9];exact hu)
  .rw[Cf hj] at hp;rw[Array.getElem?_append_right (by omega),hsz] at hu;exact hcaps _ p v hp hu
 refine H3 ho hc hx (((hC.says f _ _ rs hfn).plain hlt w O1 _ hgiven).mono fun v w' hback=> ?_);subst hm;rcases hres with⟨rfl,rfl⟩|⟨e,hsig,rfl,rfl⟩|⟨e,hsig,rfl,rfl⟩|⟨e,hsig,rfl,rfl,q,hq⟩
 .obtain⟨hb,O1',k1,k2,k3⟩:=hback.plain hrel.out;cases flat with
  |true=>
   simp only[if_true];have hrel2:Rel w0 Oe J (U.eff ⟨U.m,U.n+rs.length,none⟩) a.tmps w' K hv O:=(h.below hb).setN _;refine⟨K,hv,O,hrel2,Ak8 (C:=⟨J,C5 w' O,K,hv,U.m⟩) hη hn hs1 hs2 (k3.flat (hfl rfl))⟩
  |false=>
   simp only[B5,if_false];obtain⟨hrel2,hM2⟩:=hrel.belowO hb k1 k2;exact⟨K,hv,O1',hrel2,Ak8 (C:=⟨J,C5 w' O1',K,hv,_⟩) hη hn hs1 hs2 k3⟩
 .obtain⟨hb,O1',k1,k2,k3⟩:=hback;rw[hsig] at k3;obtain⟨h0,xs,us,rfl,k4,k5,k6⟩:=k3;have hx1:(E.v U.n).ev J=some (.l (Cj P e) xs):=by simp only[E.ev];rw[hη,Cy,Cf (by omega),<-hn,Dl7];rfl
  cases flat with
  |true=>
   have:=hfl rfl;simp[PV.flat.flats,PV.flat] at this
  |false=>
   simp only[B5,if_false];obtain⟨β',hv',r1,r2⟩:=hrel.own (n:=U.n+1) (s:=s) (e:=e) (ro:= .no) (x:= .v U.n) hb k1 k2 k6 h0 hx1 k4 k5;refine⟨β',hv',O1',r1,?_⟩;simp only[Cw];exact r2.symm
 .obtain⟨hb,O1',k1,k2,k3⟩:=hback;rw[hsig] at k3;obtain⟨h0,xs,us,p,v1,v2,rfl,rfl,k4,k5,k6,k7⟩:=k3;have hx1:(E.v U.n).ev J=some (.l (Cj P e) xs):=by simp only[E.ev];rw[hη,Cy,Cf (by omega),<-hn,Dl7];rfl
  have hx2:(E.v (U.n+1)).ev J=some p:=by simp only[E.ev];rw[hη,Cy,Cf (by omega),<-hn,Nat.add_sub_cancel_left];rfl
  cases flat with
  |true=>
   have:=hfl rfl;simp[PV.flat.flats,PV.flat] at this
  |false=>
   simp only[B5,if_false];obtain⟨β',hv',r1,r2⟩:=hrel.own (n:=U.n+2) (s:=s) (e:=e) (ro:= .no) (x:= .v U.n) hb k1 k2 k6 h0 hx1 k4 k5;refine⟨β',hv',O1',r1,?_⟩;simp only[Cw];refine⟨#[v1,v2],rfl,?_⟩;simp only[Cd,Cw];exact⟨v1,[v2],rfl,r2.symm,v2,[],rfl,⟨p,hx2,k7⟩,rfl⟩
 .obtain⟨hb,O1',k1,k2,k3⟩:=hback;rw[hsig] at k3;obtain⟨h0,xs,us,rfl,k4,k5,k6⟩:=k3;have hx1:(E.v U.n).ev J=some (.l (Cj P e) xs):=by simp only[E.ev];rw[hη,Cy,Cf (by omega),<-hn,Dl7];rfl
  have hfx:PV.flat.flats xs=true:=by
   have hq':((E.v U.n).ev J).bind Gk1=some q:=by simpa only[E.ev] using hq
   rw[hx1,B0] at hq';unfold Gk1 at hq';dsimp only at hq';split at hq'
   .assumption
   .cases hq'
  have hel:J5 (C5 w' fun c=>if Dd v=some c then some 0 else O c) (Cj P e) xs us:=fun i x hx=>by
   obtain⟨g1,g2⟩:=k5 i x hx;refine⟨g1,fun j c hc=> ?_⟩;obtain⟨u,l1,l2,l3⟩:=g2 j c hc;refine⟨u,l1,l2,l3.flat ?_⟩;have hxf:=Nb _ hfx x (B6 hx);cases x with
   |a cs=>exact Nb _ hxf c (B6 hc)
   |_=>
    have:=B6 hc;simp only[PV.cells,Cl] at this;subst this;exact hxf
  cases flat with
  |true=>
   have:=hfl rfl;simp[PV.flat.flats,PV.flat] at this
  |false=>
   obtain⟨β',hv',r1,r2⟩:=h.own (n:=U.n+1) (s:=s) (e:=e) (ro:= .no) (x:= .v U.n) (O':=fun c=>if Dd v=some c then some 0 else O c) hb (fun c hc=>if_neg fun hg=>by have:=(k4.lt c hg).1;omega) (fun c hc=>by rw[if_neg fun hg=>by have:=(k4.lt c hg).2;omega];exact h.out c (Ep hb.size hc)) (fun g hg=>if_pos hg) h0 hx1 k4 hel;refine⟨β',hv',_,r1,?_⟩;simp only[Cw];exact r2.symm
end
def Gr7 (y y':ByteArray):(y==y')=(y.data.toList==y'.data.toList):=by
 cases y with|mk a=>cases y' with|mk b=>
 show (a==b)=_;rcases a with⟨a⟩;rcases b with⟨b⟩;simp
inductive KR:TypeDesc->PV->Value->Prop
 |s (x:List UInt8) (y:ByteArray):y.data.toList=x->KR .string (.s x) (.string y)
 |i (Bg k:IntKind) (n:Int):KR (.int Bg) (.i k n) (.int k n)
def KR.rep {M:Vw} {d:TypeDesc} {kp:PV} {kv:Value} (h:KR d kp kv):Rep M kp kv:=by
 cases h with
 |s x y hy=>exact .s _ _ hy
 |i Bg k n=>exact .i _ _
def KR.same {M:Vw} {d:TypeDesc} {kp p:PV} {kv z:Value} {b:Bool} (h:KR d kp kv) (hr:Rep M p z) (he:d7 kp p=some b):Instr.sameNow d kv z=some b∧(b=true->z=kv):=by
 cases h with
 |s x y hy=>
  cases p with
  |s x'=>
   obtain⟨y',rfl,hy'⟩:=hr.str;simp only[d7,Bn] at he;subst he;refine⟨by simp only[Instr.sameNow];rw[Gr7,hy,hy'],fun hb=> ?_⟩;have:(y==y')=true:=by rw[Gr7,hy,hy',hb]
   rw[(MapKept.bytes_beq _ _).1 this]
  |_=>simp[d7] at he
 |i Bg k n=>
  cases p with
  |i k' n'=>
   obtain rfl:=hr.int;simp only[d7] at he;split at he
   .rename_i hk;subst hk;injection he with he;subst he;refine⟨by simp[Instr.sameNow],fun hb=> ?_⟩;rw[beq_iff_eq] at hb;rw[hb]
   .cases he
  |_=>simp[d7] at he
def KR.bits {d:TypeDesc} {kp:PV} {kv:Value} (h:KR d kp kv):Instr.sameBits 10000 kv kv=true:=by
 rw[show (10000:Nat)=9999+1 from rfl];cases h with
 |s x y hy=>simp only[Instr.sameBits];exact(MapKept.bytes_beq _ _).2 rfl
 |i Bg k n=>simp[Instr.sameBits]
def KR.ok {M:Vw} {d:TypeDesc} {kp:PV} {kv:Value} (h:KR d kp kv):Dq9 kp=true:=by cases h<;>rfl
section
variable {P:Program} {w0:Fr} {Oe:Nat->Option Nat} {J:List PV} {U:St} {a:Act} {tm:Array Value} {w:World} {K:Nat->Nat} {hv:Nat->Value} {O:Nat->Option Nat} {G:Option E} {o:Oper} {ws:List W}
end
section
variable {P:Program} {sig:Nat->Option Nat} {fn:Fns} {w0:Fr} {Oe:Nat->Option Nat} {J:List PV} {U:St} {a:Act} {tm:Array Value} {w:World} {K:Nat->Nat} {hv:Nat->Value} {O:Nat->Option Nat} {G:Option E} {o:Oper} {ws:List W}
def Rel.turned {w':World} {O':Nat->Option Nat} {s e0 sz0:Nat} {x0:E} (h:Rel w0 Oe J U tm w K hv O) (h0:mget U.m s=some (.arr e0 sz0 x0 .no))
  (hb:Bel ⟨w,some (hv s)⟩ w') (hO':∀c,c<w.heap.size->Dd (hv s)≠some c->O' c=O c):
  Bel w0 w'∧(C5 w O).Le (C5 w' O')∧(∀c,c<w0.heap.size->w0.x≠some c->O' c=Oe c)∧
  (∀s' b',s'≠s->mget U.m s'=some b'->Has ⟨J,C5 w O,K,hv,U.m⟩ s' b'->Dd (hv s)≠some (K s')∧w'.heap[K s']? =w.heap[K s']? ∧O' (K s')=O (K s'))∧
  (∀g,Dd (hv s)=some g->g=K s∧w0.ok g∧O g=some 0∧g<w.heap.size):=by
 obtain⟨_,xs0,us0,_,how0,_,hsh,_⟩:=h.mem s _ h0;have hg0:∀g,Dd (hv s)=some g->g=K s∧w0.ok g∧O g=some 0∧g<w.heap.size:=by intro g hg;obtain⟨h1,lim,h2,_,h3⟩:=hsh g hg;obtain⟨h4,h5⟩:=how0.lt g hg;exact⟨h1,h4,by rw[h2,h3 rfl],h5⟩
 have hsz:w0.heap.size<=w.heap.size:=h.bel.size;have hblk:∀c,c<w.heap.size->Dd (hv s)≠some c->w'.heap[c]? =w.heap[c]? :=fun c hc hx=>hb.block c hc hx;refine⟨⟨hb.os.trans h.bel.os,hb.tape.trans h.bel.tape,hb.output.trans h.bel.output,Ep h.bel.drawn hb.drawn,Ep hsz hb.size,fun k hk hx=> ?_⟩,Ir (fun c hc hl=> ?_) (fun c hc lim hl=> ?_) (fun c hc hn=> ?_),fun c hc hx=> ?_,fun s' b' hs hb' hh=> ?_,hg0⟩
 .have hne:Dd (hv s)≠some k:=fun e=>by
   obtain⟨_,h4,_,_⟩:=hg0 k e;rcases h4 with h4|h4
   .have:w0.w.heap.size<=k:=h4;omega
   .exact hx h4
  rw[hblk k (Gl hk hsz) hne];exact h.bel.block k hk hx
 .refine hblk c hc fun e=> ?_;have:=hl 0 (hg0 c e).2.2.1;omega
 .by_cases e:Dd (hv s)=some c
  .exact⟨0,(hg0 c e).2.2.1,Dz _⟩
  .exact⟨lim,by rw[<-hO' c hc e];exact hl,B7 _⟩
 .have e:Dd (hv s)≠some c:=fun e=>by rw[(hg0 c e).2.2.1] at hn;cases hn
  rw[hO' c hc e];exact hn
 .have hne:Dd (hv s)≠some c:=fun e=>by
   obtain⟨_,h4,_,_⟩:=hg0 c e;rcases h4 with h4|h4
   .have:w0.w.heap.size<=c:=h4;have:c<w0.w.heap.size:=hc;omega
   .exact hx h4
  rw[hO' c (Gl hc hsz) hne];exact h.ext c hc hx
 .have hne:Dd (hv s)≠some (K s'):=fun e=>by
   have h1:=(hg0 _ e).1;have hh2:Has ⟨J,C5 w O,K,hv,U.m⟩ s (.arr e0 sz0 x0 .no):=by show Dd (hv s)=some (K s);rw[e,h1]
   exact h.inj s' s b' _ hb' h0 hs hh hh2 h1
  have hlt:=((h.mem s' b' hb').lt hh).2;exact⟨hne,hblk _ hlt hne,hO' _ hlt hne⟩
def Rel.retake {w':World} {O':Nat->Option Nat} {s e0 sz0 e sz n:Nat} {x0 x:E} {v:Value} {xs:List PV} {vs:List Value} (h:Rel w0 Oe J U tm w K hv O) (h0:mget U.m s=some (.arr e0 sz0 x0 .no))
  (hb:Bel ⟨w,some (hv s)⟩ w') (hO':∀c,c<w.heap.size->Dd (hv s)≠some c->O' c=O c) (hout:∀c,w'.heap.size<=c->O' c=none) (hO0:∀g,Dd v=some g->O' g=some 0)
  (hsz:0<sz) (hx:x.ev J=some (.l sz xs)) (how:Own w' (Fr.mk w (some (hv s))).ok e sz v xs.length vs) (hel:J5 (C5 w' O') sz xs vs):
  ∃β' hv',Rel w0 Oe J (U.eff (H0 U.m n s (.arr e sz x .no))) tm w' β' hv' O'∧hv' s=v:=by
 let β':=fun s'=>if s'=s then(Dd v).getD 0 else K s'
 let hv':=fun s'=>if s'=s then v else hv s'
 have hβ:∀s',s'≠s->β' s'=K s':=fun s' hs=>if_neg hs;have hhv:∀s',s'≠s->hv' s'=hv s':=fun s' hs=>if_neg hs;have hβs:β' s=(Dd v).getD 0:=if_pos rfl;have hhvs:hv' s=v:=if_pos rfl;obtain⟨t1,t2,t3,t4,t5⟩:=h.turned h0 hb hO';have hs0:w0.heap.size<=w.heap.size:=h.bel.size;refine⟨β',hv',h.fresh t1 t2 hβ hhv (fun s' b' hs hb' hh=>(t4 s' b' hs hb' hh).2) t3 hout ?_ (fun s' b' hs hb' hh hh2=> ?_),hhvs⟩
 .refine⟨hsz,xs,vs,hx,?_,hel,fun g hg=> ?_,trivial⟩
  .show Own w' w0.ok e sz (hv' s) xs.length vs;rw[hhvs];refine how.mono fun g hg=> ?_;rcases hg with hg|hg
   .exact .inl (Ep hs0 hg)
   .exact(t5 g hg).2.1
  .have hg':Dd (hv' s)=some g:=hg;rw[hhvs] at hg';refine⟨?_,0,hO0 g hg',Dz _,fun _=>rfl⟩;show g=β' s;rw[hβs,hg'];rfl
 .have hlt:K s'<w.heap.size:=((h.mem s' b' hb').lt hh).2;have hh2':Dd (hv' s)=some (β' s):=hh2;rw[hhvs] at hh2';intro e1;rw[<-e1] at hh2';rcases (how.lt _ hh2').1 with h9|h9
  .have:w.heap.size<=K s':=h9;omega
  .exact(t4 s' b' hs hb' hh).1 h9
def Rel.turn {w':World} {O':Nat->Option Nat} {s e0 sz0 n:Nat} {x0 x:E} {xs0 xs:List PV} {vs:List Value} (h:Rel w0 Oe J U tm w K hv O) (h0:mget U.m s=some (.arr e0 sz0 x0 .no))
  (hx0:x0.ev J=some (.l sz0 xs0)) (hb:Bel ⟨w,some (hv s)⟩ w') (hO':∀c,c<w.heap.size->Dd (hv s)≠some c->O' c=O c) (hout:∀c,w'.heap.size<=c->O' c=none) (hO0:∀g,Dd (hv s)=some g->O' g=some 0)
  (hx:x.ev J=some (.l sz0 xs)) (how:Own w' (fun _=>True) e0 sz0 (hv s) xs.length vs) (hel:J5 (C5 w' O') sz0 xs vs):
  Rel w0 Oe J (U.eff ⟨Kj U.m s (.arr e0 sz0 x .no),n,none⟩) tm w' K hv O':=by
 obtain⟨t1,t2,t3,t4,t5⟩:=h.turned h0 hb hO';obtain⟨hsz,xs1,us1,q1,how1,_,hsh,_⟩:=h.mem s _ h0;have q1':x0.ev J=some (.l sz0 xs1):=q1;rw[hx0] at q1';injection q1' with q1';injection q1' with _ q1';subst q1';have hlen:xs.length=xs0.length:=by
  rcases how.2 with⟨a1,e1,n1⟩|⟨g1,c1,cur1,e1,_⟩<;>rcases how1.2 with⟨a2,e2,n2⟩|⟨g2,c2,cur2,e2,_⟩
  .omega
  .have e2':hv s=_:=e2;rw[e1] at e2';injection e2' with _ e3 _;omega
  .have e2':hv s=_:=e2;rw[e1] at e2';injection e2' with _ e3 _;omega
  .have e2':hv s=_:=e2;rw[e1] at e2';injection e2' with _ e3 _
 let b:Blk:= .arr e0 sz0 x .no;have hne:∀s',s'≠s->mget (Kj U.m s b) s'=mget U.m s':=fun s' hs=>Jk U hs b;have hsame:mget (Kj U.m s b) s=some b:=L2 U s b;have hl:(Cx.mk J (C5 w O) K hv U.m).Le ⟨J,C5 w' O',K,hv,Kj U.m s b⟩:=⟨fun _ _ h=>h,t2⟩;have hat:∀s',(Cx.mk J (C5 w O) K hv U.m).At ⟨J,C5 w' O',K,hv,Kj U.m s b⟩ s':=fun s'=>
  ⟨rfl,rfl,fun e sz y ro zs h1 h2=>by
   by_cases hs:s'=s
   .subst hs;have h1':mget U.m s'=some (.arr e sz y ro):=h1;rw[h0] at h1';cases h1';have h2':x0.ev J=some (.l sz0 zs):=h2;rw[hx0] at h2';cases h2';exact⟨e0,x,.no,xs,hsame,hx,by omega⟩
   .exact⟨e,y,ro,zs,by show mget (Kj U.m s b) s'=_;rw[hne s' hs];exact h1,h2,B7 _⟩⟩
 refine⟨t1,t3,hout,Cd.le hl hat _ _ h.tmps,fun s' b' hs'=> ?_,fun s1 s2 b1 b2 h1 h2 h12 hh1 hh2=> ?_,h.t0⟩
 .by_cases hs:s'=s
  .subst hs;have:mget (Kj U.m s' b) s'=some b':=hs';rw[hsame] at this;injection this with this;subst this;refine⟨hsz,xs,vs,hx,?_,hel,fun g hg=>⟨(t5 g hg).1,0,hO0 g hg,Dz _,fun _=>rfl⟩,trivial⟩;refine⟨how.1,?_⟩;rcases how.2 with h1|⟨g,cap,cur,e1,e2,_,e4⟩
   .exact .inl h1
   .have hg:Dd (hv s')=some g:=by have e1':hv s'= .slice (some ⟨g,0,none⟩) xs.length cap:=e1;rw[e1'];simp only[Dd,if_neg (show¬cap=0 by omega)]
    exact .inr ⟨g,cap,cur,e1,e2,(t5 g hg).2.1,e4⟩
  .have hg:mget (Kj U.m s b) s'=some b':=hs';rw[hne s' hs] at hg;exact(h.mem s' b' hg).le hl hat (fun hh=>(t4 s' b' hs hg hh).2.1) (fun hh=>(t4 s' b' hs hg hh).2.2)
 .have g1:mget (Kj U.m s b) s1=some b1:=h1;have g2:mget (Kj U.m s b) s2=some b2:=h2;have z:∀s' b',mget (Kj U.m s b) s'=some b'->Has ⟨J,C5 w' O',K,hv,Kj U.m s b⟩ s' b'->∃b'',mget U.m s'=some b''∧Has ⟨J,C5 w O,K,hv,U.m⟩ s' b'':=by
   intro s' b' hg hh;by_cases hs:s'=s
   .subst hs;rw[hsame] at hg;injection hg with hg;subst hg;exact⟨_,h0,hh⟩
   .rw[hne s' hs] at hg;exact⟨b',hg,(Has.congr (C:=⟨J,C5 w O,K,hv,U.m⟩) rfl rfl).1 hh⟩
  obtain⟨c1,k1,k2⟩:=z s1 b1 g1 hh1;obtain⟨c2,k3,k4⟩:=z s2 b2 g2 hh2;exact h.inj s1 s2 c1 c2 k1 k3 h12 k2 k4
def Dw8 {k:Option Nat} {e:Nat} {r:Bool} (h:g8 k=some (e,r)):Bv0 k=none:=by
 cases k with
 |none=>rfl
 |some k=>
  simp only[g8,B0] at h;split at h
  .rename_i hk;simp only[Bv0,B0];have a2:FUL=549755813888:=rfl;have a3:MU=1099511627776:=rfl;rw[if_neg (by omega)]
  .cases h
def Hf8 (hC:Contract P sig fn) {c:Call} {f e:Nat} {rr:Bool} {r:SV} {F:Eff} {η1 η2 I:List PV} (ho:o.op= .call c) (hc:c.callee= .value (.func f)) (hmu:g8 (sig f)=some (e,rr))
  (h:Rel w0 Oe J U a.tmps w K hv O) (hG:GOk J G) (hx:Fs7 P U G f e rr (args P U G c.args.toList c.argTypes.toList)=some (ws,r,F))
  (hw:Fz fn η1 ws=some η2) (hη:J=η2++I) (hn:η1.length=U.n):Fc P o a w (Ix w0 Oe J U a.tmps F r):=by
 unfold Fs7 at hx;split at hx
 .cases hx
 .split at hx
  .rename_i s0 ar has;split at hx
   .rename_i e0 sz0 x es ss hs0 hes;split at hx
    .rename_i hcond;obtain⟨rfl,rfl,hss,hlt⟩:=hcond;have hargs:Cd ⟨J,C5 w O,K,hv,U.m⟩ (.h s0::ar) (c.args.map a.eval).toList:=by have:=Xh (ds:=a.defers) (C:=⟨J,C5 w O,K,hv,U.m⟩) hG rfl h.tmps has;simpa using this
     simp only[Cd,Cw] at hargs;obtain⟨v0,vr,hcs,hv0,hrest⟩:=hargs;subst hv0;obtain⟨O1,hrel,hM,hop,_⟩:=h.frz ss (n:=U.n+1);obtain⟨ps,q1,q2,q3⟩:=U9 h hM hes hrest (fun s hs=>hop s (by simpa using hs));have hs1:mget (Mn ss U.m) s0=some (.arr e0 (Cj P e0) x .no):=by rw[Qf hss];exact hs0
     obtain⟨hsz,xs,us,hxe,how,hel,hsh,_⟩:=hrel.mem s0 _ hs1;have hxe':x.ev J=some (.l (Cj P e0) xs):=hxe;have hws:(W.mcall f (x::es)).ev fn η1=some η2:=by
      have hw':Fz fn η1 [.mcall f (x::es)]=some η2:=by cases rr<;>simp only[B5,if_true,if_false,Bn,B4] at hx<;>rw[<-hx.1] at hw<;>exact hw
      simpa [Fz] using hw'
     simp only[W.ev,Bl] at hws;obtain⟨vs,hvs,hres⟩:=hws;obtain⟨rs,hfn,hrl,_,rfl⟩:=J6 hres;have hvs':E.evs J (x::es)=some vs:=by rw[hη,Cy];exact E.evs_mono _ _ _ _ hvs
     simp only[E.evs,hxe',q1,B0,Cc,Bn] at hvs';subst hvs';obtain⟨e',r',hmu',hcon⟩:=((hC.says f _ _ rs hfn).turns (Nat.le_add_left _ _)).resolve_right (fun⟨e1,h1,_⟩=>by rw[Dw8 hmu] at h1;cases h1);rw[hmu] at hmu';injection hmu' with hmu';injection hmu' with he' hr';subst he';subst hr';have hsize:(c.args.map a.eval).size=(.l (Cj P e0) xs::ps).length:=by rw[<-Dv,hcs];simp[q2]
     have hgiv:GivenM P e0 w O1 ((.l (Cj P e0) xs::ps).length+TAG - TAG) (.l (Cj P e0) xs::ps) (c.args.map a.eval) (hv s0) xs us:=by
      refine⟨hrel.out,hsize,by simp,rfl,?_,hsz,how.mono (fun _ _=>trivial),hel,fun g hg=> ?_,fun j p v hj1 hj2 hp hv1=> ?_,fun j p v hj hp _=> ?_⟩
      .rw[<-B9,hcs];rfl
      .obtain⟨_,lim,h2,_,h3⟩:=hsh g hg;rw[h2,h3 rfl]
      .rw[<-B9,hcs] at hv1;cases j with
       |zero=>omega
       |succ j=>exact q3 j p v (by simpa using hp) (by simpa using hv1)
      .have:=(Br.1 hp).1;omega
     have hfx:a.eval (.func f)= .func (.func f) #[] #[]:=rfl;refine H3 (cv:= #[]) ho hc hfx ?_;rw[Ik3];refine(hcon w O1 _ _ xs us hgiv).mono fun v w' hback=> ?_;obtain⟨hb,O',k1,k2,ys,us',rfl,hel',hr1,hr2⟩:=hback;have hx1:(E.v U.n).ev J=some (.l (Cj P e0) ys):=by simp only[E.ev];rw[hη,Cy,Cf (by omega),<-hn,Dl7];rfl
     cases rr with
     |true=>
      simp only[if_true,Bn,B4] at hx;obtain⟨_,rfl,rfl⟩:=hx;obtain⟨k3,k4⟩:=hr1 rfl;obtain⟨β',hv',r1,r2⟩:=hrel.retake (n:=U.n+1) (x:= .v U.n) hs1 hb k1 k2 k4 hsz hx1 k3 hel';exact⟨β',hv',O',r1,by simp only[Cw];exact r2.symm⟩
     |false=>
      simp only[B5,if_false,Bn,B4] at hx;obtain⟨_,rfl,rfl⟩:=hx;obtain⟨rfl,k3,k4⟩:=hr2 rfl;have r1:=hrel.turn (n:=U.n+1) (x:= .v U.n) hs1 hxe' hb k1 k2 k4 hx1 k3 hel';exact⟨K,hv,O',r1,by simp only[Cw];exact⟨#[],rfl,by simp only[Cd]⟩⟩
    .cases hx
   .cases hx
  .cases hx
end
section
variable {P:Program} {sig:Nat->Option Nat} {fn:Fns} {w0:Fr} {Oe:Nat->Option Nat} {J:List PV} {U:St} {a:Act} {tm:Array Value} {w:World} {K:Nat->Nat} {hv:Nat->Value} {O:Nat->Option Nat} {G:Option E} {o:Oper} {ws:List W}
def N5 {t e:TypeId} (h:Is P t=some e):P.underlying t=some (.slice e):=by
 unfold Is at h;split at h
 .rename_i hu;rw[hu];injection h with h;rw[h]
 .cases h
def Fp0 {t e:TypeId} (hu:P.underlying t=some (.slice e)) (hsz:Cj P e≠0) (b:Option Addr) (n cap m:Nat) (k:IntKind) (h1:m<=n) (h2:n<=cap):(Instr.slice t (.slice b n cap) none (some (.int k (m:Int))) none).run P w= .ok (.slice b m cap) w:=by
 have hrun:=Kk (P:=P) (w:=w) (b:=true) (len:=n) (cap:=cap) (low:=none) (high:=some (.int k (m:Int))) (max:=none) (l:=0) (h:=m) (m:=cap) rfl ⟨_,rfl⟩ rfl (Dz _) (by omega) (B7 _);have hz:∀(z:Option Addr),(if cap=0 then z else z.map (·.add (0*Cj P e)))=z:=by
  intro z;split
  .rfl
  .cases z with
   |none=>rfl
   |some ad=>simp[Go.Addr.add]
 simp only[Instr.slice,Sem.run_bind,run_underlying hu,Result.andThen,hrun,Gw (P:=P) (w:=w) (t:=e) rfl hsz,Sem.run_pure,hz,Nat.sub_zero]
def Fn9 {t e:TypeId} (hu:P.underlying t=some (.slice e)) (hsz:Cj P e≠0) (b:Option Addr) (n cap m:Nat) (k:IntKind) (h1:m<=n) (h2:n<=cap):(Instr.slice t (.slice b n cap) (some (.int k (m:Int))) none none).run P w= .ok (Bz3 (Cj P e) m (.slice b n cap)) w:=by have hrun:=Kk (P:=P) (w:=w) (b:=true) (len:=n) (cap:=cap) (low:=some (.int k (m:Int))) (high:=none) (max:=none) (l:=m) (h:=n) (m:=cap) rfl ⟨rfl,rfl⟩ ⟨_,rfl⟩ h1 h2 (B7 _);simp only[Instr.slice,Sem.run_bind,run_underlying hu,Result.andThen,hrun,Gw (P:=P) (w:=w) (t:=e) rfl hsz,Sem.run_pure,Bz3]
def uk {t:TypeId} {x:Operand} {lo hi mx:Option Operand} {s0:Nat} {r:SV} {F:Eff} (ho:o.op= .slice t x lo hi mx) (h:Rel w0 Oe J U a.tmps w K hv O) (hG:GOk J G) (hx:opd P U G t x=some (.h s0))
  (hs:Sj P U G t s0 (lo.map (G8 P U G 0)) (hi.map (G8 P U G 0)) mx.isSome=some (ws,r,F)) (hk:Chk J ws):Fc P o a w (Ix w0 Oe J U a.tmps F r):=by
 have hr:=F9 (ds:=a.defers) (C:=⟨J,C5 w O,K,hv,U.m⟩) hG rfl hx h.tmps;simp only[Cw] at hr;have hx1:a.eval x=hv s0:=hr;unfold Sj at hs;split at hs
 ·-- the beginning
  rename_i e e0 sz y eh te mg hlo hhi0 hmx;split at hs
  .rename_i hcond;obtain⟨rfl,rfl,hsz0,hG0⟩:=hcond;have hlo':lo=none:=Option.map_eq_none_iff.1 hlo;have hmx':mx=none:=by cases mx<;>simp_all
   obtain⟨hh,hhi',heh⟩:=Bs.1 hhi0;subst hlo';subst hmx';subst hhi'
   .simp only[Bn,B4] at hs;obtain⟨rfl,rfl,rfl⟩:=hs;have hu:=N5 te;have hsize:=Gw (P:=P) (w:=w) (t:=e0) rfl hsz0;obtain⟨hpos,xs,vs,g1,g2,g3,g4,_⟩:=h.mem s0 _ mg;have g1':y.ev J=some (.l (Cj P e0) xs):=g1;obtain⟨q,hq⟩:=hk.g1 hG;have hq':=hq;obtain⟨p,hp,hpr⟩:=E6 (ds:=a.defers) (C:=⟨J,C5 w O,K,hv,U.m⟩) hG rfl heh h.tmps;have hp':eh.ev J=some p:=hp;simp only[E.ev,g1',hp',B0] at hq';unfold Kt at hq';split at hq'
    .rename_i sz' zs k1 l1 k2 n1 heq1 heq2;injection heq1 with j1 j2;subst j1;subst j2;injection heq2 with j3 j4;subst j3;subst j4;rw[if_pos rfl] at hq';split at hq'
     .rename_i hb;injection hq' with hq';have hhi:a.eval hh= .int k2 (n1.toNat:Int):=by have:a.eval hh= .int k2 n1:=hpr.int;rw[this];congr 1;omega
      have hnn:n1.toNat<=xs.length:=by omega
      have htl:(xs.take n1.toNat).length=n1.toNat:=by rw[Cv];omega
      have hqe:(E.lsl (Cj P e0) y (.c (.i .i64 0)) eh).ev J=some (.l (Cj P e0) (xs.take n1.toNat)):=by rw[hq,<-hq'];simp
      have hlv:vs.length=xs.length*Cj P e0:=g2.1;have hel:J5 (C5 w O) (Cj P e0) (xs.take n1.toNat) (vs.take (n1.toNat*Cj P e0)):=by
       intro i z hz;rw[Cp] at hz;split at hz
       .rename_i hi;obtain⟨k1,k2⟩:=g3 i z hz;refine⟨k1,fun j c hc=> ?_⟩;obtain⟨u,u1,u2,u3⟩:=k2 j c hc;refine⟨u,?_,u2,u3⟩;have hj:j<Cj P e0:=by rw[<-k1];exact(Br.1 hc).1
        rw[Cp,if_pos]
        .exact u1
        .have:(i+1)*Cj P e0<=n1.toNat*Cj P e0:=C0 _ hi;rw[Dl,Gh] at this;omega
       .cases hz
      have fin:∀(b:Option Addr) (cap:Nat),hv s0= .slice b xs.length cap->xs.length<=cap->Own w (Fr.mk w (some (hv s0))).ok e0 (Cj P e0) (.slice b n1.toNat cap) n1.toNat (vs.take (n1.toNat*Cj P e0))->(∀g,Dd (.slice b n1.toNat cap)=some g->Dd (hv s0)=some g)->Fc P o a w (Ix w0 Oe J U a.tmps (H0 U.m U.n s0 (.arr e0 (Cj P e0) (.lsl (Cj P e0) y (.c (.i .i64 0)) eh) .no)) (.h s0)):=by intro b cap hb1 hcap hown hblk;obtain⟨β',hv',r1,r2⟩:=h.retake (n:=U.n) (s:=s0) (e:=e0) (sz:=Cj P e0) (x:= .lsl (Cj P e0) y (.c (.i .i64 0)) eh) (v:= .slice b n1.toNat cap) (xs:=xs.take n1.toNat) (vs:=vs.take (n1.toNat*Cj P e0)) (w':=w) (O':=O) mg (Bel.refl ⟨w,some (hv s0)⟩) (fun _ _ _=>rfl) h.out (fun g hg=>by obtain⟨_,lim,h2,_,h3⟩:=g4 g (hblk g hg);rw[h2,h3 rfl]) hpos hqe (by rw[htl];exact hown) hel;refine Fc.value (v:= .slice b n1.toNat cap) (w':=w) ?_ ⟨β',hv',O,r1,by simp only[Cw];exact r2.symm⟩;simp only[execOp,ho,Instr.sliceAt,Option.map_none,Cc,hhi,hx1,hb1,Sem.run_bind,run_underlying hu,Fp0 hu hsz0 b xs.length cap n1.toNat k2 hnn hcap,Result.andThen,Sem.run_pure]
      rcases g2.2 with⟨b,e1,e2⟩|⟨g,cap,cur,e1,e1c,e2,e3,e4,e5,e6,e7⟩
      .have hn0:n1.toNat=0:=by omega
       have e1':hv s0= .slice b 0 0:=e1;refine fin b 0 (by rw[e2];exact e1') (by omega) ⟨by simp[hn0],.inl ⟨b,by rw[hn0],hn0⟩⟩ (fun g hg=>by rw[e1'];rw[hn0] at hg;exact hg)
      .have e1':hv s0= .slice (some ⟨g,0,none⟩) xs.length cap:=e1;have hbk:Dd (hv s0)=some g:=by rw[e1'];simp only[Dd,if_neg (show¬cap=0 by omega)]
       have hmul:n1.toNat*Cj P e0<=xs.length*Cj P e0:=C0 _ hnn;refine fin (some ⟨g,0,none⟩) cap e1' e4 ⟨by rw[Cv];omega,.inr ⟨g,cap,cur,rfl,e1c,.inr hbk,e3,by omega,e5,e6,?_⟩⟩ (fun g' hg'=> ?_)
       .rw[<-e7,Bz8,ig hmul]
       .simp only[Dd,if_neg (show¬cap=0 by omega),Bn] at hg';rw[hbk,hg']
     .cases hq'
    .cases hq'
  .cases hs
 ·-- the end
  rename_i e e0 sz y ro el te mg hlo0 hhi0 hmx;split at hs
  .rename_i hcond;obtain⟨rfl,hsz0,hnap⟩:=hcond;have hhi':hi=none:=Option.map_eq_none_iff.1 hhi0;have hmx':mx=none:=by cases mx<;>simp_all
   obtain⟨ll,hlo',hel⟩:=Bs.1 hlo0;subst hlo';subst hmx';subst hhi'
   .simp only[Bn,B4] at hs;obtain⟨rfl,rfl,rfl⟩:=hs;have hu:=N5 te;have hsize:=Gw (P:=P) (w:=w) (t:=e) rfl hsz0;obtain⟨hpos,xs,vs,g1,g2,g3,g4,_⟩:=h.mem s0 _ mg;have g1':y.ev J=some (.l (Cj P e) xs):=g1;obtain⟨q,hq⟩:=hk.g1 hG;have hq':=hq;obtain⟨p,hp,hpr⟩:=E6 (ds:=a.defers) (C:=⟨J,C5 w O,K,hv,U.m⟩) hG rfl hel h.tmps;have hp':el.ev J=some p:=hp;simp only[E.ev,g1',hp',B0,H7] at hq';unfold Kt at hq';split at hq'
    .rename_i sz' zs k1 l1 k2 n1 heq1 heq3;injection heq1 with j1 j2;subst j1;subst j2;injection heq3 with j3 j4;subst j4;rw[if_pos rfl] at hq';split at hq'
     .rename_i hb;have hlo:a.eval ll= .int k1 (l1.toNat:Int):=by have:a.eval ll= .int k1 l1:=hpr.int;rw[this];congr 1;omega
      have fin:∀(b:Option Addr) (cap:Nat),hv s0= .slice b xs.length cap->xs.length<=cap->Fc P o a w (Ix w0 Oe J U a.tmps (Hz U) (.suf s0 el)):=by
       intro b cap hb1 hcap;refine Fc.value (v:=Bz3 (Cj P e) l1.toNat (hv s0)) (w':=w) ?_ (.keep h ?_)
       .simp only[execOp,ho,Instr.sliceAt,Option.map_none,Cc,hlo,hx1,hb1,run_underlying hu];simp only[Sem.run_bind,run_underlying hu,Fn9 hu hsz0 b xs.length cap l1.toNat k1 (by omega) hcap,Result.andThen,Sem.run_pure]
       .simp only[Cw];exact⟨hnap,e0,Cj P e,y,ro,xs,k1,l1,mg,g1',hp',hb.1,by omega,rfl⟩
      rcases g2.2 with⟨b,e1,e2⟩|⟨g,cap,cur,e1,e1c,e2,e3,e4,e5,e6,e7⟩
      .exact fin b 0 (by rw[e2];exact e1) (by omega)
      .exact fin _ cap e1 e4
     .cases hq'
    .cases hq'
  .cases hs
 .cases hs
def Dd3 {g n cap:Nat} (h:0<cap):Dd (.slice (some ⟨g,0,none⟩) n cap)=some g:=by simp only[Dd,if_neg (show¬cap=0 by omega)]
def bl {z:Array Value} {n sz i j:Nat} {u:Value} (hz:z.size=sz) (hi:i<n) (hj:j<sz) (hu:z[j]? =some u):(Builtin.zeroCells z n)[i*sz+j]? =some u:=by
 have hlt:i*sz+j<n*z.size:=by have:(i+1)*sz<=n*sz:=C0 _ hi;rw[Dl,Gh] at this;rw[hz];omega
 have hmod:(i*sz+j) % z.size=j:=by rw[hz,Hg,ic,Fj hj]
 simp only[Builtin.zeroCells,Ik2,Bb2,hlt,if_true,Cc,hmod];rw[Array.getElem!_eq_getD,Cg,hu];rfl
def Cx0 {t ty e:TypeId} (hu:P.underlying t=some (.slice e)) {ti:TypeInfo} {zv:Value} (hi:P.info? e=some ti) (hzz:ti.zero=some zv) (ad:Addr) (d cap:Nat) {w':World} (hst:(storeCells ad (Builtin.zeroCells zv.cells (d+1)).toList).run P w= .ok () w'):
  (Builtin.clear_ #[t] ty #[.slice (some ad) (d+1) cap]).run P w= .ok (.tuple #[]) w':=by
 simp[Builtin.clear_,run_underlying hu,zeroValue,typeInfo,hi,hzz,hst]
def Eq0 {c:Call} {x:Operand} {t:TypeId} {sv r:SV} {F:Eff} (ho:o.op= .call c) (hc:c.callee= .builtin .clear) (ha:c.args.toList=[x]) (hty:c.argTypes.toList=[t])
  (h:Rel w0 Oe J U a.tmps w K hv O) (hG:GOk J G) (hx:opd P U G t x=some sv) (hs:xl P U G t sv=some (ws,r,F)) (hk:Chk J ws):Fc P o a w (Ix w0 Oe J U a.tmps F r):=by
 have hr:=F9 (ds:=a.defers) (C:=⟨J,C5 w O,K,hv,U.m⟩) hG rfl hx h.tmps;unfold xl at hs;split at hs
 .rename_i e s i te;split at hs
  .rename_i e0 sz y zs mg hzs;split at hs
   .rename_i z hz;dsimp only at hs;split at hs
    .rename_i hcond;obtain⟨rfl,rfl,hsz0,hG0⟩:=hcond;simp only[Bn,B4] at hs;obtain⟨rfl,rfl,rfl⟩:=hs;have hu:=N5 te;obtain⟨hpos,xs,vs,g1,g2,g3,g4,_⟩:=h.mem s _ mg;have g1':y.ev J=some (.l (Cj P e0) xs):=g1;simp only[Cw] at hr;obtain⟨_,e2,sz2,x2,ro2,xs2,k,iv,h1,h2,h3,h4,h5,h6⟩:=hr;rw[mg] at h1;injection h1 with h1;injection h1 with _ j1 j2 _;subst j1;subst j2;rw[g1'] at h2;injection h2 with h2;injection h2 with _ h2;subst h2;have h3':i.ev J=some (.i k iv):=h3;have h6':a.eval x=Bz3 (Cj P e0) iv.toNat (hv s):=h6;obtain⟨ti,zv,hi,hzz,hzsz,hz1,hzr⟩:=H2 (C:=⟨J,C5 w O,K,hv,U.m⟩) hzs;have his:Cj P e0=ti.size:=by simp[Cj,hi]
     obtain⟨pz,hpz,hpzc⟩:=Wb (C:=⟨J,C5 w O,K,hv,U.m⟩) hzr hz1 hz;have hpz':z.ev J=some pz:=hpz;obtain⟨q,hq⟩:=hk.g1 hG;have hq':=hq;have hlv:vs.length=xs.length*Cj P e0:=g2.1;have hmx:xs.length<=maxLen:=by
      rcases g2.2 with⟨b,e1,e2⟩|⟨g,cap,cur,e1,e1c,e2,e3,e4,e5,e6,e7⟩
      .rw[e2];exact Dz _
      .exact Ep e4 e5
     simp only[E.ev,g1',h3',hpz',B0,H7,Kt,if_true] at hq';rw[if_pos ⟨Yh _,h4,by omega⟩] at hq';simp only[B0,X.bin] at hq';split at hq'
     .rename_i hk64;have hk64':k= .i64:=hk64.symm;subst hk64';have hw:IntKind.i64.wrap ((xs.length:Int) - iv)=((xs.length - iv.toNat:Nat):Int):=by rw[IntWalk.i64_in _ ⟨by omega,by simp only[maxLen] at hmx;omega⟩];omega
      simp only[Gd,B0,hw,M6] at hq';split at hq'
      .rename_i hrep;simp only[B0,Eg,Jm] at hq';split at hq'
       .injection hq' with hq';have hcont:(E.app (Cj P e0) (.lsl (Cj P e0) y (.c (.i .i64 0)) i) (.rep (Cj P e0) (.bin .sub (.len y) i) z)).ev J=some (.l (Cj P e0) (xs.take iv.toNat++List.replicate (xs.length - iv.toNat) pz)):=by rw[hq,<-hq'];simp
        have hkn:iv.toNat<=xs.length:=h5;have hlen:(xs.take iv.toNat++List.replicate (xs.length - iv.toNat) pz).length=xs.length:=by simp;omega
        let Z:List Value:=(Builtin.zeroCells zv.cells (xs.length - iv.toNat)).toList;have hZl:Z.length=(xs.length - iv.toNat)*Cj P e0:=by show (Builtin.zeroCells zv.cells (xs.length - iv.toNat)).toList.length=_;simp[Builtin.zeroCells,hzsz,his]
        let us:List Value:=vs.take (iv.toNat*Cj P e0)++Z;have hkm:iv.toNat*Cj P e0<=xs.length*Cj P e0:=C0 _ hkn;have htk:(vs.take (iv.toNat*Cj P e0)).length=iv.toNat*Cj P e0:=by rw[Cv];omega
        have hsum:iv.toNat*Cj P e0+(xs.length - iv.toNat)*Cj P e0=xs.length*Cj P e0:=by rw[<-Dl];congr 1;omega
        have hul:us.length=xs.length*Cj P e0:=by show (vs.take (iv.toNat*Cj P e0)++Z).length=_;rw[Bp,htk,hZl,hsum]
        have hel:∀M',(C5 w O).Le M'->J5 M' (Cj P e0) (xs.take iv.toNat++List.replicate (xs.length - iv.toNat) pz) us:=by
         intro M' hM j p hp;have hb1:(xs.take iv.toNat).length=iv.toNat:=by rw[Cv];omega
         by_cases hj:j<iv.toNat
         .rw[Cm (by omega),Cp,if_pos hj] at hp;obtain⟨k1,k2⟩:=g3 j p hp;refine⟨k1,fun m cc hcc=> ?_⟩;obtain⟨u,u1,u2,u3⟩:=k2 m cc hcc;have hm:m<Cj P e0:=by rw[<-k1];exact(Br.1 hcc).1
          have hlt:j*Cj P e0+m<iv.toNat*Cj P e0:=by have:(j+1)*Cj P e0<=iv.toNat*Cj P e0:=C0 _ hj;rw[Dl,Gh] at this;omega
          refine⟨u,?_,u2,u3.mono hM⟩;show (vs.take (iv.toNat*Cj P e0)++Z)[j*Cj P e0+m]? =some u;rw[Cm (by omega),Cp,if_pos hlt];exact u1
         .rw[Cf (by omega),K3,hb1] at hp;split at hp
          .rename_i hj2;injection hp with hp;subst hp;refine⟨hrep.2.2,fun m cc hcc=> ?_⟩;have hm:m<Cj P e0:=by rw[<-hrep.2.2];exact(Br.1 hcc).1
           obtain⟨u,u1,u2,u3⟩:=hpzc (by rw[hrep.2.2,hzsz,his]) m cc hcc;refine⟨u,?_,u2,u3.mono hM⟩;have hjk:iv.toNat*Cj P e0<=j*Cj P e0:=C0 _ (by omega);show (vs.take (iv.toNat*Cj P e0)++Z)[j*Cj P e0+m]? =some u;rw[Cf (by omega),htk];have e9:j*Cj P e0+m - iv.toNat*Cj P e0=(j - iv.toNat)*Cj P e0+m:=by rw[Nat.sub_mul];omega
           rw[e9];show (Builtin.zeroCells zv.cells (xs.length - iv.toNat)).toList[(j - iv.toNat)*Cj P e0+m]? =some u;rw[B9];exact bl (by rw[hzsz,his]) hj2 hm u1
          .cases hp
        have hargs:c.args= #[x]:=by rw[<-D9 (xs:=c.args),ha]
        have htys:c.argTypes= #[t]:=by rw[<-D9 (xs:=c.argTypes),hty]
        have hres:Cw ⟨J,C5 w O,K,hv,U.m⟩ (.tup []) (.tuple #[]):=by simp only[Cw];exact⟨#[],rfl,by simp only[Cd]⟩
        have fin:∀w',(Builtin.clear_ #[t] o.type #[a.eval x]).run P w= .ok (.tuple #[]) w'->Bel ⟨w,some (hv s)⟩ w'->w'.heap.size=w.heap.size->Own w' (fun _=>True) e0 (Cj P e0) (hv s) (xs.take iv.toNat++List.replicate (xs.length - iv.toNat) pz).length us->
          Fc P o a w (Ix w0 Oe J U a.tmps ⟨Kj U.m s (.arr e0 (Cj P e0) (.app (Cj P e0) (.lsl (Cj P e0) y (.c (.i .i64 0)) i) (.rep (Cj P e0) (.bin .sub (.len y) i) z)) .no),U.n,none⟩ (.tup [])):=by
         intro w' hrun hbel hsz' hown;obtain⟨_,t2,_,_,_⟩:=h.turned mg hbel (O':=O) (fun _ _ _=>rfl);have hrel:=h.turn (n:=U.n) (x:= .app (Cj P e0) (.lsl (Cj P e0) y (.c (.i .i64 0)) i) (.rep (Cj P e0) (.bin .sub (.len y) i) z)) mg g1' hbel (O':=O) (fun _ _ _=>rfl) (fun cc hcc=>h.out cc (by omega)) (fun g hg=>by obtain⟨_,lim,h2,_,h3⟩:=g4 g hg;rw[h2,h3 rfl]) hcont hown (hel _ t2)
         refine Fc.value (v:= .tuple #[]) (w':=w') ?_ ⟨K,hv,O,hrel,by simp only[Cw];exact⟨#[],rfl,by simp only[Cd]⟩⟩;simp[execOp,ho,resolve,hc,hargs,htys,invoke,builtin,hrun]
        rcases g2.2 with⟨b,e1,e2⟩|⟨g,cap,cur,e1,e1c,e2,e3,e4,e5,e6,e7⟩
        .have e1':hv s= .slice b 0 0:=e1;have hiv:iv.toNat=0:=by omega
         refine fin w ?_ (Bel.refl ⟨w,some (hv s)⟩) rfl ?_
         .rw[h6',e1',hiv];simp only[Bz3,if_true];cases b<;>simp[Builtin.clear_,run_underlying hu]
         .rw[hlen];exact⟨hul,.inl ⟨b,e1',e2⟩⟩
        .have e1':hv s= .slice (some ⟨g,0,none⟩) xs.length cap:=e1;have hbk:Dd (hv s)=some g:=by rw[e1'];exact Dd3 e1c
         by_cases hfull:iv.toNat=xs.length
         ·-- nothing is behind it
          have hZ0:Z=[]:=C1 (by rw[hZl,hfull];simp);have hus:us=vs:=by show vs.take (iv.toNat*Cj P e0)++Z=vs;rw[hZ0,hfull,<-hlv];simp
          refine fin w ?_ (Bel.refl ⟨w,some (hv s)⟩) rfl ?_
          .rw[h6',e1',hfull];simp only[Bz3,Dl7];split<;>simp[Builtin.clear_,run_underlying hu]
          .rw[hlen,hus];exact g2.mono fun _ _=>trivial
         .have hlt:iv.toNat<xs.length:=by omega
          have hst:=run_storeCells_at P g (iv.toNat*Cj P e0) e0 Z 0 cur w e3 (by rw[hZl,e6];have:xs.length*Cj P e0<=cap*Cj P e0:=C0 _ e4;omega) (by
           intro u hu';obtain⟨j,hj⟩:=List.mem_iff_getElem?.1 hu';have hj':(Builtin.zeroCells zv.cells (xs.length - iv.toNat))[j]? =some u:=by rw[<-B9];exact hj
           have hjl:j<(xs.length - iv.toNat)*zv.cells.size:=by have:=(El.1 hj').1;simpa [Builtin.zeroCells] using this
           simp only[Builtin.zeroCells,Ik2,Bb2,hjl,if_true,Cc,Bn] at hj';have hpos2:0<zv.cells.size:=by rw[hzsz,<-his];exact hpos
           have hmod:j % zv.cells.size<zv.cells.size:=Nat.mod_lt _ hpos2;rw[getElem!_pos zv.cells _ hmod] at hj';rw[<-hj'];exact hz1 _ (by simp))
          simp only[G6] at hst;let row:Array Value:=(cur.toList.take (iv.toNat*Cj P e0)++Z++cur.toList.drop (iv.toNat*Cj P e0+Z.length)).toArray;have hbel:Bel ⟨w,some (hv s)⟩ (w.setRow g row):=(Bel.refl ⟨w,some (hv s)⟩).turn (g:=g) (.inr hbk) rfl rfl rfl (B7 _) (by simp) (fun cc _ hcc=>setRow_other w g cc row hcc);refine fin (w.setRow g row) ?_ hbel (by simp) ?_
          .rw[h6',e1'];simp only[Bz3];rw[if_neg (by omega)];obtain⟨d,hd⟩:∃d,xs.length - iv.toNat=d+1:=⟨xs.length - iv.toNat - 1,by omega⟩;have had:(⟨g,0,none⟩:Addr).add (iv.toNat*Cj P e0)=⟨g,iv.toNat*Cj P e0,none⟩:=by rw[add_lit,Ig]
           simp only[Cc,had];rw[hd];refine Cx0 hu hi hzz _ d _ ?_;rw[<-hd];exact hst
          .rw[hlen];have hcl:cur.toList.length=cap*Cj P e0:=by simpa using e6
           have hxc:xs.length*Cj P e0<=cap*Cj P e0:=C0 _ e4;refine⟨hul,.inr ⟨g,cap,row,e1',e1c,trivial,setRow_heap w g cur row e0 _ e3,e4,e5,?_,?_⟩⟩
           .show (cur.toList.take (iv.toNat*Cj P e0)++Z++cur.toList.drop (iv.toNat*Cj P e0+Z.length)).toArray.size=_;simp only[K2,Bp,Cv,Cn,hZl];omega
           .show List.take (xs.length*Cj P e0) (cur.toList.take (iv.toNat*Cj P e0)++Z++cur.toList.drop (iv.toNat*Cj P e0+Z.length))=vs.take (iv.toNat*Cj P e0)++Z;have e8:vs.take (iv.toNat*Cj P e0)=cur.toList.take (iv.toNat*Cj P e0):=by rw[<-e7,Bz8,ig hkm]
            rw[e8];have e9:(cur.toList.take (iv.toNat*Cj P e0)++Z).length=xs.length*Cj P e0:=by rw[Bp,Cv,hZl];omega
            rw[<-e9,Um]
       .cases hq'
      .cases hq'
     .cases hq'
    .cases hs
   .cases hs
  .cases hs
 .cases hs
end
section
variable {P:Program} {sig:Nat->Option Nat} {fn:Fns} {w0:Fr} {Oe:Nat->Option Nat} {J:List PV} {U:St} {a:Act} {tm:Array Value} {w:World} {K:Nat->Nat} {hv:Nat->Value} {O:Nat->Option Nat} {G:Option E} {o:Oper} {ws:List W}
def Rel.eqm {m':List (Nat×Blk)} {n:Nat} (h:Rel w0 Oe J U tm w K hv O) (he:∀s,mget U.m s=mget m' s):Rel w0 Oe J ⟨U.t,m',n⟩ tm w K hv O:=by
 have hl:(Cx.mk J (C5 w O) K hv U.m).Le ⟨J,C5 w O,K,hv,m'⟩:=⟨fun _ _ h=>h,Vw.Le.refl _⟩;have hat:∀s,(Cx.mk J (C5 w O) K hv U.m).At ⟨J,C5 w O,K,hv,m'⟩ s:=fun s=>⟨rfl,rfl,fun e sz x ro xs h1 h2=>⟨e,x,ro,xs,by rw[<-he];exact h1,h2,B7 _⟩⟩;exact⟨h.bel,h.ext,h.out,Cd.le hl hat _ _ h.tmps,fun s b hs=>(h.mem s b (by rw[he];exact hs)).le hl hat (fun _=>rfl) (fun _=>rfl),
  fun s1 s2 b1 b2 h1 h2 h12 k1 k2=>h.inj s1 s2 b1 b2 (by rw[he];exact h1) (by rw[he];exact h2) h12 ((Has.congr (C:=⟨J,C5 w O,K,hv,U.m⟩) rfl rfl).1 k1) ((Has.congr (C:=⟨J,C5 w O,K,hv,U.m⟩) rfl rfl).1 k2),h.t0⟩
def S8 {e:TypeId} (h:Cj P e≠0):∃i,P.info? e=some i:=by
 cases hi:P.info? e with
 |some i=>exact⟨i,rfl⟩
 |none=>simp[Cj,hi] at h
def Fm9 {tb ts ty e:TypeId} {s:ByteArray} (ht:P.underlying tb=some (.slice e)) (hs:P.underlying ts=some .string) (hsz:Cj P e=1):SrcR P w O tb ts ty e (bytesPV s.data.toList) (.string s) (Lib.strCells s):=by
 have hlen:(bytesPV s.data.toList).length=s.size:=by simp[bytesPV]
 have size:∀i,P.info? e=some i->i.size=1:=fun i hi=>by simpa [Cj,hi] using hsz
 have hnews:(Lib.strCells s).length=s.size:=Lib.strCells_length s;have hmap:(s.data.map fun b=>Value.int .u8 b.toNat)=(Lib.strCells s).toArray:=by apply Array.ext';simp[Lib.strCells]
 have pos:bytesPV s.data.toList≠[]->0<s.size:=fun h=>by rw[<-hlen];exact Ct.2 h
 refine⟨by rw[hnews,hlen,hsz,Nat.mul_one],fun u hu=>Lib.strCells_oneCell s u hu,?_,fun hy b n cap hn=> ?_,fun hy hlim i z b hi hz hbb=> ?_,fun hy i g sLen sCap cur hi hg hroom hfit=> ?_,fun hy i z ad0 sLen sCap olds hi hz hbb hlo holds hgr hlim=> ?_⟩
 .intro i x hx;rw[hsz];simp only[bytesPV,Dk,Bs] at hx;obtain⟨c,hc,rfl⟩:=hx;refine⟨rfl,fun j q hq=> ?_⟩;cases j with
  |zero=>
   simp[PV.cells] at hq;subst hq;exact⟨.int .u8 c.toNat,by simp only[Lib.strCells,Nat.mul_one,G6,Dk,hc,Cc],rfl,.i .u8 _⟩
  |succ j=>simp[PV.cells] at hq
 .obtain⟨i,hi⟩:=S8 (P:=P) (e:=e) (by omega);have hm:s.size=0:=by rw[<-hlen,hy];rfl
  have hn0:Lib.strCells s=[]:=C1 (by rw[hnews];exact hm);have hf:=Lib.run_firstCells_string (P:=P) w i.size s;rw[hm,hn0] at hf;cases b<;>simp[Builtin.append_,run_underlying ht,run_underlying hs,sizeOf,typeInfo,hi,Builtin.lenOf,hm,hn,hf,storeCells]
 .rw[hlen] at hlim ⊢;have h0:=pos hy;simp only[LIM] at hlim;have hb2:s.size*i.bytes<=1073741824*65536:=Kv hlim hbb;cases b with
  |none=>
   rw[run_append_nil_string (P:=P) w tb ts ty e i z ht hs hi hz s h0 (by omega) (by omega),hmap]
  |some ad=>
   have:=Lib.run_append_grow_string (P:=P) w tb ts ty e i z ht hs hi hz ad 0 0 [] (by simp) (fun j v hj=>by simp at hj) s (by omega) (by omega) (growslice_fits (by omega) (by rw[Ig];omega));simpa using this
 .rw[hlen] at hroom ⊢;have hi1:=size i hi;rw[hnews,hi1] at hfit;have:=Lib.run_append_room_string (P:=P) w tb ts ty e i ht hs hi hi1 g sLen sCap cur hg s hroom (by omega);rw[hi1,hnews,Nat.mul_one];exact this
 .rw[hlen] at hgr hlim ⊢;simp only[LIM] at hlim;have hb2:(sLen+s.size)*i.bytes<=1073741824*65536:=Kv hlim hbb;exact Lib.run_append_grow_string (P:=P) w tb ts ty e i z ht hs hi hz ad0 sLen sCap olds hlo holds s hgr (by omega) (growslice_fits (by omega) (by omega))
def Rel.drop {w':World} {O':Nat->Option Nat} {s e0 sz0 n:Nat} {x0:E} (h:Rel w0 Oe J U tm w K hv O) (h0:mget U.m s=some (.arr e0 sz0 x0 .no))
  (hb:Bel ⟨w,some (hv s)⟩ w') (hO':∀c,c<w.heap.size->Dd (hv s)≠some c->O' c=O c) (hout:∀c,w'.heap.size<=c->O' c=none):
  Rel w0 Oe J (U.eff ⟨Nw s (O6 U.m s),n,some s⟩) tm w' K hv O':=by
 obtain⟨t1,t2,t3,t4,_⟩:=h.turned h0 hb hO';have hne:∀s',s'≠s->mget (Nw s (O6 U.m s)) s'=(mget U.m s').map (Blk.kill s):=fun s' hs=>by rw[Ov,G4 hs]
 have hsame:mget (Nw s (O6 U.m s)) s=none:=by rw[Ov,H6];rfl
 have hl:(Cx.mk J (C5 w O) K hv U.m).Le ⟨J,C5 w' O',K,hv,Nw s (O6 U.m s)⟩:=⟨fun _ _ h=>h,t2⟩;have hat:∀s',s'≠s->(Cx.mk J (C5 w O) K hv U.m).At ⟨J,C5 w' O',K,hv,Nw s (O6 U.m s)⟩ s':=fun s' hs=>
  ⟨rfl,rfl,fun e sz x ro xs h1 h2=>⟨e,x,ro.kill s,xs,by show mget (Nw s (O6 U.m s)) s'=_;rw[hne s' hs,h1];rfl,h2,B7 _⟩⟩
 have hkhas:∀s' b',(Has ⟨J,C5 w' O',K,hv,Nw s (O6 U.m s)⟩ s' (b'.kill s)↔Has ⟨J,C5 w O,K,hv,U.m⟩ s' b'):=by
  intro s' b';cases b' with
  |box _ _=>exact Iff.rfl
  |map _ _=>exact Iff.rfl
  |arr _ _ _ _=>exact Iff.rfl
 refine⟨t1,t3,hout,Cd.kill hl hat _ _ h.tmps,fun s' b' hs'=> ?_,fun s1 s2 b1 b2 h1 h2 h12 hh1 hh2=> ?_,fun v hv0 ht=>h.t0 v hv0 (Dq7 ht)⟩
 .have hg:mget (Nw s (O6 U.m s)) s'=some b':=hs';by_cases hs:s'=s
  .subst hs;rw[hsame] at hg;cases hg
  .rw[hne s' hs] at hg;obtain⟨b'',hb'',rfl⟩:=Bs.1 hg;exact(h.mem s' b'' hb'').kill hl hat hs (fun hh=>(t4 s' b'' hs hb'' hh).2.1) (fun hh=>(t4 s' b'' hs hb'' hh).2.2)
 .have g1:mget (Nw s (O6 U.m s)) s1=some b1:=h1;have g2:mget (Nw s (O6 U.m s)) s2=some b2:=h2;have n1:s1≠s:=fun e=>by subst e;rw[hsame] at g1;cases g1
  have n2:s2≠s:=fun e=>by subst e;rw[hsame] at g2;cases g2
  rw[hne s1 n1] at g1;rw[hne s2 n2] at g2;obtain⟨b1',hb1',rfl⟩:=Bs.1 g1;obtain⟨b2',hb2',rfl⟩:=Bs.1 g2;exact h.inj s1 s2 b1' b2' hb1' hb2' h12 ((hkhas s1 b1').1 hh1) ((hkhas s2 b2').1 hh2)
def Rel.bldr {b T:Nat} {x:SV} (h:Rel w0 Oe J U tm w K hv O) (hb:mget U.m b=some (.box [.slf b T,x] false)):
  ∃p u,w.heap[K b]? =some (.cells #[p,u] T (0,0))∧(p= .pointer none∨p= .pointer (some ⟨K b,0,none⟩))∧Cw ⟨J,C5 w O,K,hv,U.m⟩ x u∧One u∧O (K b)=some 0∧w0.ok (K b):=by
 obtain⟨g1,g2,vs,T',g3,g4,g5,g6⟩:=h.mem b _ hb;have hT:T'=T:=g6 b T rfl;subst hT;simp only[Cd,Cw] at g5;obtain⟨p,r,hr,hp,u,r',hr',hu,rfl⟩:=g5;subst hr';have hvs:vs= #[p,u]:=by rw[<-D9 (xs:=vs),hr]
 subst hvs;exact⟨p,u,g3,hp,hu,g4 u (by simp),g2 rfl,g1⟩
def Rel.mark {b T:Nat} {x:SV} {p u:Value} (h:Rel w0 Oe J U tm w K hv O) (hb:mget U.m b=some (.box [.slf b T,x] false)) (hbk:w.heap[K b]? =some (.cells #[p,u] T (0,0))) (hp:p= .pointer none∨p= .pointer (some ⟨K b,0,none⟩)) (hu:Cw ⟨J,C5 w O,K,hv,U.m⟩ x u) (h1:One u) (hO:O (K b)=some 0) (hok:w0.ok (K b)):
  ∃w1,Tb (K b) p w w1∧Rel w0 Oe J U tm w1 K hv O:=by
 rcases hp with rfl|rfl
 .refine⟨_,.inl ⟨rfl,rfl⟩,?_⟩;have hother:∀c,c≠K b->(w.setCell ⟨K b,0,none⟩ (.pointer (some ⟨K b,0,none⟩))).heap[c]? =w.heap[c]? :=fun c hc=>Below.heap_setCell _ _ _ _ (fun e=>hc e);have hM:(C5 w O).Le (C5 (w.setCell ⟨K b,0,none⟩ (.pointer (some ⟨K b,0,none⟩))) O):=Ir (fun c _ hc=>hother c (fun e=>by subst e;exact absurd (hc 0 hO) (by omega))) (fun c _ lim hl=>⟨lim,hl,B7 _⟩) (fun c _ hn=>hn);have hr:=h.put (n:=U.n) (w':=w.setCell ⟨K b,0,none⟩ (.pointer (some ⟨K b,0,none⟩))) (b:= .box [.slf b T,x] false) hb trivial hO
   (h.bel.turn hok rfl rfl rfl (B7 _) (by simp[World.setCell]) fun k _ hk=>hother k hk) (by simp[World.setCell]) hother (fun e sz x ro xs hh=>by cases hh)
   ⟨hok,fun _=>hO,#[.pointer (some ⟨K b,0,none⟩),u],T,by simp[World.setCell,rj,hbk],fun v hv=>by
    simp only[Ch,List.not_mem_nil,or_false] at hv;rcases hv with rfl|rfl
    .rfl
    .exact h1,by
    simp only[Cd];refine⟨_,_,rfl,.inr rfl,_,_,rfl,?_,rfl⟩;refine Cw.le (C:=⟨J,C5 w O,K,hv,U.m⟩) (C':=⟨J,C5 (w.setCell ⟨K b,0,none⟩ (.pointer (some ⟨K b,0,none⟩))) O,K,hv,Kj U.m b (.box [.slf b T,x] false)⟩) ⟨fun _ _ h=>h,hM⟩ (fun s'=>⟨rfl,rfl,fun e sz y ro xs h1 h2=> ?_⟩) _ _ hu;by_cases hss:s'=b
    .subst hss;have h1':mget U.m s'=some (.arr e sz y ro):=h1;rw[hb] at h1';cases h1'
    .exact⟨e,y,ro,xs,by show mget (Kj U.m b _) s'=_;rw[show mget (Kj U.m b (.box [.slf b T,x] false)) s'=mget U.m s' from Jk U hss _];exact h1,h2,B7 _⟩,fun s' T' hh=>by injection hh with hh;injection hh⟩
  refine(hr.eqm (m':=U.m) (n:=U.n) fun s'=> ?_:_);show mget (Kj U.m b _) s'=_;by_cases hss:s'=b
  .subst hss;rw[show mget (Kj U.m s' (.box [.slf s' T,x] false)) s'=some _ from L2 U s' _,hb]
  .exact Jk U hss _
 .exact⟨w,.inr ⟨rfl,rfl⟩,h⟩
def Rel.laid {b T s e n:Nat} {x:E} {y:SV} (h:Rel w0 Oe J U tm w K hv O) (hb:mget U.m b=some (.box [.slf b T,y] false)) (hs:mget U.m s=some (.arr e 1 x .no)):
  ∃ao m c,hv s= .slice ao m c∧(∃q u',w.heap[K b]? =some (.cells #[q,u'] T (0,0)))∧Rel w0 Oe J (U.eff ⟨Kj U.m b (.box [.slf b T,.h s] false),n,none⟩) tm (w.setCell ⟨K b,1,none⟩ (.slice ao m c)) K hv O:=by
 obtain⟨_,xs,vs,_,how,_,_⟩:=h.mem s _ hs;obtain⟨ao,m,c,hvs⟩:∃ao m c,hv s= .slice ao m c:=by
  rcases how.2 with⟨ad,e1,_⟩|⟨g,cap,cur,e1,_⟩
  .exact⟨ad,0,0,e1⟩
  .exact⟨_,_,_,e1⟩
 obtain⟨p,u,hbk,hp,hu,h1,hO,hok⟩:=h.bldr hb;refine⟨ao,m,c,hvs,⟨p,u,hbk⟩,?_⟩;have hother:∀k,k≠K b->(w.setCell ⟨K b,1,none⟩ (.slice ao m c)).heap[k]? =w.heap[k]? :=fun k hc=>Below.heap_setCell _ _ _ _ (fun e=>hc e);refine h.put hb trivial hO (h.bel.turn hok rfl rfl rfl (B7 _) (by simp[World.setCell]) fun k _ hk=>hother k hk) (by simp[World.setCell]) hother (fun e sz x ro xs hh=>by cases hh)
   ⟨hok,fun _=>hO,#[p,.slice ao m c],T,by simp[World.setCell,rj,hbk],fun v hv=>by
    simp only[Ch,List.not_mem_nil,or_false] at hv;rcases hv with rfl|rfl
    .rcases hp with rfl|rfl<;>rfl
    .rfl,by
    simp only[Cd];refine⟨_,_,rfl,hp,_,_,rfl,hvs.symm,rfl⟩,fun s' T' hh=>by injection hh with hh;injection hh⟩
end
section
variable {P:Program} {sig:Nat->Option Nat} {fn:Fns} {w0:Fr} {Oe:Nat->Option Nat} {J:List PV} {U:St} {a:Act} {tm:Array Value} {w:World} {K:Nat->Nat} {hv:Nat->Value} {O:Nat->Option Nat} {G:Option E} {o:Oper} {ws:List W}
def Xf {T e:Nat} (h:Ty P T=some e):P.underlying e=some (.int .u8)∧Cj P e=1∧En P e=true∧∃zs,Jd P e=some zs:=by
 unfold Ty at h;split at h
 .split at h
  .split at h
   .split at h
    .rename_i hc;injection h with h;subst h;obtain⟨_,h1,h2,h3,h4⟩:=hc;refine⟨?_,h2,h3,Dt.1 h4⟩;unfold Bq2 at h1;split at h1
     .rename_i hu;exact hu
     .cases h1
    .cases h
   .cases h
  .cases h
 .cases h
def Ez3 {s b k:Nat} (hne:b≠s):∀{j:Nat} {l:List SV},l[j]? =some (.bp b k)->(SV.kills s l)[j]? =some (.bp b k):=by
 intro j l
 induction l generalizing j with
 |nil=>intro h;simp at h
 |cons x l ih=>
  intro h;cases j with
  |zero=>
   simp only[D7,Bn] at h;subst h;simp only[SV.kills,SV.kill,D7,if_neg hne]
  |succ j=>
   simp only[SV.kills,Fs] at h ⊢;exact ih h
def Rel.bpAt {b k s:Nat} {m':List (Nat×Blk)} {n:Nat} {w':World} {β':Nat->Nat} {hv':Nat->Value} {O':Nat->Option Nat} (h:Rel w0 Oe J U tm w K hv O) (hk:U.t[k]? =some (.bp b 0)) (hne:b≠s) (h':Rel w0 Oe J (U.eff ⟨m',n,some s⟩) tm w' β' hv' O'):β' b=K b:=by obtain⟨v,h1,h2⟩:=h.tmps.get k _ hk;obtain⟨v',h3,h4⟩:=h'.tmps.get k _ (Ez3 hne hk);rw[h1] at h3;injection h3 with h3;subst h3;simp only[Cw] at h2 h4;rw[h2] at h4;injection h4 with h4;injection h4 with h4;injection h4 with h4;exact h4.symm
def Ah8 {b s T e k:Nat} {buf r:SV} {src:E} {ws0:List W} {F:Eff} {tb ts:TypeId} {u vx:Value} (h:Rel w0 Oe J U tm w K hv O) (hb:mget U.m b=some (.box [.slf b T,buf] false)) (he:Ty P T=some e) (hk:U.t[k]? =some (.bp b 0))
  (hw:pd U s b T e buf src ws0=some (ws,r,F)) (hck:Chk J ws) (hu:Cw ⟨J,C5 w O,K,hv,U.m⟩ buf u) (hsrc:∀ys,src.ev J=some (.l 1 ys)->∃news,SrcR P w O tb ts tb e ys vx news):
  ∃ao n' c' w2 β' hv' O',(Builtin.append_ #[tb,ts] tb #[u,vx]).run P w= .ok (.slice ao n' c') w2∧(∃q u',w2.heap[K b]? =some (.cells #[q,u'] T (0,0)))∧Rel w0 Oe J (U.eff F) tm (w2.setCell ⟨K b,1,none⟩ (.slice ao n' c')) β' hv' O'∧r= .und:=by
 obtain⟨_,hsz,hsm,zs,hzs⟩:=Xf he;obtain⟨i,z,hi,hzz,hzz2,_,_⟩:=H2 (C:=⟨J,C5 w O,K,hv,U.m⟩) hzs;have fin:∀(s1:Nat) (x:E),s1≠b->F=⟨Kj (H0 U.m U.n s1 (.arr e 1 x .no)).m b (.box [.slf b T,.h s1] false),U.n,some s1⟩->r= .und->
   (∃v' w' β' hv' O',(Builtin.append_ #[tb,ts] tb #[u,vx]).run P w= .ok v' w'∧Rel w0 Oe J (U.eff (H0 U.m U.n s1 (.arr e (Cj P e) x .no))) tm w' β' hv' O'∧hv' s1=v')->
   ∃ao n' c' w2 β' hv' O',(Builtin.append_ #[tb,ts] tb #[u,vx]).run P w= .ok (.slice ao n' c') w2∧(∃q u',w2.heap[K b]? =some (.cells #[q,u'] T (0,0)))∧Rel w0 Oe J (U.eff F) tm (w2.setCell ⟨K b,1,none⟩ (.slice ao n' c')) β' hv' O'∧r= .und:=by
  rintro s1 x hne rfl hr ⟨v',w',β',hv',O',hrun,hrel,hv1⟩;rw[hsz] at hrel;have hβ:β' b=K b:=h.bpAt hk (Ne.symm hne) hrel;have hb2:mget (U.eff (H0 U.m U.n s1 (.arr e 1 x .no))).m b=some (.box [.slf b T,buf.kill s1] false):=by show mget (H0 U.m U.n s1 (.arr e 1 x .no)).m b=_;rw[show mget (H0 U.m U.n s1 (.arr e 1 x .no)).m b=(mget U.m b).map (Blk.kill s1) from L3 U (Ne.symm hne) _,hb];simp only[Cc,Blk.kill,SV.kills,SV.kill,if_neg (Ne.symm hne)]
  have hs2:mget (U.eff (H0 U.m U.n s1 (.arr e 1 x .no))).m s1=some (.arr e 1 x .no):=Nv U s1 _;obtain⟨ao,m,c,e1,e2,e3⟩:=hrel.laid (n:=U.n) hb2 hs2;rw[hβ] at e2 e3;rw[<-hv1,e1] at hrun;exact⟨ao,m,c,w',β',hv',O',hrun,e2,e3,hr⟩
 have appd:∀(y:E) (xs:List PV),y.ev J=some (.l 1 xs)->(∃q,(E.app 1 y src).ev J=some q)->∃ys news,SrcR P w O tb ts tb e ys vx news∧(E.app 1 y src).ev J=some (.l 1 (xs++ys))∧xs.length+ys.length<=LIM:=by
  rintro y xs hy ⟨q,hq⟩;have hq':=hq;simp only[E.ev,hy,B0,Bl] at hq';obtain⟨p,hp,hq'⟩:=hq';unfold Jm at hq';split at hq'
  .rename_i heq1;injection heq1 with heq1 heq2;subst heq1;subst heq2;split at hq'
   .rename_i hcond;obtain⟨_,rfl,hlim⟩:=hcond;injection hq' with hq';obtain⟨news,hn⟩:=hsrc _ hp;exact⟨_,news,hn,by rw[hq,hq'],hlim⟩
   .cases hq'
  .cases hq'
 unfold pd at hw;split at hw
 .split at hw
  .cases hw
  .rename_i hne;simp only[Bn,B4] at hw;obtain⟨rfl,rfl,rfl⟩:=hw;refine fin s _ hne rfl rfl ?_;obtain⟨ys,news,h1,h2,h3⟩:=appd _ [] rfl (hck _ (Ej _ (Cl.2 rfl)));simp only[Cw] at hu;subst hu;exact Lk (b:=none) (ro:= .no) h hsm hi hzz hzz2 h1 (by rw[hsz];simpa using h2) (by simpa using h3)
 .rename_i s0;split at hw
  .cases hw
  .rename_i hne;split at hw
   .rename_i e0 sz y hb0;split at hw
    .cases hw
    .rename_i hcond;simp only[not_or,Decidable.not_not] at hcond;obtain⟨rfl,rfl⟩:=hcond;simp only[Bn,B4] at hw;obtain⟨rfl,rfl,rfl⟩:=hw;refine fin s0 _ hne rfl rfl ?_;obtain⟨_,xs,_,g1,_⟩:=h.mem s0 _ hb0;have g1':y.ev J=some (.l 1 xs):=g1;obtain⟨ys,news,h1,h2,h3⟩:=appd _ xs g1' (hck _ (Ej _ (Cl.2 rfl)));simp only[Cw] at hu;subst hu;exact bk (lk:=none) h h (fun _ _ hne hb=>⟨hne,hb⟩) hsm hi hzz hzz2 (by rw[hsz];exact hb0) (by rw[hsz];exact g1') h1 (by rw[hsz];exact h2) h3
   .cases hw
 .cases hw
def og (w:World) (ad:Addr) (n k:Nat) (hk:k≠ad.block):(w.freeze ad n).heap[k]? =w.heap[k]? :=by
 unfold World.freeze;split
 .rfl
 .simp only[rj];rw[if_neg (fun h=>hk h.symm)]
def v8 (w:World) (ad:Addr) (n:Nat):(w.freeze ad n).heap.size=w.heap.size:=by
 unfold World.freeze;split
 .rfl
 .simp only[Array.size_modify]
def v9 (w:World) (ad:Addr) (n:Nat):(w.freeze ad n).os=w.os∧(w.freeze ad n).tape=w.tape∧(w.freeze ad n).output=w.output∧(w.freeze ad n).drawn=w.drawn:=by unfold World.freeze;split<;>exact⟨rfl,rfl,rfl,rfl⟩
def Hg3 (hC:Contract P sig fn) {c:Call} {f T k s:Nat} {r:SV} {F:Eff} (ho:o.op= .call c) (hc:c.callee= .value (.func f)) (hbl:yq (sig f)=some (T,k))
  (h:Rel w0 Oe J U a.tmps w K hv O) (hG:GOk J G) (hx:Gy4 P U G s T k (args P U G c.args.toList c.argTypes.toList)=some (ws,r,F)) (hk:Chk J ws):Fc P o a w (Ix w0 Oe J U a.tmps F r):=by
 have hsay:=hC.bld f T k hbl;have hfx:a.eval (.func f)= .func (.func f) #[] #[]:=rfl;unfold Gy4 at hx;split at hx
 .cases hx
 .rename_i hG0;split at hx
  .rename_i b ar has;have hG':G=none:=by cases G<;>simp_all
   subst hG';have hargs:Cd ⟨J,C5 w O,K,hv,U.m⟩ (.bp b 0::ar) (c.args.map a.eval).toList:=by have:=Xh (ds:=a.defers) (C:=⟨J,C5 w O,K,hv,U.m⟩) hG rfl h.tmps has;simpa using this
   simp only[Cd,Cw] at hargs;obtain⟨v0,vr,hcs,rfl,hrest⟩:=hargs;have hloc:∃j:Nat,U.t[j]? =some (SV.bp b 0):=by
    cases hl:c.args.toList with
    |nil=>rw[hl] at has;simp[args] at has
    |cons x xs=>
     rw[hl] at has;simp only[args] at has;split at has
     .rename_i y ys h1 _;simp only[Bn,List.cons.injEq] at has;obtain⟨rfl,_⟩:=has;cases x with
      |tmp j=>
       simp only[opd,Bl] at h1;obtain⟨sv,h2,h3⟩:=h1;unfold Dn6 at h3;split at h3
       .simp[ew] at h3
       .injection h3 with h3;subst h3;exact⟨j,h2⟩
      |const v=>
       simp only[opd,Bn] at h1;cases v<;>simp[Vk] at h1;split at h1<;>cases h1
      |func g=>simp[opd] at h1
      |global g=>simp[opd] at h1
     .cases has
   obtain⟨j,hj⟩:=hloc;split at hx
   .rename_i b' T' buf hb;split at hx
    .cases hx
    .rename_i hcond;simp only[not_or,Decidable.not_not] at hcond;obtain⟨rfl,rfl⟩:=hcond;split at hx
     .cases hx
     .rename_i e he;obtain⟨hu8,hsz,hsm,_⟩:=Xf he;obtain⟨p,u,hbk,hp,hu,h1,hO,hok⟩:=h.bldr hb;obtain⟨w1,hm,hrel1⟩:=h.mark hb hbk hp hu h1 hO hok;have hu1:∀(w':World),(∀s0,buf= .h s0∨buf= .nil 0∨True)->Cw ⟨J,C5 w O,K,hv,U.m⟩ buf u->(∃s0,buf= .h s0)∨(∃n,buf= .nil n)->Cw ⟨J,C5 w' O,K,hv,U.m⟩ buf u:=by
       rintro w' _ hq (⟨s0,rfl⟩|⟨n,rfl⟩)
       .simp only[Cw] at hq ⊢;exact hq
       .simp only[Cw] at hq ⊢;exact hq
      have kinds:∀{src:E} {ws0:List W},pd U s b' T' e buf src ws0=some (ws,r,F)->(∃s0,buf= .h s0)∨(∃n,buf= .nil n):=by
       intro src ws0 hw;unfold pd at hw;split at hw
       .exact .inr ⟨_,rfl⟩
       .exact .inl ⟨_,rfl⟩
       .cases hw
      split at hx
      ·-- WriteString
       rename_i x;simp only[Cd,Cw] at hrest;obtain⟨v1,vr',rfl,⟨q,hq,hqr⟩,rfl⟩:=hrest;obtain⟨tb,ts,e',he',htb,hts,hrun⟩:=hsay;rw[he] at he';injection he' with he';subst he';obtain⟨p1,hp1⟩:∃p1,(E.s2b x).ev J=some p1:=by
        unfold pd at hx;split at hx
        .split at hx
         .cases hx
         .simp only[Bn,B4] at hx;obtain⟨rfl,_,_⟩:=hx;obtain⟨q2,hq2⟩:=hk _ (Ej _ (Cl.2 rfl));simp only[E.ev,B0,Bl] at hq2;obtain⟨p2,hp2,_⟩:=hq2;exact⟨p2,by simpa only[E.ev,Bl] using hp2⟩
        .split at hx
         .cases hx
         .split at hx
          .split at hx
           .cases hx
           .simp only[Bn,B4] at hx;obtain⟨rfl,_,_⟩:=hx;obtain⟨q2,hq2⟩:=hk _ (Ej _ (Cl.2 rfl));simp only[E.ev,Bl] at hq2;obtain⟨_,_,p2,hp2,_⟩:=hq2;exact⟨p2,by simpa only[E.ev,Bl] using hp2⟩
          .cases hx
        .cases hx
       have hq':x.ev J=some q:=hq;have hstr:∃l,q= .s l∧p1= .l 1 (bytesPV l):=by
        simp only[E.ev,hq',B0] at hp1;unfold Ap1 at hp1;split at hp1
        .split at hp1
         .injection hp1 with hp1;exact⟨_,rfl,hp1.symm⟩
         .cases hp1
        .cases hp1
       obtain⟨l,rfl,rfl⟩:=hstr;obtain⟨str,hv1,hl⟩:∃str:ByteArray,v1= .string str∧str.data.toList=l:=by
        cases hqr with
        |s _ y hy=>exact⟨y,rfl,hy⟩
       subst hv1;obtain⟨ao,n',c',w2,β',hv',O',r1,r2,r3,rfl⟩:=Ah8 (ws:=ws) (tb:=tb) (ts:=ts) (vx:= .string str) hrel1 hb he hj hx hk (hu1 w1 (fun _=> .inr (.inr trivial)) hu (kinds hx)) (fun ys hys=>by rw[hp1] at hys;injection hys with hys;injection hys with _ hys;subst hys;rw[<-hl];exact⟨_,Fm9 htb hts hsz⟩);refine H3 (cv:= #[]) ho hc hfx ?_;have hargs:c.args.map a.eval++ #[]= #[.pointer (some ⟨K b',0,none⟩),.string str]:=by rw[Ik3,<-D9 (xs:=c.args.map a.eval),hcs]
       rw[hargs];refine(hrun w w1 w2 (K b') p u str ao n' c' hbk hm r1 r2).mono fun v w' hw'=> ?_;subst hw';exact⟨β',hv',O',r3,by simp only[Cw]⟩
      ·-- WriteByte
       rename_i x;simp only[Cd,Cw] at hrest;obtain⟨v1,vr',rfl,⟨q,hq,hqr⟩,rfl⟩:=hrest;obtain⟨tb,e',he',htb,hrun⟩:=hsay;rw[he] at he';injection he' with he';subst he';have hmem:W.chk (.b2s (.lit 1 [x]))∈ws:=by
        unfold pd at hx;split at hx
        .split at hx
         .cases hx
         .simp only[Bn,B4] at hx;obtain⟨rfl,_,_⟩:=hx;simp
        .split at hx
         .cases hx
         .split at hx
          .split at hx
           .cases hx
           .simp only[Bn,B4] at hx;obtain⟨rfl,_,_⟩:=hx;simp
          .cases hx
        .cases hx
       obtain⟨q2,hq2⟩:=hk _ hmem;have hq':x.ev J=some q:=hq;simp only[E.ev,E.evs,hq',B0,Cc,Lf,V6,Mb,List.all_nil,Mc] at hq2;obtain⟨n,rfl⟩:∃n,q= .i .u8 n:=by
        split at hq2
        .simp only[B0,Yf,Bs] at hq2;obtain⟨bs,hbs,_⟩:=hq2;obtain⟨ns,hns,_⟩:=Ow hbs;cases ns with
         |nil=>simp at hns
         |cons n ns=>simp at hns;exact⟨n,hns.1⟩
        .simp at hq2
       have hv1:v1= .int .u8 n:=hqr.int;subst hv1;let w1':=w1.alloc (.cells #[.int .u8 n] e);obtain⟨hrel2,_⟩:=hrel1.belowO (w':=w1') (O':=O) ((Blw.refl _ _).alloc (B7 _) _) (fun _ _=>rfl) (fun c hc=>hrel1.out c (by rw[show w1'.heap.size=w1.heap.size+1 by simp[w1']] at hc;omega));have hcell:w1'.cell? ⟨w1.heap.size,0,none⟩=some (.int .u8 n):=by rw[cell_of_row w1' w1.heap.size 0 #[.int .u8 n] e (0,0) (heap_alloc_new w1 _)];rfl
       have hsrc:Src w1' O (Cj P e) [.i .u8 n] (.slice (some ⟨w1.heap.size,0,none⟩) 1 1) [.int .u8 n]:=by
        rw[show Src w1' O (Cj P e)=Src w1' O 1 by rw[hsz]];refine⟨rfl,fun u hu=>by simp at hu;subst hu;rfl,fun i x hx=> ?_,_,_,rfl,fun _=>⟨_,rfl,fun j u hj=> ?_⟩⟩
        .cases i with
         |zero=>
          simp at hx;subst hx;refine⟨rfl,fun j c hc=> ?_⟩;cases j with
          |zero=>simp[PV.cells] at hc;subst hc;exact⟨_,rfl,rfl,.i .u8 n⟩
          |succ j=>simp[PV.cells] at hc
         |succ i=>simp at hx
        .cases j with
         |zero=>simp at hj;subst hj;simpa [Go.Addr.add] using hcell
         |succ j=>simp at hj
       obtain⟨i0,hi0⟩:=S8 (P:=P) (e:=e) (by omega);obtain⟨ao,n',c',w2,β',hv',O',r1,r2,r3,rfl⟩:=Ah8 (ws:=ws) (tb:=tb) (ts:=tb) (vx:= .slice (some ⟨w1.heap.size,0,none⟩) 1 1) hrel2 hb he hj hx hk (hu1 w1' (fun _=> .inr (.inr trivial)) hu (kinds hx)) (fun ys hys=>by
        simp only[E.ev,E.evs,hq',B0,Cc,Lf,V6,Mb,List.all_nil,Mc] at hys;split at hys
        .injection hys with hys;injection hys with _ hys;subst hys;exact⟨_,hsrc.runs htb (by rw[hi0];rfl)⟩
        .cases hys)
       refine H3 (cv:= #[]) ho hc hfx ?_;have hargs:c.args.map a.eval++ #[]= #[.pointer (some ⟨K b',0,none⟩),.int .u8 n]:=by rw[Ik3,<-D9 (xs:=c.args.map a.eval),hcs]
       rw[hargs];refine(hrun w w1 w2 (K b') p u n ao n' c' hbk hm r1 r2).mono fun v w' hw'=> ?_;subst hw';exact⟨β',hv',O',r3,by simp only[Cw]⟩
      ·-- String
       split at hx
       .rename_i s0;split at hx
        .rename_i e0 sz y hb0;split at hx
         .cases hx
         .rename_i hcond;simp only[not_or,Decidable.not_not] at hcond;obtain⟨rfl,hne,rfl⟩:=hcond;simp only[Bn,B4] at hx;obtain⟨rfl,rfl,rfl⟩:=hx;simp only[Cd] at hrest;subst hrest;obtain⟨e',he',hrun⟩:=hsay;rw[he] at he';injection he' with he';subst he';obtain⟨_,xs,us,g1,g2,g3,g4,_⟩:=h.mem s0 _ hb0;have g1':y.ev J=some (.l 1 xs):=g1;obtain⟨q,hq⟩:=hk _ (Gm ..);obtain⟨q2,hq2⟩:=hk _ (Kw _ (Cl.2 rfl));have hq':=hq;simp only[E.ev,g1',B0,Yf,Bs] at hq';obtain⟨l,hl,rfl⟩:=hq';obtain⟨ns,rfl,hls,hrg⟩:=Ow hl;have hne0:l≠[]:=by
           rintro rfl;have hq3:(E.sidx (.b2s y) (.c (.i .i64 0))).ev J=((E.b2s y).ev J).bind fun p=>Vf p (.i .i64 0):=by simp[E.ev]
           rw[hq3,hq] at hq2;simp[Vf] at hq2
          have hlen:l.length=(ns.map (PV.i .u8)).length:=by rw[hls];simp
          have hus:us=Lib.byteCells l:=by
           refine List.ext_getElem? fun i=> ?_;by_cases hi:i<ns.length
           .obtain⟨_,k2⟩:=g3 i (.i .u8 (ns[i])) (by simp[hi]);obtain⟨uu,u1,_,u3⟩:=k2 0 (.i .u8 (ns[i])) rfl;rw[Nat.mul_one,G6] at u1;have hr:=hrg (ns[i]) (H1 hi);rw[u1,u3.int,hls];simp only[Lib.byteCells,List.map_map,Dk,B3 hi,Cc,Function.comp_apply];congr 2;have:(UInt8.ofNat (ns[i]).toNat).toNat=(ns[i]).toNat:=by rw[UInt8.toNat_ofNat'];exact Fj (by omega)
            rw[this];omega
           .have h2:us.length=ns.length:=by have:=g2.1;simpa using this
            rw[List.getElem?_eq_none (by omega),List.getElem?_eq_none (by simp[Lib.byteCells,hls];omega)]
          simp only[Cw] at hu;subst hu;rcases g2.2 with⟨_,_,e2⟩|⟨g,cap,cur,e1,e1c,e2,e3,e4,e5,e6,e7⟩
          .exact absurd (C1 (by omega)) hne0
          .have e1':hv s0= .slice (some ⟨g,0,none⟩) l.length cap:=by rw[hlen];exact e1
           have hgb:Dd (hv s0)=some g:=by rw[e1'];simp only[Dd,if_neg (show¬cap=0 by omega)]
           refine H3 (cv:= #[]) ho hc hfx ?_;have hargs:c.args.map a.eval++ #[]= #[.pointer (some ⟨K b',0,none⟩)]:=by rw[Ik3,<-D9 (xs:=c.args.map a.eval),hcs]
           rw[hargs];refine(hrun w (K b') g cap p cur l (by rw[<-e1'];exact hbk) e3 hne0 (by omega) e5 (by omega) (by rw[<-hus,<-e7,hlen,Nat.mul_one])).mono fun v w' hw'=> ?_;obtain⟨rfl,rfl⟩:=hw';have hfz:∀k,k≠g->(w.drew.freeze ⟨g,0,none⟩ l.length).heap[k]? =w.heap[k]? :=fun k hk=>og w.drew ⟨g,0,none⟩ l.length k hk;have hsize:(w.drew.freeze ⟨g,0,none⟩ l.length).heap.size=w.heap.size:=v8 w.drew _ _;obtain⟨z1,z2,z3,z4⟩:=v9 w.drew ⟨g,0,none⟩ l.length;have hbel:Bel ⟨w,some (hv s0)⟩ (w.drew.freeze ⟨g,0,none⟩ l.length):=⟨z1,z2,z3,by rw[z4];exact Nat.le_succ _,by rw[hsize];exact B7 _,fun k _ hk=>hfz k (fun e=>hk (by show Dd (hv s0)=_;rw[hgb,e]))⟩;exact⟨K,hv,O,h.drop (n:=U.n) hb0 hbel (fun _ _ _=>rfl) (fun c hc=>h.out c (by rw[hsize] at hc;exact hc)),by simp only[Cw];exact⟨_,hq,.s _ _ rfl⟩⟩
        .cases hx
       .cases hx
      .cases hx
   .cases hx
  .cases hx
def Fp9 {xt yt e:TypeId} {x y:Operand} {ex:E} (ho:o.op= .binOp .eql xt x y yt) (ht:Is P xt=some e) (hy:Dv4 y=true) (h:Rel w0 Oe J U a.tmps w K hv O) (hG:GOk J G) (hx:opd P U G xt x=some (.e ex))
  (hk:Chk J [Hp G (.len ex)]):Fc P o a w (Ix w0 Oe J U a.tmps (Hz U) (.nilq ex)):=by
 have hu:=N5 ht;obtain⟨r,hr⟩:=hk.g1 hG;have hr0:=F9 (ds:=a.defers) (C:=⟨J,C5 w O,K,hv,U.m⟩) hG rfl hx h.tmps;have e0:a.eval=(Act.mk a.tmps a.defers).eval:=rfl;rw[<-e0] at hr0;simp only[Cw] at hr0;obtain⟨p,hp,hpr⟩:=hr0;have hp':ex.ev J=some p:=hp;simp only[E.ev,hp',B0] at hr;unfold H7 at hr;split at hr
 .rename_i sz xs;have hyv:a.eval y= .slice none 0 0:=by
   unfold Dv4 at hy;split at hy
   .rfl
   .cases hy
  generalize hv1:a.eval x=v1 at hpr;cases hpr with
  |l _ _ base cap ad el hc hb hs hM h1 hh=>
   refine Fc.value (v:= .bool base.isNone) (w':=w) ?_ (.keep h ?_)
   .have hrun:(binOp .eql xt (.slice base xs.length cap) (.slice none 0 0)).run P w= .ok (.bool base.isNone) w:=by
     have hq:∀d:Nat,(Op.equalIn (d+1) xt (.slice base xs.length cap) (.slice none 0 0)).run P w= .ok base.isNone w:=fun d=>by cases base<;>simp[Op.equalIn,run_underlying hu]
     simp only[binOp];simp[Op.equal,Op.maxDepth,hq 9999]
    have hgd:(eqGuard .eql xt x y (.slice base xs.length cap) (.slice none 0 0)).run P w= .ok () w:=by simp[eqGuard]
    simp only[execOp,ho,hv1,hyv,Sem.run_bind,hgd,hrun,Result.andThen];rfl
   .simp only[Cw];refine⟨sz,xs,base.isNone,hp',rfl,fun hn=> ?_⟩;refine Classical.byContradiction fun hne=> ?_;have:=hb hne;subst this;cases hn
 .cases hr
end
section
variable {P:Program} {sig:Nat->Option Nat} {fn:Fns} {w0:Fr} {Oe:Nat->Option Nat} {J:List PV} {U:St} {a:Act} {tm:Array Value} {w:World} {K:Nat->Nat} {hv:Nat->Value} {O:Nat->Option Nat} {G:Option E} {o:Oper} {ws:List W}
def N9 {r:Option (List W×SV)} {v:SV} {F:Eff} (h:kr r U=some (ws,v,F)):r=some (ws,v)∧F=Hz U:=by unfold kr at h;obtain⟨⟨a,b⟩,h1,h2⟩:=Bs.1 h;simp only[B4] at h2;obtain⟨rfl,rfl,rfl⟩:=h2;exact⟨h1,rfl⟩
def xn (hC:Contract P sig fn) {c:Call} {x:Operand} {svs:List SV} {more:List Nat} {r:SV} {F:Eff} {mk:Option E->Bool->List E->Nat->W} {η1 η2 I:List PV} {s:Nat} {r':SV} {ε':Eff} (ho:o.op= .call c) (hc:c.callee= .value x)
  (h:Rel w0 Oe J U a.tmps w K hv O) (hG:GOk J G) (hargs:args P U G c.args.toList c.argTypes.toList=some svs) (hcall:ah P U G o.type mk svs more=some (ws,r,F))
  (hmk:∀flat es m,ws=[mk G flat es m]->(mk G flat es m).ev fn η1=some η2->∃vs f caps,E.evs η1 es=some vs∧results flat m η1 (fn f vs.length (vs++caps))=some η2∧
   Gc3 P sig U.m U.n J o.type s f flat r F r' ε'∧
   ∀O1,(C5 w O).Le (C5 w O1)->(∀s,s∈more->Mh ⟨J,C5 w O,K,hv,U.m⟩ O1 s)->Tgt (C5 w O1) f caps (a.eval x))
  (hw:Fz fn η1 ws=some η2) (hη:J=η2++I) (hn:η1.length=U.n):Fc P o a w (Ix w0 Oe J U a.tmps ε' r'):=by
 unfold ah at hcall;split at hcall
 .cases hcall
 .rename_i es ss hes;dsimp only at hcall;split at hcall
  .cases hcall
  .rename_i hsm;split at hcall
   .cases hcall
   rename_i hlt;split at hcall
   .cases hcall
   .simp only[Bn,B4] at hcall;obtain⟨rfl,rfl,rfl⟩:=hcall;simp only[Fz,Bl] at hw;obtain⟨η3,hw,he⟩:=hw;injection he with he;subst he;obtain⟨vs,f,caps,k1,k2,k3,k4⟩:=hmk _ _ _ rfl hw;obtain⟨rs,q1,q2,q3,q4⟩:=J6 k2;subst q4;have hvs:E.evs J es=some vs:=by rw[hη,Cy];exact E.evs_mono _ _ _ _ k1
    have hr:Cd ⟨J,C5 w O,K,hv,U.m⟩ svs (c.args.map a.eval).toList:=by have:=Xh (ds:=a.defers) (C:=⟨J,C5 w O,K,hv,U.m⟩) hG rfl h.tmps hargs;simpa using this
    refine Gx3 (s:=s) hC (single:=L6 P o.type) ho hc h hr hes hvs k4 q1 (by rw[(Sz hvs).1];simpa using hlt) q2 q3 hη hn (fun h1=> ?_) (fun h1=> ?_) (ty:=o.type) (fun h1=> ?_) k3
    .unfold L6 at h1;unfold N8;split at h1
     .cases h1
     .rfl
    .rw[h1] at hsm;simpa using hsm
    .unfold L6 at h1;unfold N8;split at h1
     .cases h1
     .rfl
def Eh6 (hC:Contract P sig fn) {own:List Nat} {s:Nat} {r:SV} {F:Eff} (h:Rel w0 Oe J U a.tmps w K hv O) (hG:GOk J G) (hx:xop P sig own U G s o=some (ws,r,F)) {η1 η2 I:List PV} (hw:Fz fn η1 ws=some η2) (hη:J=η2++I) (hn:η1.length=U.n):
  Fc P o a w (Ix w0 Oe J U a.tmps F r):=by
 have hk:Chk J ws:=fun x hx=>Dz1 hw ⟨I,hη⟩ x hx;unfold xop at hx;dsimp only at hx;split at hx
 ·-- move
  rename_i x ho;obtain⟨v,hv1,he⟩:=Bs.1 hx;simp only[B4] at he;obtain⟨rfl,rfl,rfl⟩:=he;exact Cm2 (.inl ho) h hG hv1
 .rename_i x ho;obtain⟨v,hv1,he⟩:=Bs.1 hx;simp only[B4] at he;obtain⟨rfl,rfl,rfl⟩:=he;exact Cm2 (.inr ho) h hG hv1
 .rename_i c x y ho;split at hx
  .rename_i ec hc;split at hx
   .rename_i ea eb h1 h2;simp only[Bn,B4] at hx;obtain⟨rfl,rfl,rfl⟩:=hx;exact Fp8 ho h hG hc h1 h2 hk
   .cases hx
  .cases hx
 ·-- alloc
  rename_i t ho;split at hx
  .cases hx
  .obtain⟨cs,h1,he⟩:=Bl.1 hx;split at he
   .rename_i hns;simp only[Bn,B4] at he;obtain⟨rfl,rfl,rfl⟩:=he;exact Eq2 ho h h1 hns
   .cases he
 ·-- box
  rename_i t x ho;split at hx
  .cases hx
  .split at hx
   .rename_i ws' cs hb;split at hx
    .rename_i hns;simp only[Bn,B4] at hx;obtain⟨rfl,rfl,rfl⟩:=hx;obtain⟨sv,h1,h2⟩:=Bl.1 hb;exact Hg2 ho h hG h1 h2 hns hk
    .cases hx
   .cases hx
 ·-- build
  rename_i t parts ho;split at hx
  .rename_i zs vs h1 h2;split at hx
   .rename_i ws' cs hf;split at hx
    .rename_i hc;simp only[Bn,B4] at hx;obtain⟨rfl,rfl,rfl⟩:=hx;simp only[Bt] at hc;have hk':Chk J ws':=by
      rcases Bm G.isNone with hfr|hfr
      .rw[hfr,if_pos rfl] at hk;exact hk
      .rw[hfr,Hb] at hc;intro x hx;have:=Ds.1 hc.1 _ hx;unfold W.triv at this;split at this
       .rename_i p e;injection e with e;subst e;exact⟨p,by simp only[E.ev,B0,this,if_true]⟩
       .cases this
     have:=Eq1 ho h hG h1 h2 hf hc.2 hk' (r0:=if own.contains s then .ag cs else nn cs) (by split<;>simp);exact this
    .cases hx
   .cases hx
  .cases hx
 ·-- buildSlice
  rename_i t len parts ho;split at hx
  .rename_i e vs h1 h2;split at hx
   .cases hx
   .rename_i hc;simp only[Cz,not_or,Dp,zn,bne_iff_ne,ne_eq,Decidable.not_not,decide_eq_true_eq,Bool.not_eq_true,D5,decide_eq_false_iff_not] at hc;obtain⟨⟨⟨⟨_,hr⟩,hsm⟩,hsz⟩,hz⟩:=hc;obtain⟨zs,hz⟩:=Option.ne_none_iff_exists'.1 (by simpa using hz);have ht:P.underlying t=some (.slice e):=by
     unfold Is at h1;split at h1
     .rename_i h;rw[h];injection h1 with h1;rw[h1]
     .cases h1
    split at hx
    .rename_i ws' es ss h3 h4;split at hx
     .split at hx
      .simp only[Bn,B4] at hx;obtain⟨rfl,rfl,rfl⟩:=hx;exact Qz (own:=true) ho ht h hG hz h2 hr (by simpa using hsm) hsz h3 h4 hk (.inr ⟨rfl,rfl,_,rfl,by split;exact .inr rfl;exact .inl rfl⟩)
      .cases hx
     .simp only[Bn,B4] at hx;obtain⟨rfl,rfl,rfl⟩:=hx;refine Qz (own:=false) (s:=s) ho ht h hG hz h2 hr (by simpa using hsm) hsz h3 h4 (fun x hx=> ?_) (.inl ⟨rfl,rfl,rfl⟩);rcases Dw.1 hx with hx|hx
      .exact hk x (F3 _ hx)
      .simp only[Cl,W.chk.injEq] at hx;subst hx;exact Chk.g1 (G:=G) (fun y hy=>hk y (Ej _ hy)) hG
    .cases hx
  .cases hx
 ·-- load
  rename_i t x ho;obtain⟨h1,rfl⟩:=N9 hx;obtain⟨p,h2,h3⟩:=Bl.1 h1;exact Fr0 ho h hG h2 h3 hk
 ·-- store
  rename_i t x y ho;split at hx
  .cases hx
  .split at hx
   .rename_i p v h1 h2;obtain⟨⟨ws',ε'⟩,h3,he⟩:=Bs.1 hx;simp only[B4] at he;obtain⟨rfl,rfl,rfl⟩:=he;exact Ek6 ho h hG h1 h2 h3 hk
   .cases hx
 ·-- nilCheck
  rename_i x ho;split at hx
  all_goals first
   |(rename_i h1
     simp only[Bn,B4] at hx;obtain⟨rfl,rfl,rfl⟩:=hx
     first
      |exact Kf ho h hG h1 (.inl ⟨_,rfl,hk⟩)
      |exact Kf ho h hG h1 (.inr (.inl ⟨_,_,rfl⟩))
      |exact Kf ho h hG h1 (.inr (.inr (.inl ⟨_,_,rfl⟩)))
      |exact Kf ho h hG h1 (.inr (.inr (.inr (.inl ⟨_,_,_,rfl⟩))))
      |exact Kf ho h hG h1 (.inr (.inr (.inr (.inr ⟨_,_,rfl⟩)))))
   |cases hx
 ·-- binOp
  rename_i op xt x y yt ho;split at hx
  .rename_i ex hnq;simp only[Bn,B4] at hx;obtain⟨rfl,rfl,rfl⟩:=hx;split at hnq
   .rename_i hcond;obtain⟨rfl,hte,hnil⟩:=hcond;obtain⟨e,hte⟩:=Dt.1 hte;exact Fp9 ho hte hnil h hG hnq hk
   .cases hnq
  split at hx
  .rename_i ex ey h1 h2;split at hx
   .rename_i hag;split at hx
    .rename_i ts hts;have hbt:Lr P xt=false->P.underlying xt=some .bool:=by
      intro h0;rw[h0] at hag;simp only[Hb,Dv6] at hag;split at hag
      .assumption
      .cases hag
     split at hx
     .split at hx
      .cases hx
      .rename_i hg;simp only[Bn,B4] at hx;obtain⟨rfl,rfl,rfl⟩:=hx;exact En5 (neg:=false) ho rfl rfl hts (by simpa using hg) hbt h hG h1 h2 hk
     .split at hx
      .cases hx
      .rename_i hg;simp only[Bn,B4] at hx;obtain⟨rfl,rfl,rfl⟩:=hx;exact En5 (neg:=true) ho rfl rfl hts (by simpa using hg) hbt h hG h1 h2 hk
     .cases hx
    .cases hx
   .simp only[Bn,B4] at hx;obtain⟨rfl,rfl,rfl⟩:=hx;exact Hg4 ho h hG h1 h2 hk
  .cases hx
 ·-- unOp
  rename_i op t x ho;obtain⟨ex,h1,he⟩:=Bs.1 hx;simp only[B4] at he;obtain⟨rfl,rfl,rfl⟩:=he;exact Il0 ho h hG h1 hk
 ·-- convert
  rename_i src dst x ho;split at hx
  .rename_i k' k h1 h2;obtain⟨ex,h3,he⟩:=Bs.1 hx;simp only[B4] at he;obtain⟨rfl,rfl,rfl⟩:=he;exact Fr1 ho h1 h2 h hG h3 hk
  .rename_i h1 h2;obtain⟨ex,h3,he⟩:=Bs.1 hx;simp only[B4] at he;obtain⟨rfl,rfl,rfl⟩:=he;exact Ek9 ho h1 h2 h hG h3 hk
  .rename_i e h1 h2;split at hx
   .rename_i hu;split at hx
    .cases hx
    .rename_i hfree;obtain⟨ex,h3,he⟩:=Bs.1 hx;simp only[B4] at he;obtain⟨rfl,rfl,rfl⟩:=he;have hu':P.underlying e=some (.int .u8):=by
      unfold Bq2 at hu;split at hu
      .assumption
      .cases hu
     cases G with
     |some g=>simp at hfree
     |none=>exact Hf7 ho h1 h2 hu' h hG h3 hk
   .cases hx
  .rename_i e h1 h2;split at hx
   .rename_i hu;split at hx
    .rename_i ex ss hb;simp only[Bn,B4] at hx;obtain⟨rfl,rfl,rfl⟩:=hx;obtain⟨sv,h3,h4⟩:=Bl.1 hb;have hu':P.underlying e=some (.int .u8):=by
      unfold Bq2 at hu;split at hu
      .assumption
      .cases hu
     exact Hg5 ho h1 h2 hu' h hG h3 h4 hk
    .cases hx
   .cases hx
  .cases hx
 ·-- makeFunc
  rename_i f first captured ho
  split at hx
  .rename_i hf;obtain⟨cs,h1,he⟩:=Bs.1 hx;simp only[B4] at he;obtain⟨rfl,rfl,rfl⟩:=he;exact uq ho hf h hG h1
  .cases hx
 ·-- fieldAddr
  rename_i t x f ho;split at hx
  .rename_i off ft p h1 h2;split at hx
   .cases hx
   .rename_i hz;split at hx
    .simp only[Bn,B4] at hx;obtain⟨rfl,rfl,rfl⟩:=hx;exact M8 ho h1 hz h hG h2 (.inl ⟨_,_,rfl,rfl⟩)
    .simp only[Bn,B4] at hx;obtain⟨rfl,rfl,rfl⟩:=hx;exact M8 ho h1 hz h hG h2 (.inr (.inl ⟨_,_,rfl,rfl⟩))
    .simp only[Bn,B4] at hx;obtain⟨rfl,rfl,rfl⟩:=hx;exact M8 ho h1 hz h hG h2 (.inr (.inr ⟨_,_,_,rfl,rfl⟩))
    .simp only[Bn,B4] at hx;obtain⟨rfl,rfl,rfl⟩:=hx;exact X3 ho h1 hz h hG h2 hk
    .cases hx
  .cases hx
 ·-- field
  rename_i t x f ho;split at hx
  .rename_i off ft sv h1 h2;obtain⟨h3,rfl⟩:=N9 hx;exact Ek8 ho h1 h hG h2 h3 hk
  .cases hx
 ·-- indexAddr
  rename_i t x i ho;split at hx
  .rename_i e sv ei h1 h2 h3;split at hx
   .split at hx
    .rename_i e' sz y ro hb;split at hx
     .rename_i hsz;simp only[Bn,B4] at hx;obtain⟨rfl,rfl,rfl⟩:=hx;exact dh ho h1 hsz.1 hsz.2 h hG h2 hb h3 hk
     .cases hx
    .cases hx
   .split at hx
    .rename_i e' sz y ro hb;split at hx
     .rename_i hsz;simp only[Bn,B4] at hx;obtain⟨rfl,rfl,rfl⟩:=hx;exact df ho h1 hsz h hG h2 hb h3 hk
     .cases hx
    .cases hx
   .split at hx
    .rename_i y hy;split at hx
     .cases hx
     .rename_i hz;simp only[Bn,B4] at hx;obtain⟨rfl,rfl,rfl⟩:=hx;exact lz ho h1 hz h hG h2 hy h3 hk
    .cases hx
  .rename_i n e sv kk k h1 h2 h3;split at hx
   .rename_i hb;split at hx
    .simp only[Bn,B4] at hx;obtain⟨rfl,rfl,rfl⟩:=hx;exact Mf ho h1 h hG h2 h3 hb (.inl ⟨_,_,rfl,rfl⟩)
    .simp only[Bn,B4] at hx;obtain⟨rfl,rfl,rfl⟩:=hx;exact Mf ho h1 h hG h2 h3 hb (.inr ⟨_,_,rfl,rfl⟩)
    .cases hx
   .cases hx
  .cases hx
 ·-- index
  rename_i t x i ho;split at hx
  .rename_i ex ei h1 h2 h3;simp only[Bn,B4] at hx;obtain⟨rfl,rfl,rfl⟩:=hx;exact lv ho h1 h hG (by simp only[G8,h2,B0,SV.asE]) h3 hk
  .rename_i n e sv kk k h1 h2 h3;split at hx
   .rename_i hb;obtain⟨h4,rfl⟩:=N9 hx;exact lw ho h1 h hG h2 h3 hb h4 hk
   .cases hx
  .cases hx
 ·-- slice
  rename_i t x lo hi mx ho;split at hx
  .rename_i s0 h1;split at h1
   .exact uk ho h hG h1 hx hk
   .cases h1
  .rename_i n y h1;split at h1
   .exact S3 ho h hG h1 (.inl rfl) hx hk
   .cases h1
  .rename_i n h1;split at h1
   .exact S3 ho h hG h1 (.inr ⟨rfl,rfl⟩) hx hk
   .cases h1
  .obtain⟨sv,h1,h2⟩:=Bl.1 hx;exact Ek7 ho h hG h1 h2 hk
 ·-- extract
  rename_i x i ho;split at hx
  .rename_i xs h1;obtain⟨v,h2,he⟩:=Bs.1 hx;simp only[B4] at he;obtain⟨rfl,rfl,rfl⟩:=he;exact Bj2 ho h hG h1 h2
  .cases hx
 ·-- makeSlice
  rename_i t l c ho;split at hx
  .cases hx
  .split at hx
   .rename_i e n n' h1 h2 h3;split at hx
    .cases hx
    .rename_i hc;simp only[Dp,zn] at hc;split at hx
     .rename_i zs hz;split at hx
      .rename_i z hz2;split at hx
       .rename_i h0;simp only[Bn,B4] at hx;obtain⟨rfl,rfl,rfl⟩:=hx;exact dc ho h1 h hG h2 h3 h0 hc hz hk
       .split at hx
        .cases hx
        .rename_i hs;simp only[Dp,zn] at hs;simp only[Bn,B4] at hx;obtain⟨rfl,rfl,rfl⟩:=hx;exact lq ho h1 h hG h2 h3 hs hc hz hz2 hk
      .cases hx
     .cases hx
   .cases hx
 ·-- call
  rename_i c ho;split at hx
  .rename_i hc;split at hx
   .rename_i x ha;split at hx
    .rename_i t ht;obtain⟨h1,rfl⟩:=N9 hx;obtain⟨sv,h2,h3⟩:=Bl.1 h1;exact Hg1 ho hc ha ht h hG h2 h3 hk
    .cases hx
   .cases hx
  .rename_i hc;split at hx
   .rename_i x ha;split at hx
    .rename_i t ht;split at hx
     .rename_i n h1;obtain⟨h2,rfl⟩:=N9 hx;exact En6 ho hc ha ht h hG h1 (.inl ⟨_,rfl⟩) h2 hk
     .rename_i n y h1;obtain⟨h2,rfl⟩:=N9 hx;exact En6 ho hc ha ht h hG h1 (.inr ⟨_,_,rfl⟩) h2 hk
     .cases hx
    .cases hx
   .cases hx
  .rename_i hc;split at hx
   .cases hx
   .split at hx
    .rename_i d x t t' ha hty;split at hx
     .rename_i ht;subst ht;split at hx
      .rename_i sd sx h1 h2;exact Cm3 ho hc ha hty h hG h1 h2 hx hk
      .cases hx
     .split at hx
      .rename_i sd n e h1 h2 h3;split at hx
       .rename_i hu;split at hx
        .rename_i zs hz;split at hx
         .rename_i ze hze;exact Bj3 ho hc ha hty h hG h1 h2 h3 hu hz hze hx hk
         .cases hx
        .cases hx
       .cases hx
      .cases hx
    .cases hx
  .rename_i hc;split at hx
   .rename_i x y ha;split at hx
    .rename_i ex ey h1 h2;simp only[Bn,B4] at hx;obtain⟨rfl,rfl,rfl⟩:=hx;exact Hf9 ho hc ha h hG h1 h2 hk
    .cases hx
   .cases hx
  .rename_i hc;split at hx
   .rename_i x y ha;split at hx
    .rename_i ex ey h1 h2;simp only[Bn,B4] at hx;obtain⟨rfl,rfl,rfl⟩:=hx;exact Hg0 ho hc ha h hG h1 h2 hk
    .cases hx
   .cases hx
  .rename_i hc;split at hx
   .rename_i x t ha hty;obtain⟨sv,h1,h2⟩:=Bl.1 hx;exact Eq0 ho hc ha hty h hG h1 h2 hk
   .cases hx
  ·-- a function that is known
   rename_i f hc;split at hx
   .rename_i T k hbl;exact Hg3 hC ho hc hbl h hG hx hk
   split at hx
   .rename_i e rr hmu;exact Hf8 hC ho hc hmu h hG hx hw hη hn
   split at hx
   .cases hx
   split at hx
   .rename_i ar has;split at hx
    .rename_i ws' r1 ε1 hcall;have tgt:∀(r':SV) (ε':Eff),Gc3 P sig U.m U.n J o.type s f ((N8 P o.type).all (Fl7 P)) r1 ε1 r' ε'->Fz fn η1 ws'=some η2->Fc P o a w (Ix w0 Oe J U a.tmps ε' r'):=by
      intro r' ε' hmode hw;have hflat:∀flat es m,ws'=[.call G flat f es m]->flat=(N8 P o.type).all (Fl7 P):=by
       intro flat es m hws;unfold ah at hcall;split at hcall
       .cases hcall
       .dsimp only at hcall;split at hcall
        .cases hcall
        .split at hcall
         .cases hcall
         .split at hcall
          .cases hcall
          .simp only[Bn,B4] at hcall;rw[<-hcall.1] at hws;simp only[List.cons.injEq,W.call.injEq,and_true] at hws;exact hws.2.1.symm
      refine xn hC (s:=s) ho hc h hG has hcall (fun flat es m hws hm=> ?_) hw hη hn;simp only[W.ev] at hm;have hm2:=Z7 (I:=I) (J:=J) hm hη (fun hh=>by obtain⟨vs,_,hh⟩:=Bl.1 hh;obtain⟨rs,_,_,_,h4⟩:=J6 hh;exact⟨rs,h4⟩) hG
      obtain⟨vs,hvs,hres⟩:=Bl.1 hm2;have hfl:=hflat _ _ _ hws;subst hfl;exact⟨vs,f,[],hvs,by simpa using hres,hmode,fun O1 _ _=>Tgt.static _ f⟩
     split at hx
     .split at hx
      .rename_i e hrk;split at hx
       .rename_i hcond;split at hx
        .simp only[Bn,B4] at hx;obtain⟨rfl,rfl,rfl⟩:=hx;rw[Hm] at hw;obtain⟨η3,hw1,hw2⟩:=Bl.1 hw;have h32:η3=η2:=by simp only[Fz,W.ev,Bl,Bs,Bn] at hw2;obtain⟨_,⟨_,_,rfl⟩,rfl⟩:=hw2;rfl
         subst h32;exact tgt _ _ (.inr (.inr (.inr ⟨e,hrk,rfl,rfl,hk _ (Ej _ (.head _))⟩))) hw1
        .simp only[Bn,B4] at hx;obtain⟨rfl,rfl,rfl⟩:=hx;exact tgt _ _ (.inr (.inl ⟨e,hrk,rfl,rfl⟩)) hw
       .cases hx
      .cases hx
      .rename_i e hrk;split at hx
       .rename_i t0 t1 hrt;split at hx
        .rename_i hcond;simp only[Bn,B4] at hx;obtain⟨rfl,rfl,rfl⟩:=hx;exact tgt _ _ (.inr (.inr (.inl ⟨e,hrk,rfl,rfl⟩))) hw
        .cases hx
       .cases hx
      .cases hx
     .simp only[Bn,B4] at hx;obtain⟨rfl,rfl,rfl⟩:=hx;exact tgt _ _ (.inl ⟨rfl,rfl⟩) hw
    .cases hx
   .cases hx
  ·-- a function value
   rename_i t hc;have cloEv:∀{x:E} {flat:Bool} {es:List E} {m:Nat},(W.clo G flat x es m).ev fn η1=some η2->∃vs f caps,E.evs η1 es=some vs∧x.ev J=some (.f f caps)∧results flat m η1 (fn f vs.length (vs++caps))=some η2:=by
    intro x flat es m hm;simp only[W.ev] at hm;have hm2:=Z7 (I:=I) (J:=J) hm hη (fun hh=>by
     obtain⟨q,_,hh⟩:=Bl.1 hh;obtain⟨vs,_,hh⟩:=Bl.1 hh;split at hh
     .obtain⟨rs,_,_,_,h4⟩:=J6 hh;exact⟨rs,h4⟩
     .cases hh) hG
    obtain⟨q,hq,hh⟩:=Bl.1 hm2;obtain⟨vs,hvs,hh⟩:=Bl.1 hh;cases q with
    |f f caps=>
     obtain⟨rs,_,_,_,h4⟩:=J6 hh;refine⟨vs,f,caps,hvs,?_,hh⟩;rw[hη,h4,Cy];exact E.ev_mono _ _ _ _ hq
    |_=>simp at hh
   split at hx
   .rename_i x ar h1 has;have hr:=F9 (ds:=a.defers) (C:=⟨J,C5 w O,K,hv,U.m⟩) hG rfl h1 h.tmps;simp only[Cw] at hr;obtain⟨p,hp,hpr⟩:=hr;refine xn hC (s:=s) ho hc h hG has hx (fun flat es m _ hm=> ?_) hw hη hn;obtain⟨vs,f,caps,k1,k2,k3⟩:=cloEv hm;have hp':x.ev J=some p:=hp;rw[k2] at hp';injection hp' with hp';subst hp';exact⟨vs,f,caps,k1,k3,.inl ⟨rfl,rfl⟩,fun O1 hM _=>Tgt.of_rep (hpr.mono hM)⟩
   .rename_i f0 cs ar h1 has;split at hx
    .rename_i x ss hto;have hr:=F9 (ds:=a.defers) (C:=⟨J,C5 w O,K,hv,U.m⟩) hG rfl h1 h.tmps;refine xn hC (s:=s) ho hc h hG has hx (fun flat es m _ hm=> ?_) hw hη hn;obtain⟨vs,f,caps,k1,k2,k3⟩:=cloEv hm;refine⟨vs,f,caps,k1,k3,.inl ⟨rfl,rfl⟩,fun O1 hM hop=> ?_⟩;obtain⟨p,hp,hpr⟩:=Vj h hM 20 _ _ x ss hto hr hop;rw[k2] at hp;injection hp with hp;subst hp;exact Tgt.of_rep hpr
    .cases hx
   .cases hx
  .cases hx
 .cases hx
end
def Blk.same_eq:∀{x y:Blk},x.same y=true->x=y:=by
 intro x y h;cases x<;>cases y<;>simp only[Blk.same,Bt,beq_iff_eq,B5] at h
 .rw[h.1,SV.sames_eq _ _ h.2]
 .rw[h.1.1.1,h.1.1.2,of_decide_eq_true h.1.2,E.same_eq _ _ h.2]
 .rw[h.1,E.same_eq _ _ h.2]
def Ak7:∀{m m':List (Nat×Blk)},tg m m'=true->m=m'
 |[],[],_=>rfl
 |[],_::_,h=>by simp[tg] at h
 |_::_,[],h=>by simp[tg] at h
 |(s,b)::m,(s',b')::m',h=>by simp only[tg,Bt,beq_iff_eq] at h;rw[h.1.1,Blk.same_eq h.1.2,Ak7 h.2]
def W.ev_len {fn:Fns} {J η':List PV}:∀{x:W},x.ev fn J=some η'->η'.length=J.length+x.cnt:=by
 have res:∀{flat:Bool} {m:Nat} {r:Option (List PV)},results flat m J r=some η'->η'.length=J.length+m:=by intro flat m r h;obtain⟨rs,_,h2,_,rfl⟩:=J6 h;rw[Bp,h2]
 have gd:∀{m:Nat} {g:Option E} {r:Option (List PV)},Gb J m g r=some η'->(r=some η'->η'.length=J.length+m)->η'.length=J.length+m:=by
  intro m g r h hr;unfold Gb at h;split at h
  .exact hr h
  .simp only[Bl] at h;obtain⟨v,_,h⟩:=h;split at h
   .exact hr h
   .injection h with h;rw[<-h];simp
   .cases h
 intro x h;cases x with
 |chk x=>
  simp only[W.ev,Bs] at h;obtain⟨_,_,rfl⟩:=h;simp[W.cnt]
 |call g flat f ar m=>
  simp only[W.ev] at h;refine gd h fun h=> ?_;simp only[Bl] at h;obtain⟨vs,_,h⟩:=h;exact res h
 |clo g flat c ar m=>
  simp only[W.ev] at h;refine gd h fun h=> ?_;simp only[Bl] at h;obtain⟨q,_,vs,_,h⟩:=h;split at h
  .exact res h
  .cases h
 |mcall f ar=>
  simp only[W.ev,Bl] at h;obtain⟨vs,_,h⟩:=h;exact res h
def aw {fn:Fns}:∀{ws:List W} {J η':List PV},Fz fn J ws=some η'->η'.length=J.length+wsN ws
 |[],J,η',h=>by simp only[Fz,Bn] at h;simp[h,wsN]
 |x::r,J,η',h=>by simp only[Fz,Bl] at h;obtain⟨η1,h1,h2⟩:=h;rw[aw h2,W.ev_len h1];simp only[wsN];omega
def oy {J:List PV}:∀{g:E} {p:PV},g.isB=true->g.ev J=some p->∃b,p= .b b
 | .bin op x y,p,h,he=>by
   simp only[E.ev,Bl] at he;obtain⟨a,_,b,_,he⟩:=he;cases op<;>simp only[E.isB,B5] at h<;>(
    cases a<;>cases b<;>simp only[X.bin,Gd,bj] at he<;>first
     |(cases he;done)
     |(split at he<;>first|(injection he with he;exact⟨_,he.symm⟩)|(cases he;done))
     |(injection he with he;exact⟨_,he.symm⟩))
 | .un op x,p,h,he=>by
   simp only[E.ev,Bl] at he;obtain⟨a,_,he⟩:=he;cases op<;>simp only[E.isB,B5] at h;cases a<;>simp only[X.un] at he<;>first
    |(cases he;done)
    |(injection he with he;exact⟨_,he.symm⟩)
 | .eqs n g ts x y,p,h,he=>by
   simp only[E.ev,Bl] at he;obtain⟨a,_,b,_,he⟩:=he;unfold Nf at he;split at he
   .obtain⟨r,_,he⟩:=Bs.1 he;exact⟨_,he.symm⟩
   .split at he
    .obtain⟨r,_,he⟩:=Bs.1 he;exact⟨_,he.symm⟩
    .cases he
   .cases he
 | .c (.b b),p,h,he=>by simp only[E.ev,Bn] at he;exact⟨b,he.symm⟩
 | .ite g x y,p,h,he=>by
   simp only[E.isB,Bt] at h;simp only[E.ev,Bl] at he;obtain⟨a,_,he⟩:=he;split at he
   .exact oy h.1 he
   .exact oy h.2 he
   .cases he
 | .c .u,p,h,_| .c (.i ..),p,h,_| .c (.s ..),p,h,_| .c (.a ..),p,h,_| .c (.l ..),p,h,_| .c (.f ..),p,h,_| .c (.m ..),p,h,_
 | .v ..,p,h,_| .proj ..,p,h,_| .sub ..,p,h,_| .agg ..,p,h,_| .fit ..,p,h,_| .scal ..,p,h,_| .idx ..,p,h,_| .len ..,p,h,_| .slen ..,p,h,_| .sidx ..,p,h,_| .ssl ..,p,h,_| .lsl ..,p,h,_| .app ..,p,h,_
 | .lit ..,p,h,_| .rep ..,p,h,_| .set ..,p,h,_| .conv ..,p,h,_| .b2s ..,p,h,_| .s2b ..,p,h,_| .clo ..,p,h,_| .mn ..,p,h,_| .mx ..,p,h,_| .mget ..,p,h,_| .mset ..,p,h,_| .der ..,p,h,_| .mkp ..,p,h,_| .flt ..,p,h,_| .c (.pt ..),p,h,_=>by simp[E.isB] at h
section
variable {P:Program} {sig:Nat->Option Nat} {fn:Fns} {w0:Fr} {Oe:Nat->Option Nat} {J:List PV} {U:St} {a:Act} {tm:Array Value} {w:World} {K:Nat->Nat} {hv:Nat->Value} {O:Nat->Option Nat} {G:Option E} {o:Oper} {ws:List W} {ops:Array Oper}
def Dv9 {j:Nat} {want:Bool} {g:E} {tm:Array Value} {C:Cx} (hg:S9 U ops j want=some g) (h:Cd C U.t tm.toList) {b:Bool} (hb:g.ev C.J=some (.b b)):(yielded ops tm j==some want)=b:=by
 unfold S9 at hg;split at hg
 .rename_i g0 hd;injection hg with hg;subst hg;obtain⟨t,ht,hs⟩:=Bl.1 hd;obtain⟨v,hv1,hv2⟩:=h.get t _ hs;simp only[Cw] at hv2;obtain⟨p,hp,hpr⟩:=hv2;have hy:((ops[j]?).bind (·.dst)).bind (tm[·]?)=some v:=by rw[ht];simpa using hv1
  unfold yielded;rw[hy];cases want with
  |true=>
   simp only[if_true] at hb;rw[hb] at hp;injection hp with hp;subst hp;have:=hpr.bool;subst this;cases b<;>rfl
  |false=>
   simp only[B5,if_false,E.ev,hp,B0] at hb;cases p<;>simp[X.un] at hb;have:=hpr.bool;subst this;subst hb;rename_i x;cases x<;>first|rfl|(cases b<;>rfl)
 .rename_i g0 gg hd;injection hg with hg;subst hg;obtain⟨t,ht,hs⟩:=Bl.1 hd;obtain⟨v,hv1,hv2⟩:=h.get t _ hs;simp only[Cw] at hv2;obtain⟨c,hc,h1,h2⟩:=hv2;have hy:((ops[j]?).bind (·.dst)).bind (tm[·]?)=some v:=by rw[ht];simpa using hv1
  unfold yielded;rw[hy];cases c with
  |false=>
   have:=h2 rfl;subst this;simp only[E.ev,hc,B0,Bn,PV.b.injEq] at hb;subst hb;cases want<;>rfl
  |true=>
   obtain⟨p,hp,hpr⟩:=h1 rfl;simp only[E.ev,hc,B0] at hb;cases want with
   |true=>
    simp only[if_true] at hb;rw[hb] at hp;injection hp with hp;subst hp;have:=hpr.bool;subst this;cases b<;>rfl
   |false=>
    simp only[B5,if_false,E.ev,hp,B0] at hb;cases p<;>simp[X.un] at hb;have:=hpr.bool;subst this;subst hb;rename_i x;cases x<;>first|rfl|(cases b<;>rfl)
 .cases hg
def vp {j:Nat} {want:Bool} {g:E} {tm:Array Value} {C:Cx} (hg:S9 U ops j want=some g) (h:Cd C U.t tm.toList) (hB:g.isB=true):∃b,g.ev C.J=some (.b b):=by
 have not_ok:∀(x:E) p,x.isB=true->x.ev C.J=some p->∃b,(E.un .not x).ev C.J=some (.b b):=by intro x p hx hp;obtain⟨b,rfl⟩:=oy hx hp;exact⟨!b,by simp only[E.ev,hp,B0,X.un]⟩
 unfold S9 at hg;split at hg
 .rename_i g0 hd;injection hg with hg;subst hg;obtain⟨t,ht,hs⟩:=Bl.1 hd;obtain⟨v,hv1,hv2⟩:=h.get t _ hs;simp only[Cw] at hv2;obtain⟨p,hp,hpr⟩:=hv2;cases want with
  |true=>
   simp only[if_true] at hB ⊢;obtain⟨b,rfl⟩:=oy hB hp;exact⟨b,hp⟩
  |false=>
   simp only[B5,if_false,E.isB] at hB ⊢;exact not_ok _ p hB hp
 .rename_i g0 gg hd;injection hg with hg;subst hg;obtain⟨t,ht,hs⟩:=Bl.1 hd;obtain⟨v,hv1,hv2⟩:=h.get t _ hs;simp only[Cw] at hv2;obtain⟨c,hc,h1,h2⟩:=hv2;simp only[E.isB,Mc] at hB;cases c with
  |false=>exact⟨false,by simp only[E.ev,hc,B0]⟩
  |true=>
   obtain⟨p,hp,hpr⟩:=h1 rfl;cases want with
   |true=>
    simp only[if_true] at hB ⊢;obtain⟨b,rfl⟩:=oy hB hp;exact⟨b,by simp only[E.ev,hc,hp,B0]⟩
   |false=>
    simp only[B5,if_false,E.isB] at hB ⊢;obtain⟨b,hb⟩:=not_ok _ p hB hp;exact⟨b,by rw[E.ev,hc];exact hb⟩
 .cases hg
def Us {own:List Nat} {s:Nat} {sv:SV} {F:Eff} (hx:P3 P sig own ops s o U=some (ws,sv,F)) {η1 η2:List PV} (hw:Fz fn η1 ws=some η2) (hn:η1.length=U.n):η2.length=F.n:=by
 have:=aw hw;unfold P3 at hx;split at hx
 .split at hx
  .split at hx
   .rename_i hc;simp only[Bn,B4] at hx;obtain⟨rfl,rfl,rfl⟩:=hx;omega
   .cases hx
  .cases hx
 .split at hx
  .cases hx
  .split at hx
   .rename_i g _;split at hx
    .rename_i ws' sv' ε' _;split at hx
     .rename_i hc;simp only[Bn,B4] at hx;obtain⟨rfl,rfl,rfl⟩:=hx;have:wsN ((if g.isB then [] else [.chk (.ite g (.c .u) (.c .u))])++ws')=wsN ws':=by split<;>simp[wsN,W.cnt]
      omega
     .cases hx
    .cases hx
   .cases hx
def z5 (hC:Contract P sig fn) {own:List Nat} {s:Nat} {sv:SV} {F:Eff} (h:Rel w0 Oe J U a.tmps w K hv O) (hx:P3 P sig own ops s o U=some (ws,sv,F)) {η1 η2 I:List PV} (hw:Fz fn η1 ws=some η2) (hη:J=η2++I) (hn:η1.length=U.n):
  (Region.wanted o (yielded ops a.tmps)=true∧Fc P o a w (Ix w0 Oe J U a.tmps F sv))∨(Region.wanted o (yielded ops a.tmps)=false∧Ix w0 Oe J U a.tmps F sv undef w):=by
 unfold P3 at hx;split at hx
 .rename_i hg;split at hx
  .rename_i ws' sv' ε' hx';split at hx
   .simp only[Bn,B4] at hx;obtain⟨rfl,rfl,rfl⟩:=hx;exact .inl ⟨by simp only[Region.wanted,hg],Eh6 hC h (fun g hg=>by cases hg) hx' hw hη hn⟩
   .cases hx
  .cases hx
 .rename_i j want hg;split at hx
  .cases hx
  .split at hx
   .rename_i g hgE;split at hx
    .rename_i ws' sv' ε' hx';split at hx
     .rename_i hc;obtain⟨_,hm,hkl⟩:=hc;simp only[Bn,B4] at hx;obtain⟨rfl,rfl,rfl⟩:=hx;have hm':=Ak7 hm;have hkl':ε'.kl=none:=by simpa using hkl
      rw[Hm] at hw;obtain⟨η1',hw1,hw2⟩:=Bl.1 hw;have hsame:η1'=η1:=by
       split at hw1
       .simp only[Fz,Bn] at hw1;exact hw1.symm
       .simp only[Fz,W.ev,Bl,Bs] at hw1;obtain⟨_,⟨_,_,rfl⟩,h2⟩:=hw1;injection h2 with h2;exact h2.symm
      subst hsame;obtain⟨ζ1,hζ1⟩:=J8 hw2;have hgb:∃b,g.ev J=some (.b b):=by
       by_cases hB:g.isB=true
       .exact vp (C:=⟨J,C5 w O,K,hv,U.m⟩) hgE h.tmps hB
       .rw[if_neg hB] at hw1;simp only[Fz,W.ev,Bl,Bs] at hw1;obtain⟨_,⟨q,hq,_⟩,_⟩:=hw1;simp only[E.ev,Bl] at hq;obtain⟨p,hp,hq⟩:=hq;split at hq
        .exact⟨true,by rw[hη,hζ1,Cy];exact E.ev_mono _ _ _ _ hp⟩
        .exact⟨false,by rw[hη,hζ1,Cy];exact E.ev_mono _ _ _ _ hp⟩
        .cases hq
      obtain⟨b,hb⟩:=hgb;have hwant:Region.wanted o (yielded ops a.tmps)=b:=by simp only[Region.wanted,hg];exact Dv9 (C:=⟨J,C5 w O,K,hv,U.m⟩) hgE h.tmps hb
      cases b with
      |true=>
       refine .inl ⟨hwant,(Eh6 hC h (fun g' hg'=>by injection hg' with hg';subst hg';exact hb) hx' hw2 hη hn).mono fun v w' hp=> ?_⟩;obtain⟨β',hv',O',r1,r2⟩:=hp;refine⟨β',hv',O',r1,?_⟩;simp only[Cw];exact⟨true,hb,(fun _=>r2),fun h=>by cases h⟩
      |false=>
       refine .inr ⟨hwant,K,hv,O,?_,?_⟩
       .have:U.eff ε'=U.eff ⟨U.m,ε'.n,none⟩:=by unfold St.eff;rw[hm',hkl']
        rw[this];exact h.setN _
       .simp only[Cw];exact⟨false,hb,(fun h=>by cases h),fun _=>trivial⟩
     .cases hx
    .cases hx
   .cases hx
def Zx (a:Act) (d:Option Tmp) (v:Value):(a.put d v).defers=a.defers:=by cases d<;>rfl
def ir {own:List Nat} {s:Nat} {sv:SV} {F:Eff} (hx:P3 P sig own ops s o U=some (ws,sv,F)):(o.dst==some 0 && Gc6 sv)=false:=by
 unfold P3 at hx;split at hx
 .split at hx
  .split at hx
   .rename_i hc;simp only[Bn,B4] at hx;obtain⟨rfl,rfl,rfl⟩:=hx;exact hc.2
   .cases hx
  .cases hx
 .split at hx
  .cases hx
  .split at hx
   .split at hx
    .split at hx
     .simp only[Bn,B4] at hx;obtain⟨rfl,rfl,rfl⟩:=hx;simp[Gc6]
     .cases hx
    .cases hx
   .cases hx
def Ix.rels {F:Eff} {sv:SV} {v:Value} {w':World} {d:Option Tmp} (h:Ix w0 Oe J U a.tmps F sv v w') (hd:(d==some 0 && Gc6 sv)=false):gn w0 Oe J ((U.eff F).set d sv) (a.put d v).tmps w':=by obtain⟨K,hv,O,h1,h2⟩:=h;exact⟨K,hv,O,h1.setT d (ds:=a.defers) h2 hd⟩
def j7 {Q:Exit->Act->World->Prop} {Bg:Act->World->Prop} {i:Nat} {R:Value->World->Prop} (hi:ops[i]? =some o)
  (h:(Region.wanted o (yielded ops a.tmps)=true∧Fc P o a w R)∨(Region.wanted o (yielded ops a.tmps)=false∧R undef w)) (hK:∀v w',R v w'->Bg (a.put o.dst v) w'):wpOp P ops Q i Bg a w:=by
 unfold wpOp;simp only[hi];rcases h with⟨h1,h2⟩|⟨h1,h2⟩
 .rw[if_pos h1];exact .inl (h2.wp hK)
 .rw[h1];simp only[B5,if_false];exact hK _ _ h2
def zt {own:List Nat} {rid:Nat}:∀(l:List Oper) (i:Nat) (U:St) (η1 η2:List PV) (ws:List W) (σ':St),Dm2 P sig own ops rid l i U=some (ws,σ')->Fz fn η1 ws=some η2->η1.length=U.n->η2.length=σ'.n
 |[],i,U,η1,η2,ws,σ',hx,hw,hn=>by simp only[Dm2,Bn,B4] at hx;obtain⟨rfl,rfl⟩:=hx;simp only[Fz,Bn] at hw;subst hw;exact hn
 |o::l,i,U,η1,η2,ws,σ',hx,hw,hn=>by
  simp only[Dm2] at hx;split at hx
  .rename_i ws1 sv F hc;obtain⟨⟨ws2,σ2⟩,hrec,he⟩:=Bs.1 hx;simp only[B4] at he;obtain⟨rfl,rfl⟩:=he;rw[Hm] at hw;obtain⟨η3,hw1,hw2⟩:=Bl.1 hw;have hset:((U.eff F).set o.dst sv).n=F.n:=by cases o.dst<;>rfl
   exact zt l _ _ _ _ _ _ hrec hw2 (by rw[Us hc hw1 hn,hset])
  .cases hx
def Bb4 (hC:Contract P sig fn) {own:List Nat} {rid:Nat} {Q:Exit->Act->World->Prop}:∀(l:List Oper) (i:Nat) (U:St) (a:Act) (w:World) (η1 η2 I:List PV) (ws:List W) (σ':St),(∀k o,l[k]? =some o->ops[i+k]? =some o)->gn w0 Oe J U a.tmps w->
  Dm2 P sig own ops rid l i U=some (ws,σ')->Fz fn η1 ws=some η2->J=η2++I->η1.length=U.n->(∀a' w',a'.defers=a.defers->gn w0 Oe J σ' a'.tmps w'->Q .normal a' w')->
  wpOps P ops Q (List.range' i l.length) a w
 |[],i,U,a,w,η1,η2,I,ws,σ',_,h,hx,hw,hη,hn,hQ=>by simp only[Dm2,Bn,B4] at hx;obtain⟨rfl,rfl⟩:=hx;simp only[Fz,Bn] at hw;subst hw;exact hQ a w rfl h
 |o::l,i,U,a,w,η1,η2,I,ws,σ',hops,h,hx,hw,hη,hn,hQ=>by
  simp only[Dm2] at hx;split at hx
  .rename_i ws1 sv F hc;obtain⟨⟨ws2,σ2⟩,hrec,he⟩:=Bs.1 hx;simp only[B4] at he;obtain⟨rfl,rfl⟩:=he;rw[Hm] at hw;obtain⟨η3,hw1,hw2⟩:=Bl.1 hw;obtain⟨ζ2,hζ2⟩:=J8 hw2;obtain⟨K,hv,O,hrel⟩:=h;have hlen:=Us hc hw1 hn;have hstep:=z5 hC hrel hc hw1 (I:=ζ2++I) (by rw[hη,hζ2,Cy]) hn;have hi:ops[i]? =some o:=by simpa using hops 0 o rfl
   have hset:((U.eff F).set o.dst sv).n=F.n:=by cases o.dst<;>rfl
   have ih:∀v w',Ix w0 Oe J U a.tmps F sv v w'->wpOps P ops Q (List.range' (i+1) l.length) (a.put o.dst v) w':=fun v w' hp=>
    Bb4 hC l (i+1) _ _ _ η3 η2 I ws2 σ2 (fun k o' hk=>by have:=hops (k+1) o' (by simpa using hk);rwa[show i+(k+1)=i+1+k by omega] at this) (hp.rels (ir hc)) hrec hw2 hη (by rw[hlen,hset]) (fun a' w'' hd hr=>hQ a' w'' (by rw[hd,Zx]) hr)
   rw[Cq,List.range'_succ,wpOps_cons];exact j7 hi hstep ih
  .cases hx
end
section
variable {P:Program} {sig:Nat->Option Nat} {t t':List SV} {m:List (Nat×Blk)} {n:Nat} {G:Option E} {o:Oper}
def Fw8 {l:List Operand} (h:∀x,x∈l->∀G ty,opd P ⟨t',m,n⟩ G ty x=opd P ⟨t,m,n⟩ G ty x):∀ts:List TypeId,args P ⟨t',m,n⟩ G l ts=args P ⟨t,m,n⟩ G l ts:=by
 induction l with
 |nil=>intro ts;rfl
 |cons x l ih=>
  intro ts;simp only[args];rw[h x (.head _),ih (fun y hy=>h y (.tail _ hy))]
def En4 {tf:Nat->TypeId} {l:List (Nat×Operand)} (h:∀x,x∈l.map (·.2)->∀G ty,opd P ⟨t',m,n⟩ G ty x=opd P ⟨t,m,n⟩ G ty x):Cm1 P ⟨t',m,n⟩ G tf l=Cm1 P ⟨t,m,n⟩ G tf l:=by
 induction l with
 |nil=>rfl
 |cons p l ih=>
  obtain⟨i,x⟩:=p;simp only[Cm1];rw[h x (by simp),ih (fun y hy=>h y (by simp at hy ⊢;exact .inr hy))]
def Dd0 {x:Option Operand} {d:E} (h:∀y,x=some y->∀G ty,opd P ⟨t',m,n⟩ G ty y=opd P ⟨t,m,n⟩ G ty y):Lj P ⟨t',m,n⟩ G x d=Lj P ⟨t,m,n⟩ G x d:=by
 cases x with
 |none=>rfl
 |some y=>simp only[Lj,G8];rw[h y rfl]
def Cv1 {ty:TypeId} {x:SV} {lo hi mx:Option Operand} (h1:∀y,lo=some y->∀G ty,opd P ⟨t',m,n⟩ G ty y=opd P ⟨t,m,n⟩ G ty y) (h2:∀y,hi=some y->∀G ty,opd P ⟨t',m,n⟩ G ty y=opd P ⟨t,m,n⟩ G ty y) (h3:∀y,mx=some y->∀G ty,opd P ⟨t',m,n⟩ G ty y=opd P ⟨t,m,n⟩ G ty y):
  M3 P ⟨t',m,n⟩ G ty x lo hi mx=M3 P ⟨t,m,n⟩ G ty x lo hi mx:=by
 have e3:∀y,mx=some y->G8 P ⟨t',m,n⟩ G 0 y=G8 P ⟨t,m,n⟩ G 0 y:=fun y hy=>by simp only[G8];rw[h3 y hy]
 unfold M3;simp only[Dd0 h1,Dd0 h2];cases mx with
 |none=>rfl
 |some y=>simp only[e3 y rfl];rfl
def eg {ty:TypeId} {k:Nat} {y:E} {lo hi mx:Option Operand} (h2:∀y,hi=some y->∀G ty,opd P ⟨t',m,n⟩ G ty y=opd P ⟨t,m,n⟩ G ty y):Gc P ⟨t',m,n⟩ G ty k y lo hi mx=Gc P ⟨t,m,n⟩ G ty k y lo hi mx:=by
 cases hi with
 |none=>unfold Gc;cases lo<;>cases mx<;>cases Is P ty<;>rfl
 |some z=>
  have e:G8 P ⟨t',m,n⟩ G 0 z=G8 P ⟨t,m,n⟩ G 0 z:=by simp only[G8];rw[h2 z rfl]
  unfold Gc;cases lo<;>cases mx<;>cases Is P ty<;>simp only[e]<;>rfl
def Gd4 {own:List Nat} {s:Nat} (h:∀x,x∈o.op.operands->∀G ty,opd P ⟨t',m,n⟩ G ty x=opd P ⟨t,m,n⟩ G ty x):xop P sig own ⟨t',m,n⟩ G s o=xop P sig own ⟨t,m,n⟩ G s o:=by
 have hE:∀x,x∈o.op.operands->∀G ty,G8 P ⟨t',m,n⟩ G ty x=G8 P ⟨t,m,n⟩ G ty x:=fun x hx G ty=>by simp only[G8];rw[h x hx]
 obtain⟨dst,op,type,pos,after,guard⟩:=o;simp only at h hE;cases op<;>simp only[Op.operands] at h hE<;>unfold xop<;>simp only
 case move x=>rw[h x (by simp)];rfl
 case assign x=>rw[h x (by simp)];rfl
 case pick c x y=>rw[hE c (by simp)];simp only[hE x (by simp),hE y (by simp)];try rfl
 case box ty x=>rw[h x (by simp)];try rfl
 case build ty ps=>rw[En4 (fun x hx=>h x (by simpa using hx))];try rfl
 case buildSlice ty k ps=>rw[En4 (fun x hx=>h x (by simpa using hx))];try rfl
 case load ty x=>rw[h x (by simp)];rfl
 case store ty x y=>rw[h x (by simp),h y (by simp)];rfl
 case nilCheck x=>rw[h x (by simp)];rfl
 case binOp op xt x y yt=>rw[hE x (by simp),hE y (by simp),h x (by simp)];rfl
 case unOp op ty x=>rw[hE x (by simp)];rfl
 case convert src dst x=>rw[hE x (by simp),h x (by simp)];rfl
 case makeFunc f first captured=>
  cases f<;>simp only;rw[Fw8 (fun x hx=>h x (by simp at hx ⊢;exact .inr hx))];rfl
 case makeSlice ty x y=>rw[hE x (by simp),hE y (by simp)];try rfl
 case slice ty x lo hi mx=>
  have el:lo.map (G8 P ⟨t',m,n⟩ G 0)=lo.map (G8 P ⟨t,m,n⟩ G 0):=by
   cases lo with
   |none=>rfl
   |some y=>simp only[Cc];rw[hE y (by simp)]
  have eh:hi.map (G8 P ⟨t',m,n⟩ G 0)=hi.map (G8 P ⟨t,m,n⟩ G 0):=by
   cases hi with
   |none=>rfl
   |some y=>simp only[Cc];rw[hE y (by simp)]
  have e2:∀sv,M3 P ⟨t',m,n⟩ G ty sv lo hi mx=M3 P ⟨t,m,n⟩ G ty sv lo hi mx:=fun sv=>Cv1 (fun y hy=>h y (by subst hy;simp)) (fun y hy=>h y (by subst hy;simp)) (fun y hy=>h y (by subst hy;simp));rw[h x (by simp)];have e3:∀k y,Gc P ⟨t',m,n⟩ G ty k y lo hi mx=Gc P ⟨t,m,n⟩ G ty k y lo hi mx:=fun k y=>eg (fun y hy=>h y (by subst hy;simp));simp only[el,eh,e2,e3];rfl
 case fieldAddr ty x f=>rw[h x (by simp)];rfl
 case field ty x f=>rw[h x (by simp)];rfl
 case indexAddr ty x i=>rw[h x (by simp),hE i (by simp)];rfl
 case index ty x i=>rw[h x (by simp),hE i (by simp)];rfl
 case extract x i=>rw[h x (by simp)];rfl
 case call c=>
  have hargs:∀x,x∈c.args.toList->∀G ty,opd P ⟨t',m,n⟩ G ty x=opd P ⟨t,m,n⟩ G ty x:=fun x hx=>h x (by unfold Call.operands;cases c.callee<;>simp at hx ⊢<;>simp[hx]);have hargsE:∀x,x∈c.args.toList->∀G ty,G8 P ⟨t',m,n⟩ G ty x=G8 P ⟨t,m,n⟩ G ty x:=fun x hx G ty=>by simp only[G8];rw[hargs x hx]
  have hA:=Fw8 (P:=P) (G:=G) hargs c.argTypes.toList;split
  .split
   .rename_i x hx;split
    .rw[hargs x (by rw[hx];simp)];rfl
    .rfl
   .rfl
  .split
   .rename_i x hx;split
    .rw[hargs x (by rw[hx];simp)];rfl
    .rfl
   .rfl
  .split
   .rfl
   .split
    .rename_i d x _ _ hx _;rw[hargs d (by rw[hx];simp),hargs x (by rw[hx];simp),hargsE x (by rw[hx];simp)];rfl
    .rfl
  .split
   .rename_i x y hx;rw[hargsE x (by rw[hx];simp),hargsE y (by rw[hx];simp)];rfl
   .rfl
  .split
   .rename_i x y hx;rw[hargsE x (by rw[hx];simp),hargsE y (by rw[hx];simp)];rfl
   .rfl
  .split
   .rename_i x ty hx _;rw[hargs x (by rw[hx];simp)];rfl
   .rfl
  .rw[hA];rfl
  .rename_i tm hc;rw[hA,h (.tmp tm) (by unfold Call.operands;rw[hc];simp)];rfl
  .rfl
 all_goals rfl
def Eb5 {ops:Array Oper} {j:Nat} {want:Bool} (h:∀d,(ops[j]?).bind (·.dst)=some d->t'[d]? =t[d]?):S9 ⟨t',m,n⟩ ops j want=S9 ⟨t,m,n⟩ ops j want:=by
 unfold S9;cases hd:(ops[j]?).bind (·.dst) with
 |none=>rfl
 |some d=>simp only[B0];rw[h d hd]
def Fx2 {own:List Nat} {s:Nat} {ops:Array Oper} (h:∀d,d∈o.looksAt ops->t'[d]? =t[d]?):P3 P sig own ops s o ⟨t',m,n⟩=P3 P sig own ops s o ⟨t,m,n⟩:=by
 have hop:∀x,x∈o.op.operands->∀G ty,opd P ⟨t',m,n⟩ G ty x=opd P ⟨t,m,n⟩ G ty x:=by
  intro x hx G ty;cases x with
  |tmp d=>
   simp only[opd];rw[h d (F3 _ (List.mem_filterMap.2 ⟨.tmp d,by simpa using hx,rfl⟩))]
  |_=>rfl
 unfold P3;split
 .rw[Gd4 hop]
 .rename_i j want hg;rw[Eb5 (t:=t) (fun d hd=>h d (Ej _ (by rw[hg];simp[hd])))];split
  .rfl
  .split
   .rw[Gd4 hop]
   .rfl
end
structure Vx where
 kl:Option Nat
 v:Option (Nat×SV)
def Qp (k:Option Nat) (t:List SV):List SV:=match k with|some s=>SV.kills s t|none=>t
def I2 (v:Vx) (t:List SV):List SV:=match v.v with|some (d,x)=>(Qp v.kl t).set d x|none=>Qp v.kl t
def tA (V:Nat->Vx) (L:Nat->Bool) (t0:List SV):Nat->List SV
 |0=>t0
 |k+1=>if L k then I2 (V k) (tA V L t0 k) else tA V L t0 k
def Al4:Nat->Bool:=fun _=>true
section
variable {V:Nat->Vx} {M:Nat->Option (List (Nat×Blk))} {L L':Nat->Bool} {t0:List SV} {m0:List (Nat×Blk)} {n j:Nat}
def oj (s:Nat):∀t:List SV,(SV.kills s t).length=t.length
 |[]=>rfl
 |x::t=>by simp[SV.kills,oj s t]
def oq (s:Nat):∀(t:List SV) (d:Nat),(SV.kills s t)[d]? =t[d]?.map (SV.kill s)
 |[],d=>by simp[SV.kills]
 |x::t,0=>by simp[SV.kills]
 |x::t,d+1=>by simpa [SV.kills] using oq s t d
def Qn (k:Option Nat) (t:List SV):(Qp k t).length=t.length:=by
 cases k with
 |none=>rfl
 |some s=>exact oj s t
def ov {k:Option Nat} {t u:List SV} {d:Nat} (h:t[d]? =u[d]?):(Qp k t)[d]? =(Qp k u)[d]? :=by
 cases k with
 |none=>exact h
 |some s=>simp only[Qp,oq,h]
def By0 (v:Vx) (t:List SV):(I2 v t).length=t.length:=by
 unfold I2;split
 .rw[I6,Qn]
 .rw[Qn]
def pg {v:Vx} {d:Nat} (hk:v.kl=none) (h:∀x,v.v≠some (d,x)) (t:List SV):(I2 v t)[d]? =t[d]? :=by
 obtain⟨k,v⟩:=v;simp only at hk h;subst hk;cases v with
 |none=>rfl
 |some p=>
  obtain⟨e,x⟩:=p;have:e≠d:=fun he=>h x (by rw[he]);simp only[I2,Qp];rw[E4,if_neg this]
def By1 (v:Vx) {t u:List SV} {d:Nat} (hl:t.length=u.length) (h:t[d]? =u[d]?):(I2 v t)[d]? =(I2 v u)[d]? :=by
 unfold I2;split
 .rename_i e x _;rw[E4,E4,Qn,Qn,hl];split
  .rfl
  .exact ov h
 .exact ov h
def Aj8 (V:Nat->Vx) (L:Nat->Bool) (t0:List SV):∀k,(tA V L t0 k).length=t0.length
 |0=>rfl
 |k+1=>by
  simp only[tA];split
  .rw[By0];exact Aj8 V L t0 k
  .exact Aj8 V L t0 k
def Fl9 {d:Nat} (hj:j<=n) (h:∀i x,i<n->(V i).v=some (d,x)->(L i=true↔i<j)) (hk:∀i,i<n->(V i).kl≠none->(L i=true↔i<j)):(tA V L t0 n)[d]? =(tA V Al4 t0 j)[d]? :=by
 have h1:∀k,k<=j->(tA V L t0 k)[d]? =(tA V Al4 t0 k)[d]? :=by
  intro k
  induction k with
  |zero=>intro _;rfl
  |succ k ih=>
   intro hkj;have ih:=ih (by omega);simp only[tA,Al4,if_true];have hlen:(tA V L t0 k).length=(tA V (fun _=>true) t0 k).length:=by rw[Aj8,Aj8]
   by_cases hL:L k=true
   .rw[if_pos hL];exact By1 _ hlen ih
   .rw[if_neg hL];have hkl:(V k).kl=none:=by
     cases hh:(V k).kl with
     |none=>rfl
     |some s=>exact absurd ((hk k (by omega) (by rw[hh];simp)).2 (by omega)) hL
    have hv:∀x,(V k).v≠some (d,x):=fun x hx=>hL ((h k x (by omega) hx).2 (by omega));rw[pg hkl hv];exact ih
 have h2:∀k,j<=k->k<=n->(tA V L t0 k)[d]? =(tA V L t0 j)[d]? :=by
  intro k
  induction k with
  |zero=>intro hk _;have:j=0:=by omega
         subst this;rfl
  |succ k ih=>
   intro hkj hn;by_cases he:j=k+1
   .subst he;rfl
   .have ih:=ih (by omega) (by omega);simp only[tA];split
    .rename_i hl;have hkl:(V k).kl=none:=by
      cases hh:(V k).kl with
      |none=>rfl
      |some s=>have:=(hk k (by omega) (by rw[hh];simp)).1 hl;omega
     rw[pg hkl (fun x hx=>by have:=(h k x (by omega) hx).1 hl;omega)];exact ih
    .exact ih
 rw[h2 n hj (B7 _),h1 j (B7 _)]
def Aj9 (h:∀i,i<n->L i=L' i):∀k,k<=n->tA V L t0 k=tA V L' t0 k:=by
 intro k
 induction k with
 |zero=>intro _;rfl
 |succ k ih=>intro hk;simp only[tA];rw[ih (by omega),h k (by omega)]
def Fl8 (h:∀i,i<n->L i=false):∀k,k<=n->tA V L t0 k=t0:=by
 intro k
 induction k with
 |zero=>intro _;rfl
 |succ k ih=>intro hk;simp only[tA];rw[ih (by omega),h k (by omega)];rfl
def Gr5 (hj:j<n) (hL:L j=false) (hL':∀i,L' i=if i=j then true else L i) (hkk:∀i,i<n->j<i->L i=true->(V j).kl=none∧(V i).kl=none) (h:∀i d x y,i<n->i≠j->j<i->L i=true->(V j).v=some (d,x)->(V i).v≠some (d,y)):tA V L' t0 n=I2 (V j) (tA V L t0 n):=by
 have h1:∀k,k<=j->tA V L' t0 k=tA V L t0 k:=by
  intro k
  induction k with
  |zero=>intro _;rfl
  |succ k ih=>
   intro hk;simp only[tA];have e:L' k=L k:=by rw[hL',if_neg (by omega)]
   rw[e,ih (by omega)]
 have h2:∀k,j<k->k<=n->tA V L' t0 k=I2 (V j) (tA V L t0 k):=by
  intro k
  induction k with
  |zero=>intro hk;omega
  |succ k ih=>
   intro hk hn;simp only[tA];by_cases he:k=j
   .subst he;have e:L' k=true:=by rw[hL',if_pos rfl]
    rw[e,hL,h1 k (B7 _)];simp
   .have e:L' k=L k:=by rw[hL',if_neg he]
    rw[e,ih (by omega) (by omega)];split
    .rename_i hl;obtain⟨k1,k2⟩:=hkk k (by omega) (by omega) hl;unfold I2;rw[k1,k2];simp only[Qp];cases hvj:(V j).v with
     |none=>rfl
     |some p=>
      cases hvk:(V k).v with
      |none=>rfl
      |some q=>
       obtain⟨d,x⟩:=p;obtain⟨e,y⟩:=q;have hne:d≠e:=fun hde=>by subst hde;exact h k d x y (by omega) he (by omega) hl hvj hvk
       simp only[];rw[List.set_comm _ _ hne]
    .rfl
 exact h2 n hj (B7 _)
end
mutual
def SV.kill_comm (s s':Nat):∀x:SV,(x.kill s').kill s=(x.kill s).kill s'
 | .e _| .nil _| .lit _ _| .und| .ip _ _| .nilq _=>by simp only[SV.kill]
 | .may g x=>by simp only[SV.kill,SV.kill_comm s s' x]
 | .bp k o=>by simp only[SV.kill];split<;>split<;>simp_all [SV.kill]
 | .ap k i o=>by simp only[SV.kill];split<;>split<;>simp_all [SV.kill]
 | .suf k i=>by simp only[SV.kill];split<;>split<;>simp_all [SV.kill]
 | .h k=>by simp only[SV.kill];split<;>split<;>simp_all [SV.kill]
 | .mh k=>by simp only[SV.kill];split<;>split<;>simp_all [SV.kill]
 | .slf k T=>by simp only[SV.kill];split<;>split<;>simp_all [SV.kill]
 | .tup xs=>by simp only[SV.kill,SV.kills_comm s s' xs]
 | .ag xs=>by simp only[SV.kill,SV.kills_comm s s' xs]
 | .clo g xs=>by simp only[SV.kill,SV.kills_comm s s' xs]
def SV.kills_comm (s s':Nat):∀xs:List SV,SV.kills s (SV.kills s' xs)=SV.kills s' (SV.kills s xs)
 |[]=>rfl
 |x::xs=>by simp only[SV.kills,SV.kill_comm s s' x,SV.kills_comm s s' xs]
end
def n0 (s:Nat):∀(t:List SV) (d:Nat) (x:SV),SV.kills s (t.set d x)=(SV.kills s t).set d (x.kill s)
 |[],d,x=>by simp[SV.kills]
 |y::t,0,x=>by simp[SV.kills]
 |y::t,d+1,x=>by simp[SV.kills,n0 s t d x]
def Ac2 {V:Nat->Vx} {L:Nat->Bool} {t0:List SV} {s:Nat} (h0:SV.kills s t0=t0) (hv:∀k d x,L k=true->(V k).v=some (d,x)->x.kill s=x):∀n,SV.kills s (tA V L t0 n)=tA V L t0 n
 |0=>h0
 |n+1=>by
  have ih:=Ac2 h0 hv n;simp only[tA];split
  .rename_i hL;have hk:SV.kills s (Qp (V n).kl (tA V L t0 n))=Qp (V n).kl (tA V L t0 n):=by
    cases (V n).kl with
    |none=>exact ih
    |some s'=>simp only[Qp];rw[SV.kills_comm,ih]
   unfold I2;split
   .rename_i d x hvx;rw[n0,hk,hv n d x hL hvx]
   .exact hk
  .exact ih
def Ij8 (ops:Array Oper) (j:Nat):Prop:=(∀i,i<j->((Yg [] ops.toList).getD j 0).testBit i=true)∧∀i,j<i->i<ops.size->((Yg [] ops.toList).getD i 0).testBit j=true
def Eb6 {ops:Array Oper} {j:Nat} (h:Gj9 (Yg [] ops.toList) ops.size j=true) (hj:j<ops.size):Ij8 ops j:=by
 unfold Gj9 at h;rw[Ds] at h;refine⟨fun i hi=> ?_,fun i hi hn=> ?_⟩
 .have:=h i (Ih.2 (by omega));rwa[if_pos hi] at this
 .have:=h i (Ih.2 hn);rwa[if_neg (by omega),if_pos hi] at this
def Zb {acc:List Nat} {i:Nat}:∀{ks:List Nat},(V4 acc ks).testBit i=true->∃k,k∈ks∧(i=k∨(acc.getD k 0).testBit i=true)
 |[],h=>by simp[V4] at h
 |k::ks,h=>by
  simp only[V4,Nat.testBit_or,Cz,Nat.testBit_two_pow,decide_eq_true_eq] at h;rcases h with h|h|h
  .exact⟨k,.head _,.inl h.symm⟩
  .exact⟨k,.head _,.inr h⟩
  .obtain⟨k',h1,h2⟩:=Zb h;exact⟨k',.tail _ h1,h2⟩
def Al2:∀(l:List Oper) (acc:List Nat),(∀k,k<acc.length->(Yg acc l)[k]? =acc[k]?)∧∀(k:Nat) (o:Oper),l[k]? =some o->(Yg acc l)[acc.length+k]? =some (V4 ((Yg acc l).take (acc.length+k)) (Bx0 o))
 |[],acc=>⟨fun k _=>rfl,fun k o h=>by simp at h⟩
 |o::l,acc=>by
  obtain⟨h1,h2⟩:=Al2 l (acc++[V4 acc (Bx0 o)]);have hpre:∀k,k<acc.length->(Yg acc (o::l))[k]? =acc[k]? :=by intro k hk;have:=h1 k (by simp;omega);rw[Cm hk] at this;exact this
  refine⟨hpre,fun k o' hk=> ?_⟩;cases k with
  |zero=>
   simp only[D7,Bn] at hk;subst hk;have:=h1 acc.length (by simp);rw[Cf (B7 _),Dl7] at this;have htake:(Yg acc (o::l)).take acc.length=acc:=by
    apply List.ext_getElem?;intro i;rw[Cp];split
    .rename_i hi;exact hpre i hi
    .rw[List.getElem?_eq_none (by omega)]
   rw[G6,htake];exact this
  |succ k=>
   have:=h2 k o' (by simpa using hk);rw[Bp,Hw] at this;rw[show acc.length+(k+1)=acc.length+1+k by omega];exact this
def bw {ops:List Oper} {L:Nat->Bool} (hcl:∀(j:Nat) (o:Oper),ops[j]? =some o->L j=true->∀k,k∈Bx0 o->L k=true) (hlt:∀(j:Nat) (o:Oper),ops[j]? =some o->∀k,k∈Bx0 o->k<j):
  ∀(N j:Nat) (o:Oper),j<N->ops[j]? =some o->(∀k,k∈Bx0 o->L k=true)->∀i,((Yg [] ops).getD j 0).testBit i=true->L i=true:=by
 intro N
 induction N with
 |zero=>intro j o hj;omega
 |succ N ih=>
  intro j o hj ho hk i hi;have hget:=(Al2 ops []).2 j o ho;simp only[Cs,Ig] at hget;rw[C4,hget,Ez] at hi;obtain⟨k,hk1,hk2⟩:=Zb hi;have hkj:=hlt j o ho k hk1;rcases hk2 with rfl|hk2
  .exact hk _ hk1
  .have:((Yg [] ops).take j).getD k 0=(Yg [] ops).getD k 0:=by rw[C4,C4,Cp,if_pos hkj]
   rw[this] at hk2;have hko:∃o',ops[k]? =some o':=⟨_,B3 (by have:=(Br.1 ho).1;omega)⟩;obtain⟨o',ho'⟩:=hko;exact ih k o' (by omega) ho' (hcl k o' ho' (hk k hk1)) i hk2
def Ak6 {x y:Option Blk} (h:Ds1 x y=true):x=y:=by
 cases x<;>cases y<;>simp only[Ds1,B5] at h
 .rfl
 .rw[Blk.same_eq h]
def Cp7 {m:List (Nat×Blk)} {s:Nat} {b:Blk} (h:mget m s=some b):(s,b)∈m:=by
 induction m with
 |nil=>simp[mget] at h
 |cons p m ih=>
  obtain⟨k,c⟩:=p;simp only[mget] at h;split at h
  .rename_i e;subst e;injection h with h;subst h;exact .head _
  .exact .tail _ (ih h)
def Fq8 {m m':List (Nat×Blk)} (h:eqM m m'=true) (s:Nat):mget m s=mget m' s:=by
 simp only[eqM,Bt,Ds] at h;cases h1:mget m s with
 |some b=>rw[<-h1];exact Ak6 (h.1 (s,b) (Cp7 h1))
 |none=>
  cases h2:mget m' s with
  |none=>rfl
  |some b=>
   have:=Ak6 (h.2 (s,b) (Cp7 h2));rw[h1,h2] at this;cases this
def E.sameOpt_eq {x y:Option E} (h:E.sameOpt x y=true):x=y:=by
 cases x<;>cases y<;>simp only[E.sameOpt,B5] at h
 .rfl
 .rw[E.same_eq _ _ h]
def W.same_eq {x y:W} (h:x.same y=true):x=y:=by
 cases x<;>cases y<;>simp only[W.same,Bt,beq_iff_eq,B5] at h
 .rw[E.same_eq _ _ h]
 .obtain⟨⟨⟨⟨h1,h2⟩,h3⟩,h4⟩,h5⟩:=h;rw[E.sameOpt_eq h1,h2,h3,E.sames_eq _ _ h4,h5]
 .obtain⟨⟨⟨⟨h1,h2⟩,h3⟩,h4⟩,h5⟩:=h;rw[E.sameOpt_eq h1,h2,E.same_eq _ _ h3,E.sames_eq _ _ h4,h5]
 .rw[h.1,E.sames_eq _ _ h.2]
def jc:∀{x y:List W},Y0 x y=true->x=y
 |[],[],_=>rfl
 |a::x,b::y,h=>by simp only[Y0,Bt] at h;rw[W.same_eq h.1,jc h.2]
 |[],_::_,h=>by simp[Y0] at h
 |_::_,[],h=>by simp[Y0] at h
def W2 (p:Nat->Bool):∀l:List Nat,l.filter p∈Gc5 l
 |[]=>by simp[Gc5]
 |x::l=>by
  have ih:=W2 p l;simp only[Un,Gc5,Dw,Dm0];split
  .exact .inr ⟨_,ih,rfl⟩
  .exact .inl ih
section
variable {P:Program} {sig:Nat->Option Nat} {fn:Fns} {w0:Fr} {Oe:Nat->Option Nat} {J:List PV} {ops:Array Oper}
def o2 (U:St) (F:Eff) (d:Option Tmp) (sv:SV):((U.eff F).set d sv).t=I2 ⟨F.kl,d.map (fun d=>(d,sv))⟩ U.t:=by cases d<;>cases h:F.kl<;>simp[St.eff,St.set,I2,Qp,h]
def Dx1 (U:St) (F:Eff) (d:Option Tmp) (sv:SV):((U.eff F).set d sv).m=F.m:=by cases d<;>rfl
def Ent.vx (e:Ent):Vx:=⟨if e.tr then none else e.kl,e.o.dst.map fun d=>(d,e.sv)⟩
def Vof (ents:List Ent) (k:Nat):Vx:=match ents[k]? with|some e=>e.vx|none=>⟨none,none⟩
def sb (V:Nat->Vx) (t0:List SV):∀k,tA V Al4 t0 (k+1)=tA (fun j=>V (j+1)) Al4 (I2 (V 0) t0) k
 |0=>by simp[tA,Al4]
 |k+1=>by have ih:=sb V t0 k;rw[tA];simp only[Al4,if_true];rw[show tA V Al4 t0 (k+1)=_ from ih];simp[tA,Al4]
def Bf7 {own:List Nat} {rid:Nat}:∀(l:List Oper) (i:Nat) (U:St) (ents:List Ent) (σ':St) (η1 η2 I:List PV),Gm9 P sig own ops rid l i U=some (ents,σ')->Fz fn η1 (Dx0 ents)=some η2->J=η2++I->η1.length=U.n->
  ents.length=l.length∧η2.length=σ'.n∧(∀k e,ents[k]? =some e->l[k]? =some e.o∧e.t=tA (Vof ents) Al4 U.t k∧∃η1 η2 I,Fz fn η1 e.ws=some η2∧J=η2++I∧η1.length=e.n)∧σ'.t=tA (Vof ents) Al4 U.t ents.length
 |[],i,U,ents,σ',η1,η2,I,hx,hw,hη,hn=>by simp only[Gm9,Bn,B4] at hx;obtain⟨rfl,rfl⟩:=hx;simp only[Dx0,Fz,Bn] at hw;subst hw;exact⟨rfl,hn,fun k e h=>by simp at h,rfl⟩
 |o::l,i,U,ents,σ',η1,η2,I,hx,hw,hη,hn=>by
  simp only[Gm9] at hx;split at hx
  .rename_i ws sv F hc;obtain⟨⟨ents',σ2⟩,hrec,he⟩:=Bs.1 hx;simp only[B4] at he;have hE0:∃E0:Ent,ents=E0::ents'∧E0.o=o∧E0.t=U.t∧E0.n=U.n∧E0.ws=ws∧E0.sv=sv∧E0.kl=F.kl∧(E0.tr=true->∀s,F.kl=some s->SV.kills s U.t=U.t):=by refine⟨_,he.1.symm,rfl,rfl,rfl,rfl,rfl,rfl,fun htr s hs=> ?_⟩;simp only[hs] at htr;exact SV.sames_eq _ _ htr
   obtain⟨E0,rfl,rfl,k2,k3,rfl,rfl,k6,k7⟩:=hE0;obtain⟨_,rfl⟩:=he;simp only[Dx0] at hw;rw[Hm] at hw;obtain⟨η3,hw1,hw2⟩:=Bl.1 hw;obtain⟨ζ2,hζ2⟩:=J8 hw2;have hset:((U.eff F).set E0.o.dst E0.sv).n=F.n:=by cases E0.o.dst<;>rfl
   have hlen:=Us hc hw1 hn;obtain⟨r1,r2,r3,r4⟩:=Bf7 l (i+1) _ ents' σ2 η3 η2 I hrec hw2 hη (by rw[hlen,hset]);have ht:((U.eff F).set E0.o.dst E0.sv).t=I2 (Vof (E0::ents') 0) U.t:=by
    rw[o2];simp only[Vof,D7,Ent.vx];rw[k6];cases hk:F.kl with
    |none=>simp
    |some s=>
     cases htr:E0.tr with
     |true=>simp only[if_true,I2,Qp,k7 htr s hk]
     |false=>simp
   have hV:(fun j=>Vof (E0::ents') (j+1))=Vof ents':=by funext j;simp[Vof]
   refine⟨by simp[r1],r2,fun k e hk=> ?_,?_⟩
   .cases k with
    |zero=>
     simp only[D7,Bn] at hk;subst hk;exact⟨rfl,k2,η1,η3,ζ2++I,hw1,by rw[hη,hζ2,Cy],by rw[k3];exact hn⟩
    |succ k=>
     obtain⟨q1,q2,q3⟩:=r3 k e (by simpa using hk);refine⟨by simpa using q1,?_,q3⟩;rw[sb,hV,<-ht];exact q2
   .rw[Cq,sb,hV,<-ht];exact r4
  .cases hx
def J7 {own:List Nat} {rid:Nat} {B B':Nat->Bool}:∀(ents:List Ent) (i:Nat) (m:List (Nat×Blk)),(∀k,i<=k->k<i+ents.length->B k=B' k)->qf P sig own ops rid B ents i m=qf P sig own ops rid B' ents i m
 |[],_,_,_=>rfl
 |e::r,i,m,h=>by
  simp only[qf];rw[h i (B7 _) (by simp)];have hr:∀m,qf P sig own ops rid B r (i+1) m=qf P sig own ops rid B' r (i+1) m:=fun m=>J7 r (i+1) m fun k h1 h2=>h k (by omega) (by simp;omega);split
  .split
   .exact hr _
   .rfl
  .exact hr m
def cnt (L:Nat->Bool):Nat->Nat
 |0=>0
 |k+1=>cnt L k+if L k then 0 else 1
def Dy6 {L L':Nat->Bool} {j:Nat} (hL:L j=false) (hL':∀i,L' i=if i=j then true else L i):∀k,cnt L k=cnt L' k+if j<k then 1 else 0
 |0=>by simp[cnt]
 |k+1=>by
  have ih:=Dy6 hL hL' k;by_cases hk:k=j
  .subst hk;have e:L' k=true:=by rw[hL',if_pos rfl]
   simp only[cnt,e,hL,if_true,B5,if_false];rw[if_neg (Nat.lt_irrefl k)] at ih;rw[if_pos (Nat.lt_succ_self k)];omega
  .have e:L' k=L k:=by rw[hL',if_neg hk]
   simp only[cnt,e];by_cases hjk:j<k
   .rw[if_pos hjk] at ih;rw[if_pos (show j<k+1 by omega)];omega
   .rw[if_neg hjk] at ih;rw[if_neg (show¬j<k+1 by omega)];omega
def Af0 {L:Nat->Bool}:∀k,cnt L k=0->∀i,i<k->L i=true
 |0,_,i,hi=>by omega
 |k+1,h,i,hi=>by
  simp only[cnt] at h;by_cases hk:i=k
  .subst hk;cases hl:L i with
   |true=>rfl
   |false=>rw[hl] at h;simp at h
  .exact Af0 k (by omega) i (by omega)
def Gw5 (hC:Contract P sig fn) {own:List Nat} {rid:Nat} {Q:Exit->Act->World->Prop} {ds:List Deferred} {ents:List Ent} {U σ':St}
  (hd:Dy3 ops=true) (hlen:ents.length=ops.size) (hE:∀k e,ents[k]? =some e->ops[k]? =some e.o∧e.t=tA (Vof ents) Al4 U.t k∧∃η1 η2 I,Fz fn η1 e.ws=some η2∧J=η2++I∧η1.length=e.n)
  (hfin:σ'.t=tA (Vof ents) Al4 U.t ops.size) (hchk:xm P sig own ops rid ents U σ'=true) (hQ:∀a' w',a'.defers=ds->gn w0 Oe J ⟨σ'.t,σ'.m,0⟩ a'.tmps w'->Q .normal a' w'):
  ∀(fuel:Nat) (listed:Array Bool) (a:Act) (w:World),listed.size=ops.size->cnt (fun i=>listed.getD i false) ops.size<=fuel->
   (∀(j:Nat) (o:Oper),ops[j]? =some o->listed.getD j false=true->∀k,k∈Bx0 o->listed.getD k false=true)->a.defers=ds->
   (∃m,qf P sig own ops rid (fun k=>Xt ents k && listed.getD k false) ents 0 U.m=some m∧gn w0 Oe J ⟨tA (Vof ents) (fun i=>listed.getD i false) U.t ops.size,m,0⟩ a.tmps w)->wpAny P .any ops Q fuel listed a w:=by
 have hop:∀j,j<ops.size->∃y,ops[j]? =some y∧Ac5 y.op=false∧(∀k,k∈Bx0 y->k<j)∧∀i,i<j->((Yg [] ops.toList).getD j 0).testBit i=true∨∃x,ops[i]? =some x∧x.apart ops y=true:=by
  intro j hj;unfold Dy3 at hd;have h1:=(Ds.1 hd) j (by simp[hj]);split at h1
  .rename_i y hy;simp only[Bt,Dp,Ds,decide_eq_true_eq,Ih,Cz] at h1;refine⟨y,hy,h1.1.1,fun k hk=>h1.1.2 k hk,fun i hi=> ?_⟩;rcases h1.2 i hi with h2|h2
   .exact .inl h2
   .right;split at h2
    .rename_i x hx;exact⟨x,hx,h2⟩
    .cases h2
  .cases h1
 simp only[xm,Bt,Ds,Ih] at hchk;obtain⟨hchk1,hchk2⟩:=hchk;have hlt:∀(j:Nat) (o:Oper),ops.toList[j]? =some o->∀k,k∈Bx0 o->k<j:=by
  intro j o ho k hk;have ho':ops[j]? =some o:=by simpa using ho
  obtain⟨y,hy,_,h2,_⟩:=hop j (El.1 ho').1;rw[ho'] at hy;injection hy with hy;subst hy;exact h2 k hk
 have hend:∀(listed:Array Bool) (a:Act) (w:World),(∀i,i<ops.size->listed.getD i false=true)->a.defers=ds->
   (∃m,qf P sig own ops rid (fun k=>Xt ents k && listed.getD k false) ents 0 U.m=some m∧gn w0 Oe J ⟨tA (Vof ents) (fun i=>listed.getD i false) U.t ops.size,m,0⟩ a.tmps w)->Q .normal a w:=by
  rintro listed a w hl hds ⟨m,hm,K,hv,O,h⟩;refine hQ a w hds ⟨K,hv,O,?_⟩;have c1:=Aj9 (V:=Vof ents) (t0:=U.t) (L:=fun i=>listed.getD i false) (L':=Al4) (n:=ops.size) hl;rw[J7 (B':=Xt ents) ents 0 U.m (fun k _ hk=>by rw[hl k (by omega),Mc])] at hm;rw[hm] at hchk2;have:=h.eqm (m':=σ'.m) (n:=0) (fun s=>Fq8 hchk2 s);rw[hfin,<-c1 _ (B7 _)];exact this
 intro fuel
 induction fuel with
 |zero=>
  intro listed a w hsize hcnt hcl hds h;have hl:=Af0 ops.size (by omega) (L:=fun i=>listed.getD i false);refine⟨?_,hend listed a w hl hds h⟩;refine List.eq_nil_iff_forall_not_mem.2 fun j hj=> ?_;rw[mem_ready] at hj;obtain⟨h0,o,ho,_⟩:=hj;have hj':=(El.1 ho).1;have:=hl j hj';rw[Cg,E8 (by omega)] at h0 this;simp only[Ez] at h0 this;rw[h0] at this;cases this
 |succ fuel ih=>
  intro listed a w hsize hcnt hcl hds h;let L:Nat->Bool:=fun i=>listed.getD i false;refine⟨fun hr=> ?_,fun j hj=> ?_⟩
  ·-- none is ready: all are listed
   refine hend listed a w (fun i hi=> ?_) hds h;have:∀N i,i<N->i<ops.size->L i=true:=by
    intro N
    induction N with
    |zero=>intro i hi;omega
    |succ N ihN=>
     intro i hi1 hi2;refine Classical.byContradiction fun hne=> ?_;obtain⟨y,hy,_,hk,_⟩:=hop i hi2;have hmem:i∈Region.ready .any ops listed:=by
      rw[mem_ready];refine⟨?_,y,hy,fun e he hb=> ?_⟩
      .have:L i=false:=by
        cases hh:L i with
        |false=>rfl
        |true=>exact absurd hh hne
       have h3:listed.getD i false=false:=this;rw[Cg,E8 (by omega)] at h3 ⊢;exact h3
      .have hin:e.on∈Bx0 y:=Dm0.2 ⟨e,Fp.2 ⟨by simpa using he,hb⟩,rfl⟩;have:=hk _ hin;exact ihN e.on (by omega) (by omega)
     rw[hr] at hmem;simp at hmem
   exact this (i+1) i (by omega) hi
  .rw[mem_ready] at hj;obtain⟨h0,o,ho,hafter⟩:=hj;have hj':j<ops.size:=(El.1 ho).1;have hLj:L j=false:=by show listed.getD j false=false;rw[Cg,E8 (by omega)] at h0 ⊢;exact h0
   obtain⟨y,hy,hsel,hk,hpair⟩:=hop j hj';rw[ho] at hy;injection hy with hy;subst hy;have hready:∀k,k∈Bx0 o->L k=true:=by intro k hk1;obtain⟨e,he,rfl⟩:=Dm0.1 hk1;obtain⟨he1,he2⟩:=Fp.1 he;exact hafter e (by simpa using he1) he2
   have hcl':∀(j:Nat) (o:Oper),ops.toList[j]? =some o->L j=true->∀k,k∈Bx0 o->L k=true:=fun j o ho hl=>hcl j o (by simpa using ho) hl;have hanc:∀i,((Yg [] ops.toList).getD j 0).testBit i=true->L i=true:=bw hcl' hlt (j+1) j o (by omega) (by simpa using ho) hready;have hup:∀k,k<ops.size->L k=true->∀i,((Yg [] ops.toList).getD k 0).testBit i=true->L i=true:=by intro k hk hLk i hb;obtain⟨x,hx,_⟩:=hop k hk;exact bw hcl' hlt (k+1) k x (by omega) (by simpa using hx) (fun z hz=>hcl k x hx hLk z hz) i hb
   have hbehind:∀i,j<i->i<ops.size->L i=true->∃x,ops[i]? =some x∧o.apart ops x=true:=by
    intro i hji hin hLi;obtain⟨x,hx,_,hxk,hxp⟩:=hop i hin;rcases hxp j hji with hb|⟨o',ho',h1⟩
    .have:=hup i hin hLi j hb;rw[hLj] at this;cases this
    .rw[ho] at ho';injection ho' with ho';subst ho';exact⟨x,hx,h1⟩
   obtain⟨e,he⟩:∃e,ents[j]? =some e:=⟨_,B3 (by omega)⟩;obtain⟨heo,het,η1,η2,I,hw,hη,hn⟩:=hE j e he;rw[ho] at heo;injection heo with heo;subst heo;have hcj:=hchk1 j (by omega);rw[he] at hcj;simp only[Bt,Ds] at hcj;obtain⟨⟨_,hcY⟩,hcK⟩:=hcj;have hVj:Vof ents j=e.vx:=by simp only[Vof,he]
   have hefj:Xt ents j=e.ef:=by simp only[Xt,he]
   have hVi:∀i d x,i<ops.size->(Vof ents i).v=some (d,x)->∃y,ops[i]? =some y∧y.dst=some d:=by intro i d x hi hv;obtain⟨e',he'⟩:∃e,ents[i]? =some e:=⟨_,B3 (by omega)⟩;obtain⟨h1,_⟩:=hE i e' he';simp only[Vof,he',Ent.vx] at hv;obtain⟨d',hd',hh⟩:=Bs.1 hv;simp only[B4] at hh;exact⟨e'.o,h1,by rw[hd',hh.1]⟩
   have hKi:∀i,i<ops.size->(Vof ents i).kl≠none->Ij8 ops i:=by
    intro i hi hv;obtain⟨e',he'⟩:∃e,ents[i]? =some e:=⟨_,B3 (by omega)⟩;have h1:=hchk1 i (by omega);rw[he'] at h1;simp only[Bt] at h1;have h2:=h1.2;simp only[Vof,he',Ent.vx] at hv;unfold Dq8 at h2;have htr:e'.tr=false:=by
     cases hh:e'.tr with
     |false=>rfl
     |true=>rw[hh] at hv;simp at hv
    rw[htr] at h2;simp only[Bool.not_false,if_true] at h2;rw[hlen] at h2;exact Eb6 h2 hi
   have hfull:∀i,i<ops.size->i≠j->Ij8 ops i->(L i=true↔i<j):=by
    intro i hi hne hf;constructor
    .intro hLi;refine Classical.byContradiction fun hge=> ?_;have:=hup i hi hLi j (hf.1 j (by omega));rw[hLj] at this;cases this
    .intro hlt2;exact hanc i (hf.2 j hlt2 hj')
   have hfullj:Ij8 ops j->∀i,j<i->i<ops.size->L i=true->False:=by intro hf i hji hi hLi;have:=hup i hi hLi j (hf.2 i hji hi);rw[hLj] at this;cases this
   have hlook:∀d,d∈e.o.looksAt ops->(tA (Vof ents) L U.t ops.size)[d]? =e.t[d]? :=by
    intro d hd;rw[het];refine Fl9 (by omega) (fun i x hi hv=> ?_) (fun i hi hv=> ?_)
    .obtain⟨y,hy,hyd⟩:=hVi i d x hi hv;constructor
     .intro hLi;refine Classical.byContradiction fun hge=> ?_;have hij:i≠j:=fun e=>by subst e;rw[hLj] at hLi;cases hLi
      obtain⟨x',hx',hap⟩:=hbehind i (by omega) hi hLi;rw[hy] at hx';injection hx' with hx';subst hx';exact(Oper.apart_spec hap).2.2 d hyd hd
     .intro hlt;rcases hpair i hlt with hb|⟨x',hx',hap⟩
      .exact hanc i hb
      .rw[hy] at hx';injection hx' with hx';subst hx';exact absurd hd ((Oper.apart_spec hap).1 d hyd)
    .by_cases hij:i=j
     .subst hij;exact⟨fun hLi=>(by rw[hLj] at hLi;cases hLi),fun h=>by omega⟩
     .exact hfull i hi hij (hKi i hi hv)
   obtain⟨m,hm,K,hv,O,hrel⟩:=h;let A:=Yg [] ops.toList;let Bh:=(Fy8 A ents j).filter L;let B:Nat->Bool:=fun k=>Xt ents k && ((A.getD j 0).testBit k||Bh.contains k);have hBL:∀k,k<ops.size->B k=(Xt ents k && L k):=by
    intro k hk;show (Xt ents k && ((A.getD j 0).testBit k||Bh.contains k))=(Xt ents k && L k);cases hef:Xt ents k with
    |false=>rfl
    |true=>
     rw[F0,F0,G3];simp only[Cz,List.contains_iff_mem];constructor
     .rintro (h1|h1)
      .exact hanc k h1
      .exact(Fp.1 h1).2
     .intro hLk;by_cases h1:(A.getD j 0).testBit k=true
      .exact .inl h1
      .right;refine Fp.2 ⟨Fp.2 ⟨Ih.2 (by omega),?_⟩,hLk⟩;have h2:(A.getD k 0).testBit j=false:=by
        cases hh:(A.getD k 0).testBit j with
        |false=>rfl
        |true=>have:=hup k hk hLk j hh;rw[hLj] at this;cases this
       have h3:k≠j:=fun e=>by subst e;rw[hLj] at hLk;cases hLk
       simp only[Bool.not_eq_true] at h1;show (Xt ents k && k !=j && !(A.getD j 0).testBit k && !(A.getD k 0).testBit j)=true;rw[hef,h1,h2];simp[h3]
   have hclo:f3 A ents B=true:=by
    unfold f3;rw[Ds];intro k hk;have hk':k<ops.size:=by rw[<-hlen];simpa using hk
    cases hb:B k with
    |false=>rfl
    |true=>
     rw[qd,Hb,Ds];intro i hi;have hi':i<ops.size:=by rw[<-hlen];simpa using hi
     rw[hBL k hk'] at hb;simp only[Bt] at hb;cases hx:Xt ents i && (A.getD k 0).testBit i with
     |false=>rfl
     |true=>
      simp only[Bt] at hx;rw[qd,Hb,hBL i hi',hx.1,hup k hk' hb.2 i hx.2];rfl
   have hcU:=hcY Bh (W2 L _);unfold Ip9 at hcU;have hcl2:f3 (Yg [] ops.toList) ents (fun k=>Xt ents k && (((Yg [] ops.toList).getD j 0).testBit k||Bh.contains k))=true:=hclo;simp only[hcl2,qd,B5,if_false] at hcU;have hmB:qf P sig own ops rid (fun k=>Xt ents k && (((Yg [] ops.toList).getD j 0).testBit k||Bh.contains k)) ents 0 U.m=some m:=by rw[<-hm];exact J7 ents 0 U.m fun k _ hk=>hBL k (by omega)
   rw[hmB] at hcU;simp only at hcU;split at hcU
   .rename_i ws sv F hcore;simp only[Bt,beq_iff_eq] at hcU;obtain⟨⟨⟨⟨hws,hsv⟩,hkl⟩,hmm⟩,hek⟩:=hcU;have hws':=jc hws;have hsv':=SV.same_eq _ _ hsv;subst hws';subst hsv';have hcore':P3 P sig own ops (rid*4096+j) e.o ⟨tA (Vof ents) L U.t ops.size,m,e.n⟩=some (e.ws,e.sv,F):=by rw[<-hcore];exact Fx2 hlook
    have hrel':Rel w0 Oe J ⟨tA (Vof ents) L U.t ops.size,m,e.n⟩ a.tmps w K hv O:=hrel.setN e.n;refine j7 ho (z5 hC hrel' hcore' hw hη hn) fun v w' hp=> ?_;obtain⟨β',hv',O',hr2⟩:=hp.rels (d:=e.o.dst) (ir hcore');let L':Nat->Bool:=fun i=>(listed.setIfInBounds j true).getD i false;have hL':∀i,L' i=if i=j then true else L i:=by
     intro i;show (listed.setIfInBounds j true).getD i false=_;split
     .rename_i he;subst he;rw[Cg,Array.getElem?_setIfInBounds_self_of_lt (by omega)];rfl
     .rename_i he;exact getD_set_ne false (Ne.symm he)
    refine ih _ _ _ (by simpa using hsize) ?_ ?_ (by rw[Zx];exact hds) ?_
    .have:=Dy6 hLj hL' ops.size;rw[if_pos hj'] at this;have e1:cnt L' ops.size=cnt (fun i=>(listed.setIfInBounds j true).getD i false) ops.size:=rfl;have e2:cnt L ops.size=cnt (fun i=>listed.getD i false) ops.size:=rfl;omega
    .intro i y hy hl k hk;by_cases hij:i=j
     .subst hij;rw[ho] at hy;injection hy with hy;subst hy;exact getD_set_true (hready k hk)
     .rw[getD_set_ne false (Ne.symm hij)] at hl;exact getD_set_true (hcl i y hy hl k hk)
    .have e1:tA (Vof ents) L' U.t ops.size=I2 (Vof ents j) (tA (Vof ents) L U.t ops.size):=Gr5 hj' hLj hL' (fun i hi hji hLi=>⟨by
      cases hh:(Vof ents j).kl with
      |none=>rfl
      |some s=>exact(hfullj (hKi j hj' (by rw[hh];simp)) i hji hi hLi).elim,by
      cases hh:(Vof ents i).kl with
      |none=>rfl
      |some s=>have:=(hfull i hi (by omega) (hKi i hi (by rw[hh];simp))).1 hLi;omega⟩) fun i d x y hi hij hji hLi h1 h2=>by
      obtain⟨x',hx',hap⟩:=hbehind i hji hi hLi;obtain⟨y',hy',hyd⟩:=hVi i d y hi h2;rw[hx'] at hy';injection hy' with hy';subst hy';obtain⟨o',ho',hod⟩:=hVi j d x hj' h1;rw[ho] at ho';injection ho' with ho';subst ho';exact(Oper.apart_spec hap).2.1 d hod hyd
     have e4:tA (Vof ents) L' U.t ops.size=(((⟨tA (Vof ents) L U.t ops.size,m,e.n⟩:St).eff F).set e.o.dst e.sv).t:=by
      rw[e1,hVj,o2];simp only[Ent.vx];rw[hkl];cases htr:e.tr with
      |false=>simp
      |true=>
       simp only[if_true];cases hk2:e.kl with
       |none=>rfl
       |some s=>
        unfold Dq8 at hcK;rw[htr] at hcK;simp only[qd,B5,if_false,hk2,Bt,Ds,Ih,Cz,beq_iff_eq] at hcK;obtain⟨g1,g2⟩:=hcK;have hkt:=Ac2 (V:=Vof ents) (L:=fun k=>L k && decide (k<ops.size)) (s:=s) (SV.sames_eq _ _ g1) (fun k d x hLk hvk=>by
         simp only[Bt,decide_eq_true_eq] at hLk;obtain⟨hLk,hks⟩:=hLk;obtain⟨e',he'⟩:∃e,ents[k]? =some e:=⟨_,B3 (by omega)⟩;rcases g2 k (by omega) with(h1|h1)|h1
         .subst h1;rw[hLj] at hLk;cases hLk
         .have:=hup k hks hLk j h1;rw[hLj] at this;cases this
         .rw[he'] at h1;simp only[Vof,he',Ent.vx] at hvk;obtain⟨d',_,hh⟩:=Bs.1 hvk;simp only[B4] at hh;rw[<-hh.2];exact SV.same_eq _ _ h1) ops.size
        have hcg:=Aj9 (V:=Vof ents) (t0:=U.t) (L:=fun k=>L k && decide (k<ops.size)) (L':=L) (n:=ops.size) (fun i hi=>by simp[hi]) ops.size (B7 _);rw[hcg] at hkt;simp only[I2,Qp,hkt]
     have hmm':∃m',qf P sig own ops rid (fun k=>Xt ents k && L' k) ents 0 U.m=some m'∧eqM F.m m'=true:=by
      split at hmm
      .rename_i m' hm';refine⟨m',?_,hmm⟩;cases hef:e.ef with
       |true=>
        rw[hef] at hm';simp only[if_true] at hm';rw[<-hm'];refine J7 ents 0 U.m fun k _ hk=> ?_;have hk':k<ops.size:=by omega
        show (Xt ents k && L' k)=(B k||k==j);rw[hBL k hk',hL'];by_cases hkj:k=j
        .subst hkj;simp[hefj,hef]
        .simp[hkj]
       |false=>
        rw[hef] at hm';simp only[B5,if_false] at hm';rw[<-hm',<-hm];refine J7 ents 0 U.m fun k _ hk=> ?_;show (Xt ents k && L' k)=(Xt ents k && L k);rw[hL'];by_cases hkj:k=j
        .subst hkj;simp[hefj,hef]
        .simp[hkj]
      .cases hmm
     obtain⟨m',hm1,hm2⟩:=hmm';refine⟨m',hm1,β',hv',O',?_⟩;have:=hr2.eqm (m':=m') (n:=0) (fun s=>by rw[Dx1];exact Fq8 hm2 s);rw[<-e4] at this;exact this
   .cases hcU
def z0 (hC:Contract P sig fn) {own:List Nat} {rid:Nat} {Q:Exit->Act->World->Prop} {U σ':St} {a:Act} {w:World} {η1 η2 I:List PV} {ws:List W} (h:gn w0 Oe J U a.tmps w)
  (hx:Fx1 P sig own ops rid U=some (ws,σ')) (hw:Fz fn η1 ws=some η2) (hη:J=η2++I) (hn:η1.length=U.n) (hQ:∀a' w',a'.defers=a.defers->gn w0 Oe J σ' a'.tmps w'->Q .normal a' w'):
  (Code.region rid ops true).wp P Q a w∧η2.length=σ'.n:=by
 unfold Fx1 at hx;split at hx
 .rename_i hc;simp only[Bt] at hc;split at hx
  .rename_i σ1 _;simp only at hx;split at hx
   .rename_i ents σ2 htr;split at hx
    .rename_i hchk;simp only[Bn,B4] at hx;obtain⟨rfl,rfl⟩:=hx;obtain⟨h1,h2,h3,h4⟩:=Bf7 (fn:=fn) (J:=J) (ops:=ops) ops.toList 0 _ ents σ2 η1 η2 I htr hw hη hn;have hl:ents.length=ops.size:=by rw[h1];simp
     refine⟨wp_region_any hc.2 ?_,h2⟩;obtain⟨K,hv,O,hrel⟩:=h;obtain⟨O',hfrz,_⟩:=hrel.frz (Vs σ1.m) (n:=U.n);have hrel2:=hfrz.below (w':=w.drew) ((Blw.refl _ _).drew);rw[hl] at h4;refine Gw5 (w0:=w0) (Oe:=Oe) (J:=J) hC (ds:=a.defers) hc.1 hl (fun k e he=> ?_) h4 hchk (fun a' w' hd hr=>hQ a' w' hd ?_) ops.size (Array.replicate ops.size false) a _ (by simp) ?_ ?_ rfl ?_
     .obtain⟨q1,q2,q3⟩:=h3 k e he;exact⟨by simpa using q1,q2,q3⟩
     .obtain⟨β',hv',O',r⟩:=hr;exact⟨β',hv',O',r.setN σ2.n⟩
     .have:∀(L:Nat->Bool) k,cnt L k<=k:=by
       intro L k
       induction k with
       |zero=>exact B7 _
       |succ k ih=>simp only[cnt];split<;>omega
      exact this _ _
     .intro j o ho hl;have hj:=(El.1 ho).1;simp[hj] at hl
     .have hno:∀i,i<ops.size->(Array.replicate ops.size false).getD i false=false:=fun i hi=>by simp[hi]
      have c1:=Fl8 (V:=Vof ents) (t0:=U.t) (L:=fun i=>(Array.replicate ops.size false).getD i false) hno;refine⟨Mn (Vs σ1.m) U.m,?_,K,hv,O',?_⟩
      .rw[J7 (B':=fun _=>false) ents 0 _ (fun k _ hk=>by rw[hno k (by omega),Bool.and_false])];have:∀(l:List Ent) (i:Nat) (m:List (Nat×Blk)),qf P sig own ops rid (fun _=>false) l i m=some m:=by
        intro l
        induction l with
        |nil=>intro i m;rfl
        |cons x l ih=>intro i m;simp only[qf,B5,if_false];exact ih _ _
       exact this _ _ _
      .rw[c1 _ (B7 _)];exact hrel2.setN 0
    .cases hx
   .cases hx
  .cases hx
 .cases hx
end
def Hm2 {J:List PV} {es:List E} {vs:List PV} (h:E.evs J es=some vs) {j:Nat} {e:E} (he:es[j]? =some e):∃p,vs[j]? =some p∧e.ev J=some p:=(Sz h).2 j e he
section
variable {J I vs:List PV} {es:List E} {n:Nat}
def Vv (hvs:E.evs (J++I) es=some vs) (hn:J.length=n) {x y:E} (h:Em9 es n x y=true) {p:PV} (hp:x.ev (J++I)=some p):y.ev (J++vs)=some p:=by
 have hh:∀k,k<n->(J++I)[k]? =(J++vs)[k]? :=fun k hk=>by rw[Cm (by omega),Cm (by omega)]
 unfold Em9 at h;split at h
 .rename_i k;split at h
  .rename_i hk;split at h
   .rename_i e he;have:=E.same_eq _ _ h;subst this;obtain⟨q,hq,hq2⟩:=Hm2 hvs he;rw[hp] at hq2;injection hq2 with hq2;subst hq2;simp only[E.ev];rw[Cf (by omega),hn];exact hq
   .cases h
  .rename_i hk;have:=E.same_eq _ _ h;subst this;rw[<-E.ev_scp hh _ (by simp only[E.scp,decide_eq_true_eq];omega)];exact hp
 .simp only[Bt] at h;have:=E.same_eq _ _ h.1;subst this;rw[<-E.ev_scp hh _ h.2];exact hp
structure Mv (C C':Cx) (n:Nat) (R:List (Nat×SV)):Prop where
 ev:∀x:E,x.scp n=true->x.ev C'.J=x.ev C.J
 M:C.M.Le C'.M
 at_:∀s,Iv R s=none->C'.K s=C.K s∧C'.hv s=C.hv s
 arr:∀s e sz x ro xs,Iv R s=none->Ez9 C'.m s=true->mget C.m s=some (.arr e sz x ro)->x.ev C.J=some (.l sz xs)->∃e' x' ro',mget C'.m s=some (.arr e' sz x' ro')∧x'.ev C'.J=some (.l sz xs)
mutual
def Cw.mv {C C':Cx} {n:Nat} {R:List (Nat×SV)} (h:Mv C C' n R):∀(x:SV) (v:Value),x.scp n=true->x.okM C'.m R=true->Cw C x v->Cw C' x v
 | .e x,v,hs,hk,hr=>by simp only[Cw,SV.scp] at hs hr ⊢;obtain⟨p,h1,h2⟩:=hr;exact⟨p,by rw[h.ev _ hs];exact h1,h2.mono h.M⟩
 | .nil _,v,hs,hk,hr=>by simpa only[Cw] using hr
 | .lit sz x,v,hs,hk,hr=>by simp only[Cw,SV.scp] at hs hr ⊢;obtain⟨xs,a,h1,h2,h3⟩:=hr;exact⟨xs,a,by rw[h.ev _ hs];exact h1,h2,h3.mono h.M⟩
 | .may g x,v,hs,hk,hr=>by simp only[Cw,SV.scp,SV.okM,Bt] at hs hk hr ⊢;obtain⟨b,h1,h2,h3⟩:=hr;exact⟨b,by rw[h.ev _ hs.1];exact h1,fun hb=>Cw.mv h x v hs.2 hk (h2 hb),h3⟩
 | .und,v,hs,hk,hr=>by simp only[Cw]
 | .bp s off,v,hs,hk,hr=>by simp only[Cw,SV.okM,D5] at hk hr ⊢;rw[(h.at_ s hk).1];exact hr
 | .ip x off,v,hs,hk,hr=>by simp only[Cw,SV.scp] at hs hr ⊢;obtain⟨p,h1,h2⟩:=hr;exact⟨p,by rw[h.ev _ hs];exact h1,h2.mono h.M⟩
 | .ap s i off,v,hs,hk,hr=>by simp only[Cw,SV.scp,SV.okM,Bt,D5] at hs hk hr ⊢;obtain⟨hn,e,sz,x,ro,xs,k,iv,h1,h2,h3,h4,h5,h6⟩:=hr;obtain⟨e',x',ro',g1,g2⟩:=h.arr s e sz x ro xs hk.1 hk.2 h1 h2;exact⟨hn,e',sz,x',ro',xs,k,iv,g1,g2,by rw[h.ev _ hs];exact h3,h4,h5,by rw[(h.at_ s hk.1).1];exact h6⟩
 | .suf s i,v,hs,hk,hr=>by simp only[Cw,SV.scp,SV.okM,Bt,D5] at hs hk hr ⊢;obtain⟨hn,e,sz,x,ro,xs,k,iv,h1,h2,h3,h4,h5,h6⟩:=hr;obtain⟨e',x',ro',g1,g2⟩:=h.arr s e sz x ro xs hk.1 hk.2 h1 h2;exact⟨hn,e',sz,x',ro',xs,k,iv,g1,g2,by rw[h.ev _ hs];exact h3,h4,h5,by rw[(h.at_ s hk.1).2];exact h6⟩
 | .h s,v,hs,hk,hr=>by simp only[Cw,SV.okM,D5] at hk hr ⊢;rw[(h.at_ s hk).2];exact hr
 | .mh s,v,hs,hk,hr=>by simp only[Cw,SV.okM,D5] at hk hr ⊢;rw[(h.at_ s hk).1];exact hr
 | .slf s T,v,hs,hk,hr=>by simp only[Cw,SV.okM,D5] at hk hr ⊢;rw[(h.at_ s hk).1];exact hr
 | .nilq x,v,hs,hk,hr=>by simp only[Cw,SV.scp] at hs hr ⊢;obtain⟨sz,xs,b,h1,h2,h3⟩:=hr;exact⟨sz,xs,b,by rw[h.ev _ hs];exact h1,h2,h3⟩
 | .tup xs,v,hs,hk,hr=>by simp only[Cw,SV.scp,SV.okM] at hs hk hr ⊢;obtain⟨us,h1,h2⟩:=hr;exact⟨us,h1,Cd.mv h xs _ hs hk h2⟩
 | .ag xs,v,hs,hk,hr=>by simp only[Cw,SV.scp,SV.okM] at hs hk hr ⊢;obtain⟨us,h1,h2,h3⟩:=hr;exact⟨us,h1,h2,Cd.mv h xs _ hs hk h3⟩
 | .clo g xs,v,hs,hk,hr=>by simp only[Cw,SV.scp,SV.okM] at hs hk hr ⊢;obtain⟨us,h1,h2⟩:=hr;exact⟨us,h1,Cd.mv h xs _ hs hk h2⟩
def Cd.mv {C C':Cx} {n:Nat} {R:List (Nat×SV)} (h:Mv C C' n R):∀(xs:List SV) (us:List Value),SV.scps n xs=true->SV.okMs C'.m R xs=true->Cd C xs us->Cd C' xs us
 |[],us,hs,hk,hr=>by simpa only[Cd] using hr
 |x::xs,us,hs,hk,hr=>by simp only[Cd,SV.scps,SV.okMs,Bt] at hs hk hr ⊢;obtain⟨v,r,rfl,h1,h2⟩:=hr;exact⟨v,r,rfl,Cw.mv h x v hs.1 hk.1 h1,Cd.mv h xs r hs.2 hk.2 h2⟩
end
def Dp5 {C C':Cx} {R:List (Nat×SV)} (hvs:E.evs (J++I) es=some vs) (hn:J.length=n) (hC:C.J=J++I) (hC':C'.J=J++vs) (hm:Mv C C' n R)
  (hR:∀s s',Iv R s=some (.h s')->C'.hv s=C.hv s') (hR2:∀s z,Iv R s=some (.nil z)->C'.hv s= .slice none 0 0) {x y:SV} (h:An7 es n C'.m R x y=true) {v:Value} (hr:Cw C x v):Cw C' y v:=by
 unfold An7 at h;split at h
 .simp only[Cw]
 .rename_i y;split at h
  .rename_i e he;obtain⟨p,hp,hpr⟩:=SV.asE_ok he hr;simp only[Cw];rw[hC] at hp;exact⟨p,by rw[hC'];exact Vv hvs hn h hp,hpr.mono hm.M⟩
  .cases h
 .rename_i s;simp only[Cw];split at h
  .rename_i s' hl;split at h
   .simp only[beq_iff_eq] at h;subst h;simp only[Cw] at hr;rw[hR s _ hl];exact hr
   .cases h
  .rename_i z hl;split at h
   .simp only[Cw] at hr;rw[hR2 s _ hl];exact hr
   .cases h
  .cases h
  .rename_i hl;split at h
   .simp only[beq_iff_eq] at h;subst h;simp only[Cw] at hr;rw[(hm.at_ _ hl).2];exact hr
   .cases h
 .simp only[Bt] at h;have:=SV.same_eq _ _ h.1.1;subst this;exact Cw.mv hm _ _ h.1.2 h.2 hr
def Vq {C C':Cx} {R:List (Nat×SV)} (hvs:E.evs (J++I) es=some vs) (hn:J.length=n) (hC:C.J=J++I) (hC':C'.J=J++vs) (hm:Mv C C' n R)
  (hR:∀s s',Iv R s=some (.h s')->C'.hv s=C.hv s') (hR2:∀s z,Iv R s=some (.nil z)->C'.hv s= .slice none 0 0):∀{xs ys:List SV},K5 es n C'.m R xs ys=true->∀{us:List Value},Cd C xs us->Cd C' ys us
 |[],[],_,us,hr=>by simpa only[Cd] using hr
 |x::xs,y::ys,h,us,hr=>by simp only[K5,Bt] at h;simp only[Cd] at hr ⊢;obtain⟨v,r,rfl,h1,h2⟩:=hr;exact⟨v,r,rfl,Dp5 hvs hn hC hC' hm hR hR2 h.1 h1,Vq hvs hn hC hC' hm hR hR2 h.2 h2⟩
 |[],_::_,h,_,_=>by simp[K5] at h
 |_::_,[],h,_,_=>by simp[K5] at h
end
def Oy {R:List (Nat×SV)} {s s':Nat} (h:Iv R s=some (.h s')):s'∈Bq8 R:=by
 induction R with
 |nil=>simp[Iv] at h
 |cons p R ih=>
  obtain⟨k,x⟩:=p;simp only[Iv] at h;split at h
  .injection h with h;subst h;simp[Bq8]
  .have:=ih h;cases x<;>simp[Bq8,this]
def Bj7 {R:List (Nat×SV)} (hg:lh (Bq8 R)=true) {s1 s2 s':Nat} (h1:Iv R s1=some (.h s')) (h2:Iv R s2=some (.h s')):s1=s2:=by
 induction R with
 |nil=>simp[Iv] at h1
 |cons p R ih=>
  obtain⟨k,x⟩:=p;simp only[Iv] at h1 h2;have hg':lh (Bq8 R)=true:=by cases x<;>simp only[Bq8,lh,Bt] at hg<;>first|exact hg|exact hg.2
  by_cases hk1:k=s1
  .by_cases hk2:k=s2
   .rw[<-hk1,<-hk2]
   .rw[if_pos hk1] at h1;rw[if_neg hk2] at h2;injection h1 with h1;subst h1;simp only[Bq8,lh,Bt,Dp,List.contains_eq_mem,decide_eq_false_iff_not] at hg;exact absurd (Oy h2) hg.1
  .rw[if_neg hk1] at h1;by_cases hk2:k=s2
   .rw[if_pos hk2] at h2;injection h2 with h2;subst h2;simp only[Bq8,lh,Bt,Dp,List.contains_eq_mem,decide_eq_false_iff_not] at hg;exact absurd (Oy h1) hg.1
   .rw[if_neg hk2] at h2;exact ih hg' h1 h2
section
variable {w0:Fr} {Oe:Nat->Option Nat} {J I vs:List PV} {es:List E} {n:Nat} {σ' σh:St} {tm:Array Value} {w:World} {K:Nat->Nat} {hv:Nat->Value} {O:Nat->Option Nat}
def R8 (R:List (Nat×SV)) (K:Nat->Nat) (s:Nat):Nat:=match Iv R s with|some (.h s')=>K s'|some _=>0|none=>K s
def X2 (R:List (Nat×SV)) (hv:Nat->Value) (s:Nat):Value:=match Iv R s with|some (.h s')=>hv s'|some _=> .slice none 0 0|none=>hv s
def Fm1 {es:List E} {n s' T':Nat} {m:List (Nat×Blk)} {R:List (Nat×SV)} {xs ys:List SV} (h:K5 es n m R xs ys=true) (hy:ys[0]? =some (.slf s' T')):xs[0]? =some (.slf s' T'):=by
 cases ys with
 |nil=>simp at hy
 |cons y ys=>
  simp only[D7,Bn] at hy;subst hy;cases xs with
  |nil=>simp[K5] at h
  |cons x xs=>
   simp only[K5,An7,Bt] at h;rw[SV.same_eq _ _ h.1.1.1];rfl
def Y7 {m:List (Nat×Blk)} {R:List (Nat×SV)}:∀{xs ys:List SV},K5 es n m R xs ys=true->∀{j:Nat} {y:SV},ys[j]? =some y->∃x,xs[j]? =some x∧An7 es n m R x y=true
 |[],[],_,j,y,hy=>by simp at hy
 |x::xs,y::ys,h,j,z,hz=>by
  simp only[K5,Bt] at h;cases j with
  |zero=>simp at hz;subst hz;exact⟨x,rfl,h.1⟩
  |succ j=>simpa using Y7 h.2 (j:=j) (by simpa using hz)
 |[],_::_,h,_,_,_=>by simp[K5] at h
 |_::_,[],h,_,_,_=>by simp[K5] at h
def Z1 {k:Nat}:∀{R:List (Nat×SV)},(R.map (·.1)).contains k=false->Iv R k=none
 |[],_=>rfl
 |(a,x)::R,h=>by simp only[G2,List.contains_cons,Bb1,beq_eq_false_iff_ne,ne_eq] at h;simp only[Iv];rw[if_neg (fun e=>h.1 e.symm)];exact Z1 h.2
def Hr.nil {C:Cx} {sz:Nat} {vs:List Value}:∀{lk:Option (Nat×Option (Option Nat))},Hr C sz 0 vs lk
 |none=>trivial
 |some (_,none)=>trivial
 |some (_,some _)=>fun h=>absurd h (Nat.lt_irrefl 0)
def Dp6 {C C':Cx} {R:List (Nat×SV)} {sz k:Nat} {us:List Value} {l:Option (Nat×Option (Option Nat))} (h1:∀s s',Iv R s=some (.h s')->C'.hv s=C.hv s') (h2:∀s z,Iv R s=some (.nil z)->C'.hv s= .slice none 0 0)
  (h3:∀s,Iv R s=none->C'.hv s=C.hv s) (hl:Hr C sz k us l):∀{l'},An8 R l l'=true->Hr C' sz k us l'
 |none,_=>trivial
 |some (_,none),_=>trivial
 |some (off,some none),h=>by simp only[An8,beq_iff_eq] at h;subst h;exact hl
 |some (off,some (some s)),h=>by
  simp only[An8] at h;split at h
  .rename_i s' hs;simp only[beq_iff_eq] at h;subst h;simp only[Hr] at hl ⊢;rw[h1 s s' hs];exact hl
  .rename_i z hs;simp only[beq_iff_eq] at h;subst h;simp only[Hr] at hl ⊢;rw[h2 s z hs];exact hl
  .cases h
  .rename_i hs;simp only[beq_iff_eq] at h;subst h;simp only[Hr] at hl ⊢;rw[h3 s hs];exact hl
def Xg {p:Pat} (h:Tz σ' σh n p=some es) (hvs:E.evs (J++I) es=some vs) (hn:J.length=n) (hr:gn w0 Oe (J++I) σ' tm w):gn w0 Oe (J++vs) σh tm w∧(J++vs).length=σh.n:=by
 unfold Tz at h;split at h
 .rename_i es' _;dsimp only at h;split at h
  .rename_i hc;injection h with h;subst h;simp only[Bt,beq_iff_eq,Ds,Dp] at hc;obtain⟨⟨⟨⟨⟨hT,hM⟩,hg⟩,_⟩,hS0⟩,hN⟩:=hc;generalize rens σ' p.items=R at hT hM hg hS0;obtain⟨K,hv,O,rel⟩:=hr;let C:Cx:=⟨J++I,C5 w O,K,hv,σ'.m⟩;let C':Cx:=⟨J++vs,C5 w O,R8 R K,X2 R hv,σh.m⟩;have hh:∀k,k<n->(J++vs)[k]? =(J++I)[k]? :=fun k hk=>by rw[Cm (by omega),Cm (by omega)]
   have hblk:∀s b,mget σh.m s=some b->j5 es' n σh.m R σ'.m s=true:=fun s b hb=>hM (s,b) (Ex8 hb);have hmv:Mv C C' n R:=by
    refine⟨fun x hx=>E.ev_scp hh x hx,Vw.Le.refl _,fun s hs=>⟨by simp only[C',C,R8,hs],by simp only[C',C,X2,hs]⟩,fun s e sz x ro xs hs ha hx hx2=> ?_⟩;have ha':Ez9 σh.m s=true:=ha;unfold Ez9 at ha';split at ha'
    .rename_i e' sz' y ro' hb;have hx':mget σ'.m s=some (.arr e sz x ro):=hx;have:=hblk s _ hb;unfold j5 at this;rw[hs,hx',hb] at this;simp only[Bt,beq_iff_eq] at this;obtain⟨_,⟨⟨⟨h1,h2⟩,_⟩,h3⟩,h4⟩:=this;subst h2;exact⟨e',y,ro',hb,Vv hvs hn h4 hx2⟩
    .cases ha'
   have hR1:∀s s',Iv R s=some (.h s')->C'.hv s=C.hv s':=fun s s' hl=>by simp only[C',C,X2,hl]
   have hR2:∀s z,Iv R s=some (.nil z)->C'.hv s= .slice none 0 0:=fun s z hl=>by simp only[C',X2,hl]
   have from_:∀s b,mget σh.m s=some b->Has C' s b->∃s0 b0,mget σ'.m s0=some b0∧Has C s0 b0∧R8 R K s=K s0∧((Iv R s=some (.h s0))∨(Iv R s=none∧s0=s∧s∉Bq8 R)):=by
    intro s b hb hhas;have:=hblk s b hb;unfold j5 at this;split at this
    .rename_i s' hl;split at this
     .rename_i e sz x ro e' sz' y ro' h1 h2;rw[hb] at h2;injection h2 with h2;subst h2;have hhas':Dd (X2 R hv s)=some (R8 R K s):=hhas;simp only[X2,R8,hl] at hhas';exact⟨s',_,h1,hhas',by simp only[R8,hl],.inl hl⟩
     .cases this
    .rename_i z hl;split at this
     .rename_i e sz y ro h2;rw[hb] at h2;injection h2 with h2;subst h2;have hhas':Dd (X2 R hv s)=some (R8 R K s):=hhas;simp only[X2,hl,Dd] at hhas';cases hhas'
     .cases this
    .cases this
    .rename_i hl;simp only[Bt,Dp,List.contains_eq_mem,decide_eq_false_iff_not] at this;obtain⟨hgs,this⟩:=this;split at this
     .rename_i xs ro ys ro' h1 h2;exact⟨s,_,h1,trivial,by simp only[R8,hl],.inr ⟨hl,rfl,hgs⟩⟩
     .rename_i e sz x ro e' sz' y ro' h1 h2;rw[hb] at h2;injection h2 with h2;subst h2;have hhas':Dd (X2 R hv s)=some (R8 R K s):=hhas;simp only[X2,R8,hl] at hhas';exact⟨s,_,h1,hhas',by simp only[R8,hl],.inr ⟨hl,rfl,hgs⟩⟩
     .rename_i x ro y ro' h1 h2;exact⟨s,_,h1,trivial,by simp only[R8,hl],.inr ⟨hl,rfl,hgs⟩⟩
     .cases this
   have evs_len:vs.length=es'.length:=(Sz hvs).1;refine⟨⟨R8 R K,X2 R hv,O,rel.bel,rel.ext,rel.out,Vq hvs hn rfl rfl hmv hR1 hR2 hT rel.tmps,fun s b hb=> ?_,fun s1 s2 b1 b2 h1 h2 h12 k1 k2=> ?_,fun v hv0 ht=> ?_⟩,by rw[Bp,hn,evs_len,hN]⟩
   .have:=hblk s b hb;unfold j5 at this;have copy:∀s' e sz x ro ro' y,mget σ'.m s'=some (.arr e sz x ro)->Em9 es' n x y=true->(ro'.b=true∨ro.b=false)->An8 R ro.lk ro'.lk=true->R8 R K s=K s'->X2 R hv s=hv s'->Lm C' w O w0.ok s (.arr e sz y ro'):=by
     intro s' e sz x ro ro' y h1 h2 hro hlk h3 h4;obtain⟨q0,xs,us,q1,q2,q3,q4,qlk⟩:=rel.mem s' _ h1;refine⟨q0,xs,us,Vv hvs hn h2 q1,?_,q3,?_,Dp6 (C:=C) hR1 hR2 (fun s hs=>by simp only[C',C,X2,hs]) qlk hlk⟩
     .show Own w w0.ok e sz (X2 R hv s) xs.length us;rw[h4];exact q2
     .intro g hg';have hg2:Dd (X2 R hv s)=some g:=hg';rw[h4] at hg2;obtain⟨q5,q6⟩:=q4 g hg2;obtain⟨lim,q6,q7,q8⟩:=q6;exact⟨by show g=R8 R K s;rw[h3];exact q5,lim,q6,q7,fun hb=>q8 (hro.resolve_left (by simp[hb]))⟩
    split at this
    .rename_i s' hl;split at this
     .rename_i e sz x ro e' sz' y ro' h1 h2;rw[hb] at h2;injection h2 with h2;subst h2;simp only[Bt,beq_iff_eq,Cz,Dp] at this;obtain⟨⟨⟨⟨rfl,rfl⟩,hro⟩,hlk⟩,h3⟩:=this;exact copy s' e sz x ro ro' y h1 h3 hro hlk (by simp only[R8,hl]) (by simp only[X2,hl])
     .cases this
    .rename_i z hl;split at this
     .rename_i e sz y ro h2;rw[hb] at h2;injection h2 with h2;subst h2;simp only[Bt,decide_eq_true_eq] at this;refine⟨this.1,[],[],Vv (p:= .l sz []) hvs hn this.2 rfl,?_,fun i x hx=>by simp at hx,fun g hg'=> ?_,Hr.nil⟩
      .show Own w w0.ok e sz (X2 R hv s) 0 [];simp only[X2,hl];exact⟨by simp,.inl ⟨none,rfl,rfl⟩⟩
      .have hg2:Dd (X2 R hv s)=some g:=hg';simp only[X2,hl,Dd] at hg2;cases hg2
     .cases this
    .cases this
    .rename_i hl;simp only[Bt] at this;obtain⟨_,this⟩:=this;split at this
     .rename_i xs ro ys ro' h1 h2;rw[hb] at h2;injection h2 with h2;subst h2;simp only[Bt,beq_iff_eq] at this;obtain⟨rfl,h3⟩:=this;obtain⟨q1,q2,us,T,q3,q4,q5,q6⟩:=rel.mem s _ h1;have hβ:R8 R K s=K s:=by simp only[R8,hl]
      refine⟨by show w0.ok (R8 R K s);rw[hβ];exact q1,fun hro=>by show O (R8 R K s)=_;rw[hβ];exact q2 hro,us,T,by show w.heap[R8 R K s]? =_;rw[hβ];exact q3,q4,?_,fun s' T' hh=>q6 s' T' (Fm1 h3 hh)⟩;exact Vq hvs hn rfl rfl hmv hR1 hR2 h3 q5
     .rename_i e sz x ro e' sz' y ro' h1 h2;rw[hb] at h2;injection h2 with h2;subst h2;simp only[Bt,beq_iff_eq,Cz,Dp] at this;obtain⟨⟨⟨⟨rfl,rfl⟩,hro⟩,hlk⟩,h3⟩:=this;exact copy s e sz x ro ro' y h1 h3 hro hlk (by simp only[R8,hl]) (by simp only[X2,hl])
     .rename_i x ro y ro' h1 h2;rw[hb] at h2;injection h2 with h2;subst h2;simp only[Bt,beq_iff_eq] at this;obtain⟨rfl,h3⟩:=this;obtain⟨q1,q2,qs,ents,clock,q3,q4,q5⟩:=rel.mem s _ h1;have hβ:R8 R K s=K s:=by simp only[R8,hl]
      exact⟨by show w0.ok (R8 R K s);rw[hβ];exact q1,fun hro=>by show O (R8 R K s)=_;rw[hβ];exact q2 hro,qs,ents,clock,Vv hvs hn h3 q3,by show w.heap[R8 R K s]? =_;rw[hβ];exact q4,q5⟩
     .cases this
   .obtain⟨s1',c1,m1,p1,q1,r1⟩:=from_ s1 b1 h1 k1;obtain⟨s2',c2,m2,p2,q2,r2⟩:=from_ s2 b2 h2 k2;rw[q1,q2];refine rel.inj s1' s2' c1 c2 m1 m2 (fun he=> ?_) p1 p2;subst he;rcases r1 with r1|⟨_,r1,r1'⟩<;>rcases r2 with r2|⟨_,r2,r2'⟩
    .exact h12 (Bj7 hg r1 r2)
    .exact r2' (by rw[<-r2];exact Oy r1)
    .exact r1' (by rw[<-r1];exact Oy r2)
    .exact h12 (by rw[<-r1,<-r2])
   .obtain⟨x,hx,hs⟩:=Y7 hT ht;have hno:Iv R S0=none:=Z1 hS0;simp only[An7,hno] at hs;split at hs
    .rename_i s';simp only[beq_iff_eq] at hs;subst hs;exact rel.t0 v hv0 hx
    .cases hs
  .cases h
 .cases h
end
def Jc {fn:Fns} {N id:Nat}:∀(t:T) (J:List PV) (vs:List PV),t.yields id=false->t.ev fn N J=some (.yld id vs)->False
 | .w x k,J,vs,h,he=>by simp only[T.ev,Bl] at he;obtain⟨η',_,he⟩:=he;exact Jc k η' vs h he
 | .ite c t e,J,vs,h,he=>by
   simp only[T.yields,Bb1] at h;simp only[T.ev,Bl] at he;obtain⟨r,_,he⟩:=he;split at he
   .exact Jc t J vs h.1 he
   .exact Jc e J vs h.2 he
   .cases he
 | .ret es,J,vs,h,he=>by simp only[T.ev,Bs] at he;obtain⟨_,_,he⟩:=he;cases he
 | .yld j es,J,vs,h,he=>by simp only[T.ev,Bs] at he;obtain⟨_,_,he⟩:=he;injection he with h1 h2;simp only[T.yields,beq_eq_false_iff_ne,ne_eq] at h;exact h h1
 | .blk j b k,J,vs,h,he=>by
   simp only[T.yields,Bb1] at h;simp only[T.ev,Bl] at he;obtain⟨o,ho,he⟩:=he;split at he
   .rename_i j' us;split at he
    .exact Jc k _ vs h.2 he
    .injection he with he;injection he with h1 h2;subst h1;exact Jc b J us h.1 ho
   .cases he
 | .loop j es b,J,vs,h,he=>by
   simp only[T.ev,Bl] at he;obtain⟨st,_,he⟩:=he;have key:∀m st,H4 (fun vs=>b.ev fn N (J++vs)) j m st=some (.yld id vs)->False:=by
    intro m
    induction m with
    |zero=>intro st h;simp[H4] at h
    |succ m ih=>
     intro st hr;simp only[H4,Bl] at hr;obtain⟨o,ho,hr⟩:=hr;split at hr
     .rename_i j' us;split at hr
      .exact ih _ hr
      .injection hr with hr;injection hr with h1 h2;subst h1;exact Jc b _ us h ho
     .cases hr
   exact key N st he
def Ak1 {fn:Fns} {N:Nat} {J:List PV} {o:Out}:∀{t:T},t.ev fn N J=some o->t.strip.ev fn N J=some o
 | .w (.chk x) k,h=>by simp only[T.ev,W.ev,Bl,Bs] at h;obtain⟨η',⟨_,_,rfl⟩,h⟩:=h;simp only[T.strip];exact Ak1 h
 | .w (.call ..) k,h| .w (.clo ..) k,h| .w (.mcall ..) k,h| .ite ..,h| .ret ..,h| .yld ..,h| .blk ..,h| .loop ..,h=>h
def Eq4 {fn:Fns} {N:Nat} {J:List PV} {o:Out} {ex:E} {ta tb:T} {sz:Nat} (h:Fs1 ex ta tb=true) (hex:ex.ev J=some (.l sz [])) (hb:tb.ev fn N J=some o):ta.ev fn N J=some o:=by
 have hb':=Ak1 hb;unfold Fs1 at h;split at h
 .rename_i sz1 s1 s2 y heq;simp only[Bt,beq_iff_eq] at h;obtain⟨⟨rfl,rfl⟩,h3⟩:=h;have:=E.same_eq _ _ h3;subst this;rw[heq] at hb';simp only[T.ev,E.evs,E.ev,hex,B0,Jm] at hb';split at hb'
  .rename_i hc;obtain⟨_,rfl,_⟩:=hc;simpa [T.ev,E.evs,E.ev] using hb'
  .simp at hb'
 .cases h
def Zf {id:Nat} {r:Option T} {t:T} (h:lm id r=some t):r=some t∧t.yields id=false:=by
 unfold lm at h;obtain⟨u,h1,h2⟩:=Bl.1 h;split at h2
 .cases h2
 .rename_i hy;injection h2 with h2;subst h2;exact⟨h1,by simpa using hy⟩
def Bf0 {P:Program} {Q:Exit->Act->World->Prop} {a:Act} {w:World} {c:Code} {n:Nat} (Bd:Nat->Act->World->Prop) (h₀:Bd n a w)
  (round:∀n a w,Bd n a w->c.wp P (Exit.then (fun a' w'=>∃m,m<n∧Bd m a' w') Q) a w):(Code.loop c).wp P Q a w:=by
 intro b k cs;have key:∀n a w,Bd n a w->∃e a' w',Q e a' w'∧Arrives P (lone (b.at a (.code c:: .inLoop c::k)) cs w) b k cs e a' w':=by
  intro n
  induction n using Nat.strongRecOn with
  |_ n ih=>
   intro a w hI;obtain⟨e,a₁,w₁,hq,harr⟩:=round n a w hI b (.inLoop c::k) cs;cases e with
   |normal=>
    obtain⟨m,hlt,hI₁⟩:=hq;obtain⟨e₂,a₂,w₂,hq₂,harr₂⟩:=ih m hlt a₁ w₁ hI₁;exact⟨e₂,a₂,w₂,hq₂,.of_steps (Steps.trans harr (.one step_inLoop)) harr₂⟩
   |exit id=>exact⟨_,a₁,w₁,hq,.pass (x:= .inLoop c) rfl (fun _ _=> .inl (by simp)) harr⟩
   |goto l=>exact⟨_,a₁,w₁,hq,.pass (x:= .inLoop c) rfl (fun _ _=> .inl (by simp)) harr⟩
   |ret=>exact⟨_,a₁,w₁,hq,.pass (x:= .inLoop c) rfl (fun _ _=> .inl (by simp)) harr⟩
   |panic ch=>exact⟨_,a₁,w₁,hq,.pass (x:= .inLoop c) rfl (fun _ _=> .inl (by simp)) harr⟩
   |outgrown=>exact⟨_,a₁,w₁,hq,.pass (x:= .inLoop c) rfl (fun _ _=> .inl (by simp)) harr⟩
 obtain⟨e,a',w',hq,harr⟩:=key n a w h₀;exact⟨e,a',w',hq,.of_steps (.one step_loop) harr⟩
def SX.exit':SX->Exit
 | .normal=> .normal
 | .exit b=> .exit b
 | .ret=> .ret
section
variable {P:Program} {sig:Nat->Option Nat} {fn:Fns} {w0:Fr} {Oe:Nat->Option Nat} {N:Nat}
def KOk (fn:Fns) (N:Nat) (w0:Fr) (Oe:Nat->Option Nat) (k:Bg) (J:List PV) (o:Out) (ds:List Deferred) (Q:Exit->Act->World->Prop):Prop:=
 ∀x σ' T' η' I a' w',k x σ'=some T'->T'.ev fn N η'=some o->η'=J++I->η'.length=σ'.n->gn w0 Oe η' σ' a'.tmps w'->a'.defers=ds->Q x.exit' a' w'
def KOk.ext {k:Bg} {J I:List PV} {o:Out} {ds:List Deferred} {Q:Exit->Act->World->Prop} (h:KOk fn N w0 Oe k J o ds Q):KOk fn N w0 Oe k (J++I) o ds Q:=
 fun x σ' T' η' ζ' a' w' h1 h2 h3 h4 h5 h6=>h x σ' T' η' (I++ζ') a' w' h1 h2 (by rw[h3,Cy]) h4 h5 h6
def gn.env {J:List PV} {U:St} {tm:Array Value} {w:World} (h:gn w0 Oe J U tm w) (I:List PV):gn w0 Oe (J++I) U tm w:=by obtain⟨K,hv,O,h⟩:=h;exact⟨K,hv,O,h.env I⟩
def Fw6 {p:Pat} {U σh:St} {k:Bg} {J:List PV} {o:Out} {ds:List Deferred} {Q:Exit->Act->World->Prop} {d:Nat} {body tk:T} (hev:(T.blk d body tk).ev fn N J=some o) (hn:J.length=U.n)
  (htk:k .normal σh=some tk) (hk:KOk fn N w0 Oe k J o ds Q):
  ∃o1,body.ev fn N J=some o1∧∀(x:SX) (σ':St) (T':T) (η' I:List PV) (a':Act) (w':World),
   ((∃y,(Tz σ' σh U.n p).map (.yld d)=some T'∧x=y∧y= .normal)∨lm d (k x σ')=some T')->T'.ev fn N η'=some o1->η'=J++I->η'.length=σ'.n->gn w0 Oe η' σ' a'.tmps w'->a'.defers=ds->Q x.exit' a' w':=by
 simp only[T.ev,Bl] at hev;obtain⟨o1,ho1,hev⟩:=hev;refine⟨o1,ho1,fun x σ' T' η' I a' w' h1 h2 h3 h4 h5 h6=> ?_⟩;rcases h1 with⟨y,h1,rfl,rfl⟩|h1
 .obtain⟨es,ha,rfl⟩:=Bs.1 h1;simp only[T.ev,Bs] at h2;obtain⟨vs,hvs,rfl⟩:=h2;simp only[if_true] at hev;subst h3;obtain⟨g1,g2⟩:=Xg ha hvs hn h5;exact hk .normal σh tk (J++vs) vs a' w' htk hev rfl g2 g1 h6
 .obtain⟨h1,hy⟩:=Zf h1;have:o1=o:=by
   split at hev
   .rename_i j vs;split at hev
    .rename_i hj;subst hj;exact(Jc T' η' vs hy h2).elim
    .injection hev
   .injection hev
  subst this;exact hk x σ' T' η' I a' w' h1 h2 h3 h4 h5 h6
def Rp (hC:Contract P sig fn) {H:Hints}:∀(c:Code) (lb d:Nat) (U:St) (k:Bg) (t:T) (J:List PV) (o:Out) (a:Act) (w:World) (Q:Exit->Act->World->Prop),sx P sig H c lb d U k=some t->t.ev fn N J=some o->J.length=U.n->gn w0 Oe J U a.tmps w->
  KOk fn N w0 Oe k J o a.defers Q->c.wp P Q a w
 | .skip,lb,d,U,k,t,J,o,a,w,Q,hs,he,hn,hr,hk=>by simp only[sx] at hs;exact wp_skip (hk .normal U t J [] a w hs he (by simp) hn hr rfl)
 | .exit id,lb,d,U,k,t,J,o,a,w,Q,hs,he,hn,hr,hk=>by simp only[sx] at hs;exact wp_exit (hk (.exit id) U t J [] a w hs he (by simp) hn hr rfl)
 | .ret,lb,d,U,k,t,J,o,a,w,Q,hs,he,hn,hr,hk=>by simp only[sx] at hs;exact wp_ret (hk .ret U t J [] a w hs he (by simp) hn hr rfl)
 | .region id ops draw,lb,d,U,k,t,J,o,a,w,Q,hs,he,hn,hr,hk=>by
   simp only[sx] at hs;split at hs
   .rename_i ws σ' hx;obtain⟨t',hk',rfl⟩:=Bs.1 hs;rw[Aj3] at he;obtain⟨η2,hw,he⟩:=Bl.1 he;obtain⟨I,rfl⟩:=J8 hw;cases draw with
    |true=>
     simp only[if_true] at hx;refine(z0 (w0:=w0) (Oe:=Oe) hC (hr.env I) hx hw (I:=[]) (by simp) hn (Q:=Q) (fun a' w' hd hr'=> ?_)).1;have hlen:=(z0 (w0:=w0) (Oe:=Oe) (a:=a) (w:=w) (Q:=fun _ _ _=>True) hC (hr.env I) hx hw (I:=[]) (by simp) hn (fun _ _ _ _=>trivial)).2;exact hk .normal σ' t' _ I a' w' hk' he rfl hlen hr' hd
    |false=>
     simp only[B5,if_false] at hx;refine wp_region ?_;have:=Bb4 (w0:=w0) (Oe:=Oe) hC (Q:=Q) ops.toList 0 U a w J (J++I) [] ws σ' (fun k o hk=>by simpa using hk) (hr.env I) hx hw (by simp) hn (fun a' w' hd hr'=>hk .normal σ' t' _ I a' w' hk' he rfl (zt _ _ _ _ _ _ _ hx hw hn) hr' hd);rw[List.range_eq_range'];simpa using this
   .split at hs
    .injection hs with hs;subst hs;simp[T.bot,T.ev,E.evs,E.ev,PV.scal] at he
    .cases hs
 | .seq x y,lb,d,U,k,t,J,o,a,w,Q,hs,he,hn,hr,hk=>by
   simp only[sx] at hs;refine wp_seq (Rp hC x lb d U _ t J o a w _ hs he hn hr fun z σ' T' η' I a' w' h1 h2 h3 h4 h5 h6=> ?_);cases z with
   |normal=>
    simp only at h1;show y.wp P Q a' w';refine Rp hC y lb d σ' k T' η' o a' w' Q h1 h2 h4 h5 ?_;rw[h6,h3];exact hk.ext
   |exit b=>exact hk _ σ' T' η' I a' w' h1 h2 h3 h4 h5 h6
   |ret=>exact hk _ σ' T' η' I a' w' h1 h2 h3 h4 h5 h6
 | .cond c x y,lb,d,U,k,t,J,o,a,w,Q,hs,he,hn,hr,hk=>by
   have hbool:∀ec,G8 P U none 0 c=some ec->∀b,ec.ev J=some (.b b)->a.eval c= .bool b:=by intro ec hec b hb;obtain⟨K,hv,O,rel⟩:=hr;obtain⟨p,hp,hpr⟩:=E6 (ds:=a.defers) (C:=⟨J,C5 w O,K,hv,U.m⟩) (G:=none) (fun g hg=>by cases hg) rfl hec rel.tmps;have hp':ec.ev J=some p:=hp;rw[hb] at hp';injection hp' with hp';subst hp';exact hpr.bool
   have plain:∀ec ta tb,G8 P U none 0 c=some ec->∀(k':Bg) (d':Nat) (o':Out),sx P sig H x lb d' U k'=some ta->sx P sig H y lb d' U k'=some tb->(T.ite ec ta tb).ev fn N J=some o'->KOk fn N w0 Oe k' J o' a.defers Q->(Code.cond c x y).wp P Q a w:=by
    intro ec ta tb hec k' d' o' hta htb he' hk';simp only[T.ev,Bl] at he';obtain⟨r,hr',he'⟩:=he';split at he'
    .exact wp_cond_true (hbool ec hec true hr') (Rp hC x lb d' U k' ta J o' a w Q hta he' hn hr hk')
    .exact wp_cond_false (hbool ec hec false hr') (Rp hC y lb d' U k' tb J o' a w Q htb he' hn hr hk')
    .cases he'
   simp only[sx] at hs;split at hs
   .rename_i hec;exact wp_cond_true (hbool _ hec true rfl) (Rp hC x lb d U k t J o a w Q hs he hn hr hk)
   .rename_i hec;exact wp_cond_false (hbool _ hec false rfl) (Rp hC y lb d U k t J o a w Q hs he hn hr hk)
   .rename_i ec _ _ hec;split at hs
    .split at hs
     .rename_i ta tb hta htb;injection hs with hs;subst hs;exact plain ec ta tb hec k d o hta htb he hk
     .cases hs
    .rename_i p _;split at hs
     .cases hs
     .rename_i σh _;split at hs
      .rename_i ta tb tk hta htb htk;injection hs with hs;subst hs;obtain⟨o1,ho1,hgo⟩:=Fw6 (p:=p) he hn htk hk;refine plain ec ta tb hec _ (d+1) o1 hta htb ho1 fun z σ' T' η' I a' w' h1 h2 h3 h4 h5 h6=>hgo z σ' T' η' I a' w' ?_ h2 h3 h4 h5 h6;cases z with
       |normal=>exact .inl ⟨.normal,h1,rfl,rfl⟩
       |exit b=>exact .inr h1
       |ret=>exact .inr h1
      .cases hs
   .split at hs
    .rename_i ex hq;split at hs
     .rename_i ta tb hta htb;split at hs
      .rename_i hnil;injection hs with hs;subst hs;obtain⟨sz,xs,b,hex,hcb,hxs⟩:∃sz xs b,ex.ev J=some (.l sz xs)∧a.eval c= .bool b∧(b=true->xs=[]):=by obtain⟨K,hv,O,rel⟩:=hr;have hr0:=F9 (ds:=a.defers) (C:=⟨J,C5 w O,K,hv,U.m⟩) (G:=none) (fun g hg=>by cases hg) rfl hq rel.tmps;simpa only[Cw] using hr0
       cases b with
       |true=>
        rw[hxs rfl] at hex;exact wp_cond_true hcb (Rp hC x lb d U k ta J o a w Q hta (Eq4 hnil hex he) hn hr hk)
       |false=>exact wp_cond_false hcb (Rp hC y lb d U k _ J o a w Q htb he hn hr hk)
      .cases hs
     .cases hs
    .cases hs
 | .block id c,lb,d,U,k,t,J,o,a,w,Q,hs,he,hn,hr,hk=>by
   simp only[sx] at hs;split at hs
   .refine wp_block (Rp hC c id d U _ t J o a w _ hs he hn hr fun z σ' T' η' I a' w' h1 h2 h3 h4 h5 h6=> ?_);cases z with
    |normal=>exact hk .normal σ' T' η' I a' w' h1 h2 h3 h4 h5 h6
    |exit b=>
     simp only at h1;simp only[SX.exit',Exit.inBlock];by_cases hb:b=id
     .rw[if_pos hb] at h1 ⊢;exact hk .normal σ' T' η' I a' w' h1 h2 h3 h4 h5 h6
     .rw[if_neg hb] at h1 ⊢;exact hk (.exit b) σ' T' η' I a' w' h1 h2 h3 h4 h5 h6
    |ret=>exact hk .ret σ' T' η' I a' w' h1 h2 h3 h4 h5 h6
   .rename_i p _;split at hs
    .cases hs
    .rename_i σh _;split at hs
     .rename_i tc tk htc htk;injection hs with hs;subst hs;obtain⟨o1,ho1,hgo⟩:=Fw6 (p:=p) he hn htk hk;refine wp_block (Rp hC c id (d+1) U _ tc J o1 a w _ htc ho1 hn hr fun z σ' T' η' I a' w' h1 h2 h3 h4 h5 h6=> ?_);cases z with
      |normal=>exact hgo .normal σ' T' η' I a' w' (.inl ⟨.normal,h1,rfl,rfl⟩) h2 h3 h4 h5 h6
      |exit b=>
       simp only at h1;simp only[SX.exit',Exit.inBlock];by_cases hb:b=id
       .rw[if_pos hb] at h1 ⊢;exact hgo .normal σ' T' η' I a' w' (.inl ⟨.normal,h1,rfl,rfl⟩) h2 h3 h4 h5 h6
       .rw[if_neg hb] at h1 ⊢;exact hgo (.exit b) σ' T' η' I a' w' (.inr h1) h2 h3 h4 h5 h6
      |ret=>exact hgo .ret σ' T' η' I a' w' (.inr h1) h2 h3 h4 h5 h6
     .cases hs
 | .loop c,lb,d,U,k,t,J,o,a,w,Q,hs,he,hn,hr,hk=>by
   simp only[sx] at hs;split at hs
   .cases hs
   .rename_i p _;split at hs
    .cases hs
    .rename_i σh _;split at hs
     .rename_i es tb ha htb;injection hs with hs;subst hs;simp only[T.ev,Bl] at he;obtain⟨st,hst,he⟩:=he;have h0:=Xg (J:=J) (I:=[]) (vs:=st) ha (by simpa using hst) hn (by simpa using hr);refine Bf0 (n:=N) (fun m a' w'=>∃st,H4 (fun vs=>tb.ev fn N (J++vs)) d m st=some o∧gn w0 Oe (J++st) σh a'.tmps w'∧(J++st).length=σh.n∧a'.defers=a.defers) ⟨st,he,h0.1,h0.2,rfl⟩ ?_;rintro m a1 w1 ⟨st1,hround,hr1,hn1,hd1⟩;cases m with
      |zero=>simp[H4] at hround
      |succ m=>
       simp only[H4,Bl] at hround;obtain⟨o1,ho1,hround⟩:=hround;refine Rp hC c lb (d+1) σh _ tb (J++st1) o1 a1 w1 _ htb ho1 hn1 hr1 fun z σ' T' η' I a' w' h1 h2 h3 h4 h5 h6=> ?_;have other:lm d (k z σ')=some T'->Q z.exit' a' w':=by
        intro h1;obtain⟨h1,hy⟩:=Zf h1;have:o1=o:=by
         split at hround
         .rename_i j vs;split at hround
          .rename_i hj;subst hj;exact(Jc T' η' vs hy h2).elim
          .injection hround
         .injection hround
        subst this;exact hk z σ' T' η' (st1++I) a' w' h1 h2 (by rw[h3,Cy]) h4 h5 (by rw[h6,hd1])
       cases z with
       |normal=>
        simp only at h1;obtain⟨es1,ha1,rfl⟩:=Bs.1 h1;simp only[T.ev,Bs] at h2;obtain⟨vs,hvs,rfl⟩:=h2;simp only[if_true] at hround;rw[Cy] at h3;subst h3;obtain⟨g1,g2⟩:=Xg ha1 hvs hn h5;exact⟨m,Nat.lt_succ_self m,vs,hround,g1,g2,by rw[h6,hd1]⟩
       |exit b=>exact other h1
       |ret=>exact other h1
     .cases hs
 | .scope ..,lb,d,U,k,t,J,o,a,w,Q,hs,_,_,_,_=>by simp[sx] at hs
 | .label ..,lb,d,U,k,t,J,o,a,w,Q,hs,_,_,_,_=>by simp[sx] at hs
 | .goto ..,lb,d,U,k,t,J,o,a,w,Q,hs,_,_,_,_=>by simp[sx] at hs
 | .rangeFunc ..,lb,d,U,k,t,J,o,a,w,Q,hs,_,_,_,_=>by simp[sx] at hs
 | .refuse ..,lb,d,U,k,t,J,o,a,w,Q,hs,_,_,_,_=>by simp[sx] at hs
end
open Go
def E.triv:E->Bool
 | .c _=>true
 |_=>false
mutual
def cov (a:E):E->Bool
 | .v n=>E.same a (.v n)||a.triv
 | .c x=>E.same a (.c x)||a.triv
 | .bin op x y=>E.same a (.bin op x y)||a.triv||cov a x||cov a y
 | .un op x=>E.same a (.un op x)||a.triv||cov a x
 | .ite g x y=>a.triv||cov a g||(cov a x && cov a y)||E.same a (.ite g x y)||
    (match a with
     | .ite (.un .not h) p q=>(h.same g && cov p y && cov q x)||((E.un .not h).same g && cov p x && cov q y)
     | .ite h p q=>h.same g && cov p x && cov q y
     |_=>false)
 | .proj j x=>E.same a (.proj j x)||a.triv||cov a x
 | .sub o n x=>E.same a (.sub o n x)||a.triv||cov a x
 | .agg xs=>E.same a (.agg xs)||a.triv||Ad7 a xs
 | .fit n x=>E.same a (.fit n x)||a.triv||cov a x
 | .scal x=>E.same a (.scal x)||a.triv||cov a x
 | .idx sz x i=>E.same a (.idx sz x i)||a.triv||cov a x||cov a i
 | .len x=>E.same a (.len x)||a.triv||cov a x
 | .slen x=>E.same a (.slen x)||a.triv||cov a x
 | .sidx x i=>E.same a (.sidx x i)||a.triv||cov a x||cov a i
 | .ssl x lo hi=>E.same a (.ssl x lo hi)||a.triv||cov a x||cov a lo||cov a hi
 | .lsl sz x lo hi=>E.same a (.lsl sz x lo hi)||a.triv||cov a x||cov a lo||cov a hi
 | .app sz x y=>E.same a (.app sz x y)||a.triv||cov a x||cov a y
 | .lit sz xs=>E.same a (.lit sz xs)||a.triv||Ad7 a xs
 | .rep sz n z=>E.same a (.rep sz n z)||a.triv||cov a n||cov a z
 | .set sz x i off vs=>E.same a (.set sz x i off vs)||a.triv||cov a x||cov a i||Ad7 a vs
 | .conv k x=>E.same a (.conv k x)||a.triv||cov a x
 | .b2s x=>E.same a (.b2s x)||a.triv||cov a x
 | .s2b x=>E.same a (.s2b x)||a.triv||cov a x
 | .eqs n g ts x y=>E.same a (.eqs n g ts x y)||a.triv||cov a x||cov a y
 | .clo g caps=>E.same a (.clo g caps)||a.triv||Ad7 a caps
 | .mn x y=>E.same a (.mn x y)||a.triv||cov a x||cov a y
 | .mx x y=>E.same a (.mx x y)||a.triv||cov a x||cov a y
 | .mget x k z=>E.same a (.mget x k z)||a.triv||cov a x||cov a k||cov a z
 | .mset x k v=>E.same a (.mset x k v)||a.triv||cov a x||cov a k||cov a v
 | .der x=>E.same a (.der x)||a.triv||cov a x
 | .mkp o x=>E.same a (.mkp o x)||a.triv||cov a x
 | .flt x=>E.same a (.flt x)||a.triv||cov a x
def Ad7 (a:E):List E->Bool
 |[]=>false
 |x::xs=>cov a x||Ad7 a xs
end
def E9 {a:E} {J:List PV} (h:a.triv=true):(a.ev J).isSome=true:=by cases a<;>simp[E.triv] at h;simp[E.ev]
def Ev {a b:E} {J:List PV} {p:PV} (h:E.same a b=true) (e:b.ev J=some p):(a.ev J).isSome=true:=by rw[E.same_eq _ _ h,e];rfl
mutual
def Eh {J:List PV} (a:E):∀(b:E) (p:PV),cov a b=true->b.ev J=some p->(a.ev J).isSome=true
 | .v n,p,h,e=>by
   simp only[cov,Cz] at h;rcases h with h|h
   .exact Ev h e
   .exact E9 h
 | .c x,p,h,e=>by
   simp only[cov,Cz] at h;rcases h with h|h
   .exact Ev h e
   .exact E9 h
 | .bin op x y,p,h,e=>by
   simp only[cov,Cz] at h;rcases h with((h|h)|h)|h
   .exact Ev h e
   .exact E9 h
   .simp only[E.ev] at e;obtain⟨q0,hq0,e0⟩:=Bl.1 e;exact Eh a x _ h hq0
   .simp only[E.ev] at e;obtain⟨q0,hq0,e0⟩:=Bl.1 e;obtain⟨q1,hq1,e1⟩:=Bl.1 e0;exact Eh a y _ h hq1
 | .un op x,p,h,e=>by
   simp only[cov,Cz] at h;rcases h with(h|h)|h
   .exact Ev h e
   .exact E9 h
   .simp only[E.ev] at e;obtain⟨q0,hq0,e0⟩:=Bl.1 e;exact Eh a x _ h hq0
 | .ite g x y,p,h,e=>by
   have e0:=e;simp only[E.ev] at e;obtain⟨r,hg,e1⟩:=Bl.1 e;have key:∀(h' p' q':E),(∀b,g.ev J=some (.b b)->h'.ev J=some (.b b))->cov p' x=true->cov q' y=true->((E.ite h' p' q').ev J).isSome=true:=by
    intro h' p' q' hh hp hq;simp only[E.ev];split at e1
    .rw[hh true hg];simp only[B0];exact Eh p' x _ hp e1
    .rw[hh false hg];simp only[B0];exact Eh q' y _ hq e1
    .cases e1
   have keyN:∀(h' p' q':E),(∀b,g.ev J=some (.b b)->h'.ev J=some (.b b))->cov p' y=true->cov q' x=true->((E.ite (.un .not h') p' q').ev J).isSome=true:=by
    intro h' p' q' hh hp hq;simp only[E.ev];split at e1
    .rw[hh true hg];simp only[B0,X.un,qd];exact Eh q' x _ hq e1
    .rw[hh false hg];simp only[B0,X.un,Bool.not_false];exact Eh p' y _ hp e1
    .cases e1
   simp only[cov,Cz] at h;rcases h with(((h|h)|h)|h)|h
   .exact E9 h
   .exact Eh a g _ h hg
   .simp only[Bt] at h;split at e1
    .exact Eh a x _ h.1 e1
    .exact Eh a y _ h.2 e1
    .cases e1
   .exact Ev h e0
   .split at h
    .simp only[Cz,Bt] at h;rcases h with h|h
     .exact keyN _ _ _ (fun b hb=>by rw[E.same_eq _ _ h.1.1];exact hb) h.1.2 h.2
     .exact key _ _ _ (fun b hb=>by rw[E.same_eq _ _ h.1.1];exact hb) h.1.2 h.2
    .simp only[Bt] at h;exact key _ _ _ (fun b hb=>by rw[E.same_eq _ _ h.1.1];exact hb) h.1.2 h.2
    .cases h
 | .proj j x,p,h,e=>by
   simp only[cov,Cz] at h;rcases h with(h|h)|h
   .exact Ev h e
   .exact E9 h
   .simp only[E.ev] at e;obtain⟨q0,hq0,e0⟩:=Bl.1 e;exact Eh a x _ h hq0
 | .sub o n x,p,h,e=>by
   simp only[cov,Cz] at h;rcases h with(h|h)|h
   .exact Ev h e
   .exact E9 h
   .simp only[E.ev] at e;obtain⟨q0,hq0,e0⟩:=Bl.1 e;exact Eh a x _ h hq0
 | .agg xs,p,h,e=>by
   simp only[cov,Cz] at h;rcases h with(h|h)|h
   .exact Ev h e
   .exact E9 h
   .simp only[E.ev] at e;obtain⟨q0,hq0,e0⟩:=Bs.1 e;exact Kh a xs _ h hq0
 | .fit n x,p,h,e=>by
   simp only[cov,Cz] at h;rcases h with(h|h)|h
   .exact Ev h e
   .exact E9 h
   .simp only[E.ev] at e;obtain⟨q0,hq0,e0⟩:=Bl.1 e;exact Eh a x _ h hq0
 | .scal x,p,h,e=>by
   simp only[cov,Cz] at h;rcases h with(h|h)|h
   .exact Ev h e
   .exact E9 h
   .simp only[E.ev] at e;obtain⟨q0,hq0,e0⟩:=Bl.1 e;exact Eh a x _ h hq0
 | .idx sz x i,p,h,e=>by
   simp only[cov,Cz] at h;rcases h with((h|h)|h)|h
   .exact Ev h e
   .exact E9 h
   .simp only[E.ev] at e;obtain⟨q0,hq0,e0⟩:=Bl.1 e;exact Eh a x _ h hq0
   .simp only[E.ev] at e;obtain⟨q0,hq0,e0⟩:=Bl.1 e;obtain⟨q1,hq1,e1⟩:=Bl.1 e0;exact Eh a i _ h hq1
 | .len x,p,h,e=>by
   simp only[cov,Cz] at h;rcases h with(h|h)|h
   .exact Ev h e
   .exact E9 h
   .simp only[E.ev] at e;obtain⟨q0,hq0,e0⟩:=Bl.1 e;exact Eh a x _ h hq0
 | .slen x,p,h,e=>by
   simp only[cov,Cz] at h;rcases h with(h|h)|h
   .exact Ev h e
   .exact E9 h
   .simp only[E.ev] at e;obtain⟨q0,hq0,e0⟩:=Bl.1 e;exact Eh a x _ h hq0
 | .sidx x i,p,h,e=>by
   simp only[cov,Cz] at h;rcases h with((h|h)|h)|h
   .exact Ev h e
   .exact E9 h
   .simp only[E.ev] at e;obtain⟨q0,hq0,e0⟩:=Bl.1 e;exact Eh a x _ h hq0
   .simp only[E.ev] at e;obtain⟨q0,hq0,e0⟩:=Bl.1 e;obtain⟨q1,hq1,e1⟩:=Bl.1 e0;exact Eh a i _ h hq1
 | .ssl x lo hi,p,h,e=>by
   simp only[cov,Cz] at h;rcases h with(((h|h)|h)|h)|h
   .exact Ev h e
   .exact E9 h
   .simp only[E.ev] at e;obtain⟨q0,hq0,e0⟩:=Bl.1 e;exact Eh a x _ h hq0
   .simp only[E.ev] at e;obtain⟨q0,hq0,e0⟩:=Bl.1 e;obtain⟨q1,hq1,e1⟩:=Bl.1 e0;exact Eh a lo _ h hq1
   .simp only[E.ev] at e;obtain⟨q0,hq0,e0⟩:=Bl.1 e;obtain⟨q1,hq1,e1⟩:=Bl.1 e0;obtain⟨q2,hq2,e2⟩:=Bl.1 e1;exact Eh a hi _ h hq2
 | .lsl sz x lo hi,p,h,e=>by
   simp only[cov,Cz] at h;rcases h with(((h|h)|h)|h)|h
   .exact Ev h e
   .exact E9 h
   .simp only[E.ev] at e;obtain⟨q0,hq0,e0⟩:=Bl.1 e;exact Eh a x _ h hq0
   .simp only[E.ev] at e;obtain⟨q0,hq0,e0⟩:=Bl.1 e;obtain⟨q1,hq1,e1⟩:=Bl.1 e0;exact Eh a lo _ h hq1
   .simp only[E.ev] at e;obtain⟨q0,hq0,e0⟩:=Bl.1 e;obtain⟨q1,hq1,e1⟩:=Bl.1 e0;obtain⟨q2,hq2,e2⟩:=Bl.1 e1;exact Eh a hi _ h hq2
 | .app sz x y,p,h,e=>by
   simp only[cov,Cz] at h;rcases h with((h|h)|h)|h
   .exact Ev h e
   .exact E9 h
   .simp only[E.ev] at e;obtain⟨q0,hq0,e0⟩:=Bl.1 e;exact Eh a x _ h hq0
   .simp only[E.ev] at e;obtain⟨q0,hq0,e0⟩:=Bl.1 e;obtain⟨q1,hq1,e1⟩:=Bl.1 e0;exact Eh a y _ h hq1
 | .lit sz xs,p,h,e=>by
   simp only[cov,Cz] at h;rcases h with(h|h)|h
   .exact Ev h e
   .exact E9 h
   .simp only[E.ev] at e;obtain⟨q0,hq0,e0⟩:=Bl.1 e;exact Kh a xs _ h hq0
 | .rep sz n z,p,h,e=>by
   simp only[cov,Cz] at h;rcases h with((h|h)|h)|h
   .exact Ev h e
   .exact E9 h
   .simp only[E.ev] at e;obtain⟨q0,hq0,e0⟩:=Bl.1 e;exact Eh a n _ h hq0
   .simp only[E.ev] at e;obtain⟨q0,hq0,e0⟩:=Bl.1 e;obtain⟨q1,hq1,e1⟩:=Bl.1 e0;exact Eh a z _ h hq1
 | .set sz x i off vs,p,h,e=>by
   simp only[cov,Cz] at h;rcases h with(((h|h)|h)|h)|h
   .exact Ev h e
   .exact E9 h
   .simp only[E.ev] at e;obtain⟨q0,hq0,e0⟩:=Bl.1 e;exact Eh a x _ h hq0
   .simp only[E.ev] at e;obtain⟨q0,hq0,e0⟩:=Bl.1 e;obtain⟨q1,hq1,e1⟩:=Bl.1 e0;exact Eh a i _ h hq1
   .simp only[E.ev] at e;obtain⟨q0,hq0,e0⟩:=Bl.1 e;obtain⟨q1,hq1,e1⟩:=Bl.1 e0;obtain⟨q2,hq2,e2⟩:=Bl.1 e1;exact Kh a vs _ h hq2
 | .conv k x,p,h,e=>by
   simp only[cov,Cz] at h;rcases h with(h|h)|h
   .exact Ev h e
   .exact E9 h
   .simp only[E.ev] at e;obtain⟨q0,hq0,e0⟩:=Bl.1 e;exact Eh a x _ h hq0
 | .b2s x,p,h,e=>by
   simp only[cov,Cz] at h;rcases h with(h|h)|h
   .exact Ev h e
   .exact E9 h
   .simp only[E.ev] at e;obtain⟨q0,hq0,e0⟩:=Bl.1 e;exact Eh a x _ h hq0
 | .s2b x,p,h,e=>by
   simp only[cov,Cz] at h;rcases h with(h|h)|h
   .exact Ev h e
   .exact E9 h
   .simp only[E.ev] at e;obtain⟨q0,hq0,e0⟩:=Bl.1 e;exact Eh a x _ h hq0
 | .eqs n g ts x y,p,h,e=>by
   simp only[cov,Cz] at h;rcases h with((h|h)|h)|h
   .exact Ev h e
   .exact E9 h
   .simp only[E.ev] at e;obtain⟨q0,hq0,e0⟩:=Bl.1 e;exact Eh a x _ h hq0
   .simp only[E.ev] at e;obtain⟨q0,hq0,e0⟩:=Bl.1 e;obtain⟨q1,hq1,e1⟩:=Bl.1 e0;exact Eh a y _ h hq1
 | .clo g caps,p,h,e=>by
   simp only[cov,Cz] at h;rcases h with(h|h)|h
   .exact Ev h e
   .exact E9 h
   .simp only[E.ev] at e;obtain⟨q0,hq0,e0⟩:=Bs.1 e;exact Kh a caps _ h hq0
 | .mn x y,p,h,e=>by
   simp only[cov,Cz] at h;rcases h with((h|h)|h)|h
   .exact Ev h e
   .exact E9 h
   .simp only[E.ev] at e;obtain⟨q0,hq0,e0⟩:=Bl.1 e;exact Eh a x _ h hq0
   .simp only[E.ev] at e;obtain⟨q0,hq0,e0⟩:=Bl.1 e;obtain⟨q1,hq1,e1⟩:=Bl.1 e0;exact Eh a y _ h hq1
 | .mx x y,p,h,e=>by
   simp only[cov,Cz] at h;rcases h with((h|h)|h)|h
   .exact Ev h e
   .exact E9 h
   .simp only[E.ev] at e;obtain⟨q0,hq0,e0⟩:=Bl.1 e;exact Eh a x _ h hq0
   .simp only[E.ev] at e;obtain⟨q0,hq0,e0⟩:=Bl.1 e;obtain⟨q1,hq1,e1⟩:=Bl.1 e0;exact Eh a y _ h hq1
 | .mget x k z,p,h,e=>by
   simp only[cov,Cz] at h;rcases h with(((h|h)|h)|h)|h
   .exact Ev h e
   .exact E9 h
   .simp only[E.ev] at e;obtain⟨q0,hq0,e0⟩:=Bl.1 e;exact Eh a x _ h hq0
   .simp only[E.ev] at e;obtain⟨q0,hq0,e0⟩:=Bl.1 e;obtain⟨q1,hq1,e1⟩:=Bl.1 e0;exact Eh a k _ h hq1
   .simp only[E.ev] at e;obtain⟨q0,hq0,e0⟩:=Bl.1 e;obtain⟨q1,hq1,e1⟩:=Bl.1 e0;obtain⟨q2,hq2,e2⟩:=Bl.1 e1;exact Eh a z _ h hq2
 | .mset x k v,p,h,e=>by
   simp only[cov,Cz] at h;rcases h with(((h|h)|h)|h)|h
   .exact Ev h e
   .exact E9 h
   .simp only[E.ev] at e;obtain⟨q0,hq0,e0⟩:=Bl.1 e;exact Eh a x _ h hq0
   .simp only[E.ev] at e;obtain⟨q0,hq0,e0⟩:=Bl.1 e;obtain⟨q1,hq1,e1⟩:=Bl.1 e0;exact Eh a k _ h hq1
   .simp only[E.ev] at e;obtain⟨q0,hq0,e0⟩:=Bl.1 e;obtain⟨q1,hq1,e1⟩:=Bl.1 e0;obtain⟨q2,hq2,e2⟩:=Bl.1 e1;exact Eh a v _ h hq2
 | .der x,p,h,e| .mkp _ x,p,h,e| .flt x,p,h,e=>by
   simp only[cov,Cz] at h;rcases h with(h|h)|h
   .exact Ev h e
   .exact E9 h
   .simp only[E.ev] at e;obtain⟨q0,hq0,e0⟩:=Bl.1 e;exact Eh a x _ h hq0
def Kh {J:List PV} (a:E):∀(bs:List E) (ps:List PV),Ad7 a bs=true->E.evs J bs=some ps->(a.ev J).isSome=true
 |[],ps,h,e=>by simp[Ad7] at h
 |b::bs,ps,h,e=>by
  simp only[Ad7,Cz] at h;simp only[E.evs] at e;obtain⟨q,hq,e1⟩:=Bl.1 e;obtain⟨qs,hqs,e2⟩:=Bs.1 e1;rcases h with h|h
  .exact Eh a b _ h hq
  .exact Kh a bs _ h hqs
end
def Jl (a:E):T->Bool
 | .w (.chk x) k=>cov a x||Jl a k
 | .w (.call none _ _ ar _) _=>Ad7 a ar
 | .w (.call (some g) _ _ _ _) _=>cov a g
 | .w (.clo none _ c ar _) _=>cov a c||Ad7 a ar
 | .w (.clo (some g) _ _ _ _) _=>cov a g
 | .w (.mcall _ ar) _=>Ad7 a ar
 | .ite c t e=>cov a c||(Jl a t && Jl a e)
 | .ret es=>Ad7 a es
 | .yld _ es=>Ad7 a es
 | .blk _ body _=>Jl a body
 | .loop _ init _=>Ad7 a init
def Ny {fn:Fns} {N:Nat} {J:List PV} (a:E):∀(t:T) (o:Out),Jl a t=true->t.ev fn N J=some o->(a.ev J).isSome=true
 | .w (.chk x) k,o,h,e=>by
   simp only[Jl,Cz] at h;simp only[T.ev,W.ev] at e;obtain⟨η',h1,h2⟩:=Bl.1 e;obtain⟨p,hp,rfl⟩:=Bs.1 h1;rcases h with h|h
   .exact Eh a x _ h hp
   .exact Ny a k _ h h2
 | .w (.call none fl f ar m) k,o,h,e=>by simp only[Jl] at h;simp only[T.ev,W.ev,Gb] at e;obtain⟨η',h1,h2⟩:=Bl.1 e;obtain⟨p,hp,_⟩:=Bl.1 h1;exact Kh a ar _ h hp
 | .w (.call (some g) fl f ar m) k,o,h,e=>by simp only[Jl] at h;simp only[T.ev,W.ev,Gb] at e;obtain⟨η',h1,h2⟩:=Bl.1 e;obtain⟨p,hp,_⟩:=Bl.1 h1;exact Eh a g _ h hp
 | .w (.clo none fl c ar m) k,o,h,e=>by
   simp only[Jl,Cz] at h;simp only[T.ev,W.ev,Gb] at e;obtain⟨η',h1,h2⟩:=Bl.1 e;obtain⟨p,hp,h3⟩:=Bl.1 h1;obtain⟨q,hq,_⟩:=Bl.1 h3;rcases h with h|h
   .exact Eh a c _ h hp
   .exact Kh a ar _ h hq
 | .w (.clo (some g) fl c ar m) k,o,h,e=>by simp only[Jl] at h;simp only[T.ev,W.ev,Gb] at e;obtain⟨η',h1,h2⟩:=Bl.1 e;obtain⟨p,hp,_⟩:=Bl.1 h1;exact Eh a g _ h hp
 | .w (.mcall f ar) k,o,h,e=>by simp only[Jl] at h;simp only[T.ev,W.ev] at e;obtain⟨η',h1,h2⟩:=Bl.1 e;obtain⟨p,hp,_⟩:=Bl.1 h1;exact Kh a ar _ h hp
 | .ite c t f,o,h,e=>by
   simp only[Jl,Cz,Bt] at h;simp only[T.ev] at e;obtain⟨r,h1,h2⟩:=Bl.1 e;rcases h with h|h
   .exact Eh a c _ h h1
   .split at h2
    .exact Ny a t _ h.1 h2
    .exact Ny a f _ h.2 h2
    .cases h2
 | .ret es,o,h,e=>by simp only[Jl] at h;simp only[T.ev] at e;obtain⟨ps,hp,_⟩:=Bs.1 e;exact Kh a es _ h hp
 | .yld id es,o,h,e=>by simp only[Jl] at h;simp only[T.ev] at e;obtain⟨ps,hp,_⟩:=Bs.1 e;exact Kh a es _ h hp
 | .blk id body k,o,h,e=>by simp only[Jl] at h;simp only[T.ev] at e;obtain⟨o1,h1,_⟩:=Bl.1 e;exact Ny a body _ h h1
 | .loop id init body,o,h,e=>by simp only[Jl] at h;simp only[T.ev] at e;obtain⟨ps,hp,_⟩:=Bl.1 e;exact Kh a init _ h hp
def T.slim:T->T
 | .w (.chk x) k=>if Jl x k.slim then k.slim else .w (.chk x) k.slim
 | .w x k=> .w x k.slim
 | .ite c t e=> .ite c t.slim e.slim
 | .ret es=> .ret es
 | .yld id es=> .yld id es
 | .blk id body k=> .blk id body.slim k.slim
 | .loop id init body=> .loop id init body.slim
def Jj {fn:Fns} {N:Nat}:∀(t:T) (J:List PV),t.slim.ev fn N J=t.ev fn N J
 | .w (.chk x) k,J=>by
   simp only[T.slim];split
   .rename_i h;rw[Jj k J];simp only[T.ev,W.ev];cases hx:x.ev J with
    |some p=>rfl
    |none=>
     cases hk:k.ev fn N J with
     |none=>rfl
     |some o=>
      rw[<-Jj k J] at hk;have:=Ny x k.slim o h hk;rw[hx] at this;cases this
   .simp only[T.ev,W.ev];cases hx:x.ev J with
    |some p=>exact Jj k J
    |none=>rfl
 | .w (.call g fl f ar m) k,J=>by simp only[T.slim,T.ev];congr 1;funext η';exact Jj k η'
 | .w (.clo g fl c ar m) k,J=>by simp only[T.slim,T.ev];congr 1;funext η';exact Jj k η'
 | .w (.mcall f ar) k,J=>by simp only[T.slim,T.ev];congr 1;funext η';exact Jj k η'
 | .ite c t e,J=>by simp only[T.slim,T.ev,Jj t J,Jj e J]
 | .ret es,J=>rfl
 | .yld id es,J=>rfl
 | .blk id body k,J=>by
   simp only[T.slim,T.ev,Jj body J];congr 1;funext o;cases o with
   |ret vs=>rfl
   |yld j vs=>simp only[Jj k (J++vs)]
 | .loop id init body,J=>by
   simp only[T.slim,T.ev];congr 1;funext st;have:(fun vs=>body.slim.ev fn N (J++vs))=fun vs=>body.ev fn N (J++vs):=by funext vs;exact Jj body (J++vs)
   rw[this]
end Go.X
