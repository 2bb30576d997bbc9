/- Operations, seventh part: literals. -/
import Derived.Test.YtjjbngkgndckcaaGreatDoorValidateSetsG1
import Derived.Test.YtjjbngkgndckcaaGreatDoorValidateSetsG0
import Derived.Great.BuildSlice
import Derived.Laws.OwnMore
import Derived.Lib.AppendZerosOnto
import Derived.Lib.Builder
import Derived.Lib.AppendStr
import Derived.Lib.UnsafeStr
import Derived.Lib.Strings
import Derived.Lib.Walk
import Derived.WalkKit
import Derived.Laws.Externs
import Derived.OwnWalk
import Derived.MapKept
open Array renaming getElem?_toList->B6,getD_eq_getD_getElem?->Cf,length_toList->C3,getElem?_eq_some_iff->Dd,toArray_toList->Dn,getElem?_append_left->Ej,getElem?_eq_getElem->Eh,getElem?_modify->L6,size_append->Nx,toList_append->Qt,append_empty->V6,getElem?_range->y8,getElem?_map->Fp4
open Bool renaming and_eq_true->Bt,false_eq_true->B5,or_eq_true->Cq,not_eq_true'->Dl,not_eq_false->Nv
open Int renaming toNat_natCast->Es,le_refl->Ud
open List renaming getElem?_eq_some_iff->Bn,length_append->Br,getElem?_eq_getElem->B4,append_assoc->Ck,length_take->Cv,getElem?_append_right->Cw,mem_of_getElem?->Cy,length_cons->Cz,getElem?_append_left->Cd,mem_cons->Cg,getElem?_take->Ch,length_nil->Cm,eq_nil_of_length_eq_zero->Cp,getD_eq_getElem?_getD->Ct,length_drop->C1,length_pos_iff->C2,getElem?_map->C4,mem_append_right->C6,mem_singleton->Dj,getElem?_range->Dx,all_eq_true->Db,getElem?_cons_zero->Dm,mem_append->Dp,getElem?_set->Ev,getElem?_cons_succ->Ec,mem_of_mem_take->Er,mem_append_left->Fq,getElem?_of_mem->Fv,mem_of_mem_drop->F6,length_replicate->Gr,map_cons->Gs,getElem_mem->Hj,mem_range->Hr,flatMap_cons->Hs,mapM_cons->Jw,size_toArray->Jl,getElem?_replicate->Jm,getElem?_eq_none->eq,length_range->lz,take_take->y4,take_left->y5,mem_map->Bm8
open Nat renaming le_refl->B7,mul_le_mul_right->Cn,add_mul->C9,zero_le->D9,le_trans->En,add_zero->E5,mod_eq_of_lt->E6,add_assoc->Fc,zero_add->Fl,lt_of_lt_of_le->F5,one_mul->Gh,mul_comm->G2,mul_le_mul->Jq,sub_self->Nk,add_sub_cancel->V4,mul_add_mod->Ym,min_eq_left->Yn
open Option renaming bind_eq_some_iff->Bl,map_eq_some_iff->Bp,bind_some->Bs,map_some->Cc,isNone_iff_eq_none->Dw,isSome_iff_exists->Dc,getD_some->D2
open Option.some renaming injEq->Bm
open Prod.mk renaming injEq->B3
set_option maxHeartbeats 1000000
set_option linter.defProp false
set_option linter.unusedVariables false
set_option linter.unusedSimpArgs false
namespace Go.X
open Go Go.RowKit
section
variable {P:Program} {w0:Fr} {Oe:Nat->Option Nat} {J:List PV} {σ:St} {a:Act} {w:World} {β:Nat->Nat} {hv:Nat->Value} {O:Nat->Option Nat} {G:Option E} {o:Oper} {ws:List W}
def Mg (C:Cx):List (Nat×SV)->List (Nat×Value)->Prop
 |[],[]=>True
 |x::xs,y::ys=>x.1=y.1∧Cj C x.2 y.2∧Mg C xs ys
 |_,_=>False
def gw {C:Cx} (hC:C.J=J) (hG:GOk J G) (h:Cb C σ.t a.tmps.toList) {tf:Nat->TypeId}:∀{ps:List (Nat×Operand)} {vs:List (Nat×SV)},At1 P σ G tf ps=some vs->Mg C vs (ps.map fun p=>(p.1,a.eval p.2))
 |[],vs,hp=>by simp only[At1,Bm] at hp;subst hp;trivial
 |(i,x)::ps,vs,hp=>by
  simp only[At1] at hp;split at hp
  .rename_i y ys hy hys;injection hp with hp;subst hp;exact⟨rfl,Fw (ds:=a.defers) hG hC hy h,gw hC hG h hys⟩
  .cases hp
def qk (off:Nat):∀(l:List Value) (k:Nat) (cells:Array Value),off+k+l.length<=cells.size->
  ((l.zipIdx k).foldl (fun cs (x:Value×Nat)=>cs.setIfInBounds (off+x.2) x.1) cells).toList=cells.toList.take (off+k)++l++cells.toList.drop (off+k+l.length)
 |[],k,cells,_=>by simp
 |v::l,k,cells,h=>by
  simp only[List.zipIdx_cons,List.foldl_cons];simp only[Cz] at h;rw[qk off l (k+1) _ (by simp;omega)];have hlt:off+k<cells.toList.length:=by simp;omega
  rw[Array.toList_setIfInBounds,<-Fc,List.take_set,List.take_succ_eq_append_getElem hlt,List.drop_set_of_lt (by omega)];have hl2:(cells.toList.take (off+k)).length=off+k:=by rw[Cv];omega
  have:=Wm (cells.toList.take (off+k)) (cells.toList[off+k]) v;rw[hl2] at this;rw[this];simp[Nat.add_comm 1,Fc]
def Bz8 {C:Cx} {m:List (Nat×Blk)} {kp:Bool} (hm:C.m=m) (harr:∀s e sz x ro,mget m s=some (.arr e sz x ro)->One (C.hv s)) {pl:Nat->Option (Nat×TypeId)} {pm:Nat->Option (Nat×Nat)} (hpl:∀i off ft,pl i=some (off,ft)->pm i=some (off,B8 P ft)):
  ∀{vs:List (Nat×SV)} {ps:List (Nat×Value)} {cs cs':List SV} {ws:List W} {cells:Array Value},Vh P m kp pl vs cs=some (ws,cs')->(∀x,W.chk x∈ws->∃p,x.ev C.J=some p)->Mg C vs ps->
   Cb C cs cells.toList->(∀u,u∈cells.toList->One u)->∃cells',Instr.fill pm cells ps=some cells'∧Cb C cs' cells'.toList∧∀u,u∈cells'.toList->One u
 |[],[],cs,cs',ws,cells,h,hk,hp,hr,h1=>by simp only[Vh,Bm,B3] at h;obtain⟨_,rfl⟩:=h;exact⟨cells,rfl,hr,h1⟩
 |[],_::_,_,_,_,_,_,_,hp,_,_=>hp.elim
 |_::_,[],_,_,_,_,_,_,hp,_,_=>hp.elim
 |(i,sv)::vs,(j,v)::ps,cs,cs',ws,cells,h,hk,hp,hr,h1=>by
  obtain⟨hij,hrv,hp⟩:=hp;simp only at hij hrv;subst hij;simp only[Vh] at h;split at h
  .rename_i off ft hpi;split at h
   .rename_i ws1 vs1 hc;split at h
    .rename_i hle;obtain⟨⟨ws2,cs2⟩,hrec,he⟩:=Bp.1 h;simp only[B3] at he;obtain⟨rfl,rfl⟩:=he;obtain⟨c1,c2,c3,c4⟩:=Bd4 hm hc (fun x hx=>hk x (Fq _ hx)) harr hrv;have hlen:=hr.length;have hsz:v.cells.toList.length=B8 P ft:=by simpa using c1
     have hcl:off+v.cells.size<=cells.size:=by
      have:cs.length=cells.size:=by simpa using hlen
      omega
     have hset:=Cb.setCells (off:=off) hr c4 hle;have hfold:=qk off v.cells.toList 0 cells (by simpa using hcl);let cells2:=(v.cells.zipIdx.foldl (fun cs (c,j)=>cs.setIfInBounds (off+j) c) cells);have hcells2:cells2.toList=cells.toList.take off++v.cells.toList++cells.toList.drop (off+v.cells.toList.length):=by
      have e:cells2=((v.cells.toList.zipIdx 0).foldl (fun cs (x:Value×Nat)=>cs.setIfInBounds (off+x.2) x.1) cells):=by show v.cells.zipIdx.foldl _ _=_;rw[<-Array.foldl_toList,Array.toList_zipIdx]
      rw[e];simpa using hfold
     have h12:∀u,u∈cells2.toList->One u:=by
      intro u hu;rw[hcells2] at hu;rcases Dp.1 hu with hu|hu
      .rcases Dp.1 hu with hu|hu
       .exact h1 u (Er hu)
       .exact c3 u hu
      .exact h1 u (F6 hu)
     obtain⟨cells',g1,g2,g3⟩:=Bz8 hm harr hpl (cells:=cells2) hrec (fun x hx=>hk x (C6 _ hx)) hp (by rw[hcells2];exact hset) h12;refine⟨cells',?_,g2,g3⟩;simp only[Instr.fill,hpl i off ft hpi];rw[if_neg (by simp;exact⟨c1,hcl⟩)];exact g1
    .cases h
   .cases h
  .cases h
def Zn:∀fs:List Field,(∀f,f∈fs->(P.info? f.type).isSome)->(fs.mapM fun f=>(P.info? f.type).map fun i=>(f.offset,i.size))=some (fs.map fun f=>(f.offset,B8 P f.type))
 |[],_=>by simp
 |f::fs,h=>by obtain⟨i,hi⟩:=Dc.1 (h f (.head _));simp[Jw,hi,Zn fs fun g hg=>h g (.tail _ hg),B8]
def Cq2 {t:TypeId} {parts:Array (Nat×Operand)} {tf:Nat->TypeId} {zs cs:List SV} {vs:List (Nat×SV)} (ho:o.op= .build t parts) (h:Rel w0 Oe J σ a.tmps w β hv O) (hG:GOk J G) (hz:Ib P t=some zs) (hv1:At1 P σ G tf parts.toList=some vs)
  {kp:Bool} (hf:Vh P σ.m kp (R8 P t) vs zs=some (ws,cs)) (hp:fy P t=true) (hk:Chk J ws) {r0:SV} (hr0:r0= .ag cs∨r0=bc cs):Ed P o a w (G1 w0 Oe J σ a.tmps (Gm σ) r0):=by
 let C:Cx:=⟨J,Cr w O,β,hv,σ.m⟩;obtain⟨i,z,hi,hzz,hsz,h1,hr⟩:=Hk (C:=C) hz;have hparts:=gw (C:=C) rfl hG h.tmps hv1;have hpt:(parts.map fun (i,x)=>(i,a.eval x)).toList=parts.toList.map fun p=>(p.1,a.eval p.2):=by simp
 have go:∀pm,(∀i off ft,R8 P t i=some (off,ft)->pm i=some (off,B8 P ft))->(∀cells,Instr.fill pm z.cells (parts.map fun (i,x)=>(i,a.eval x)).toList=some cells->P.built t (parts.map fun (i,x)=>(i,a.eval x)).toList=some cells)->
   Ed P o a w (G1 w0 Oe J σ a.tmps (Gm σ) r0):=by
  intro pm hpm hb;obtain⟨cells',g1,g2,g3⟩:=Bz8 (C:=C) rfl h.oneH hpm hf hk hparts hr h1;refine Ed.value (v:= .agg cells') (w':=w) ?_ (.keep h (by
   rcases hr0 with rfl|rfl
   .simp only[Cj];exact⟨cells',rfl,g3,g2⟩
   .exact Q1 g2 g3))
  have:=run_build w t _ cells' (hb cells' (by rw[hpt];exact g1));simp only[execOp,ho,Sem.run_bind,this,Result.andThen];rfl
 unfold fy at hp;split at hp
 .rename_i fs hu;refine go (fun i=>(fs.toList.map fun f=>(f.offset,B8 P f.type)).toArray[i]?) (fun i off ft hi=> ?_) (fun cells hc=> ?_)
  .simp only[R8,hu] at hi;obtain⟨f,hf1,he⟩:=Bp.1 hi;simp only[B3] at he;obtain⟨rfl,rfl⟩:=he;simp[hf1]
  .unfold Program.built;simp only[hi,hu,hzz];rw[Zn fs.toList (fun f hf=>by simpa using (Db.1 hp) f hf)];exact hc
 .rename_i n e hu;obtain⟨ie,hie⟩:=Dc.1 hp;refine go (fun i=>some (i*ie.size,ie.size)) (fun i off ft hi=> ?_) (fun cells hc=> ?_)
  .simp only[R8,hu,Bm,B3] at hi;obtain⟨rfl,rfl⟩:=hi;simp[B8,hie]
  .unfold Program.built;simp only[hi,hu,hzz,hie];exact hc
 .cases hp
end
section
variable {P:Program} {w0:Fr} {Oe:Nat->Option Nat} {J:List PV} {σ:St} {a:Act} {tm:Array Value} {w:World} {β:Nat->Nat} {hv:Nat->Value} {O:Nat->Option Nat} {G:Option E} {o:Oper} {ws:List W}
def Own.mono {B B':Nat->Prop} {e size n:Nat} {v:Value} {xs:List Value} (h:Own w B e size v n xs) (hb:∀g,B g->B' g):Own w B' e size v n xs:=by
 refine⟨h.1,?_⟩;rcases h.2 with h1|⟨g,cap,cur,h1,h2,h3,h4⟩
 .exact .inl h1
 .exact .inr ⟨g,cap,cur,h1,h2,hb g h3,h4⟩
def Rel.own {w':World} {O':Nat->Option Nat} {s e sz n:Nat} {ro:Ro} {x:E} {v:Value} {xs:List PV} {vs:List Value} (h:Rel w0 Oe J σ tm w β hv O)
  (hb:Blw w.heap.size w w') (hO:∀c,c<w.heap.size->O' c=O c) (hout:∀c,w'.heap.size<=c->O' c=none) (hO0:∀g,C8 v=some g->O' g=some 0)
  (hsz:0<sz) (hx:x.ev J=some (.l sz xs)) (how:Own w' (y3 w.heap.size) e sz v xs.length vs) (hel:I7 (Cr w' O') sz xs vs) (hlk:∀C':Cx,G7 C' sz xs.length vs ro.lk:=by intro _;trivial):
  ∃β' hv',Rel w0 Oe J (σ.eff (G6 σ.m n s (.arr e sz x ro))) tm w' β' hv' O'∧hv' s=v:=by
 let β':=fun s'=>if s'=s then(C8 v).getD 0 else β s'
 let hv':=fun s'=>if s'=s then v else hv s'
 have hβ:∀s',s'≠s->β' s'=β s':=fun s' hs=>if_neg hs;have hhv:∀s',s'≠s->hv' s'=hv s':=fun s' hs=>if_neg hs;have hβs:β' s=(C8 v).getD 0:=if_pos rfl;have hhvs:hv' s=v:=if_pos rfl;have hs0:w0.heap.size<=w.heap.size:=h.bel.size;have hM:(Cr w O).Le (Cr w' O'):=Hc (fun c hc _=>hb.block c hc) (fun c hc lim hl=>⟨lim,by rw[<-hO c hc];exact hl,B7 _⟩) (fun c hc hn=>by rw[hO c hc];exact hn);refine⟨β',hv',h.fresh (h.bel.then hb) hM hβ hhv (fun s' b' hs hb' hh=> ?_) (fun c hc hx=>by rw[hO c (F5 hc hs0)];exact h.ext c hc hx) hout ?_ (fun s' b' hs hb' hh hh2=> ?_),hhvs⟩
 .have hlt:=((h.mem s' b' hb').lt hh).2;exact⟨hb.block _ hlt,hO _ hlt⟩
 .refine⟨hsz,xs,vs,hx,?_,hel,fun g hg=> ?_,hlk _⟩
  .show Own w' w0.ok e sz (hv' s) xs.length vs;rw[hhvs];exact how.mono fun g hg=> .inl (En hs0 hg)
  .have hg':C8 (hv' s)=some g:=hg;rw[hhvs] at hg';refine⟨?_,0,hO0 g hg',D9 _,fun _=>rfl⟩;show g=β' s;rw[hβs,hg'];rfl
 .have hlt:β s'<w.heap.size:=((h.mem s' b' hb').lt hh).2;have hh2':C8 (hv' s)=some (β' s):=hh2;rw[hhvs] at hh2';have:=(how.lt _ hh2').1;omega
def Rel.ownNew {w':World} {s e sz n:Nat} {ro:Ro} {x:E} {v:Value} {xs:List PV} {vs:List Value} (h:Rel w0 Oe J σ tm w β hv O)
  (hb:Blw w.heap.size w w') (hw:w.heap.size+1<=w'.heap.size) (hv1:∀g,C8 v=some g->g=w.heap.size)
  (hsz:0<sz) (hx:x.ev J=some (.l sz xs)) (how:Own w' (y3 w.heap.size) e sz v xs.length vs) (hel:I7 (Cr w O) sz xs vs) (hlk:∀C':Cx,G7 C' sz xs.length vs ro.lk:=by intro _;trivial):
  ∃β' hv' O',Rel w0 Oe J (σ.eff (G6 σ.m n s (.arr e sz x ro))) tm w' β' hv' O'∧hv' s=v:=by
 let O':=fun c=>if c=w.heap.size then some 0 else O c
 have hO:∀c,c<w.heap.size->O' c=O c:=fun c hc=>if_neg (by omega);have hM:(Cr w O).Le (Cr w' O'):=Hc (fun c hc _=>hb.block c hc) (fun c hc lim hl=>⟨lim,by rw[<-hO c hc];exact hl,B7 _⟩) (fun c hc hn=>by rw[hO c hc];exact hn);obtain⟨β',hv',h1,h2⟩:=h.own (n:=n) (s:=s) (O':=O') hb hO (fun c hc=>by show (if c=w.heap.size then some 0 else O c)=none;rw[if_neg (by omega)];exact h.out c (by omega)) (fun g hg=>by rw[hv1 g hg];exact if_pos rfl) hsz hx how (hel.mono hM) hlk;exact⟨β',hv',O',h1,h2⟩
def w9 {M:Vw} {sz:Nat} (hsz:0<sz) {ps:List PV} {vs:List Value} (hl:ps.length=vs.length) (hok:Sq sz ps=true) (h1:∀v,v∈vs->v.cells.size=sz∧∀u,u∈v.cells.toList->One u)
  (h:∀(j:Nat) (p:PV) (v:Value),ps[j]? =some p->vs[j]? =some v->Rep M p v):I7 M sz ps (vs.flatMap fun v=>v.cells.toList):=by
 intro i x hx;have hxs:x.cells.length=sz:=by have:=(Db.1 hok) x (Cy hx);simpa using this
 refine⟨hxs,fun j c hc=> ?_⟩;have hj:j<sz:=by rw[<-hxs];exact(Bn.1 hc).1
 have hi:i<vs.length:=by rw[<-hl];exact(Bn.1 hx).1
 have hv:vs[i]? =some vs[i]:=B4 hi;obtain⟨g1,g2⟩:=h1 _ (Hj hi);have hk:(vs.flatMap fun v=>v.cells.toList)[i*sz+j]? =vs[i].cells[j]? :=by
  rw[Great.flat_get hsz vs (fun v hv=>(h1 v hv).1)];have e1:(i*sz+j) / sz=i:=by rw[G2,Nat.mul_add_div hsz,Nat.div_eq_of_lt hj,E5]
  have e2:(i*sz+j) % sz=j:=by rw[G2,Ym,E6 hj]
  rw[e1,e2,hv];rfl
 have hu:vs[i].cells[j]? =some (vs[i].cells[j]'(by omega)):=Eh (by omega);refine⟨_,hk.trans hu,g2 _ (by simp),?_⟩;have hr:=h i x _ hx hv;by_cases hpu:x= .u
 .subst hpu;cases j with
  |zero=>simp[PV.cells] at hc;subst hc;exact .u _
  |succ j=>simp[PV.cells] at hc
 .exact(hr.cells hpu).2.2 j c _ hc hu
def Vp {C:Cx} {m:List (Nat×Blk)} (hm:C.m=m) (harr:∀s e sz x ro,mget m s=some (.arr e sz x ro)->One (C.hv s)) {e:TypeId}:∀{svs:List SV} {vs:List Value} {ws:List W},Lp P m e svs=some ws->(∀x,W.chk x∈ws->∃p,x.ev C.J=some p)->Cb C svs vs->
  ∀v,v∈vs->v.cells.size=B8 P e∧∀u,u∈v.cells.toList->One u
 |[],vs,ws,_,_,hr,v,hv=>by simp only[Cb] at hr;subst hr;simp at hv
 |sv::svs,vs,ws,h,hk,hr,v,hv=>by
  simp only[Cb] at hr;obtain⟨y,r,rfl,h1,h2⟩:=hr;simp only[Lp] at h;split at h
  .rename_i ws1 cs1 ws2 hc hrec;injection h with h;subst h;rcases Cg.1 hv with rfl|hv
   .obtain⟨c1,_,c3,_⟩:=Jj hm hc (fun x hx=>hk x (Fq _ hx)) harr h1;exact⟨c1,c3⟩
   .exact Vp hm harr hrec (fun x hx=>hk x (C6 _ hx)) h2 v hv
  .cases h
def Mg.svs {C:Cx}:∀{vs:List (Nat×SV)} {ps:List (Nat×Value)},Mg C vs ps->Cb C (vs.map (·.2)) (ps.map (·.2))∧vs.map (·.1)=ps.map (·.1)
 |[],[],_=>by simp only[List.map_nil,Cb,and_self]
 |[],_::_,h=>h.elim
 |_::_,[],h=>h.elim
 |x::xs,y::ys,h=>by obtain⟨h1,h2,h3⟩:=h;obtain⟨g1,g2⟩:=Mg.svs h3;refine⟨?_,by simp only[Gs,h1,g2]⟩;simp only[Gs,Cb];exact⟨_,_,rfl,h2,g1⟩
def Yp:∀(ps:List (Nat×Value)) (k:Nat),ps.map (·.1)=List.range' k ps.length->ps=((ps.map (·.2)).zipIdx k).map fun x=>(x.2,x.1)
 |[],_,_=>rfl
 |p::ps,k,h=>by simp only[Gs,Cz,List.range'_succ,List.cons.injEq] at h;simp only[Gs,List.zipIdx_cons,List.cons.injEq];exact⟨by rw[<-h.1],Yp ps (k+1) h.2⟩
end
section
variable {P:Program} {w0:Fr} {Oe:Nat->Option Nat} {J:List PV} {σ:St} {a:Act} {tm:Array Value} {w:World} {β:Nat->Nat} {hv:Nat->Value} {O:Nat->Option Nat} {G:Option E} {o:Oper} {ws:List W}
def Nn (w:World) (t e:TypeId) (len:Nat) (parts:Array (Nat×Value)) (vs:List Value) (ie:TypeInfo) (z:Value)
  (hu:P.underlying t=some (.slice e)) (hie:P.info? e=some ie) (hz:ie.zero=some z) (hsmall:len*ie.size<=16777216) (hpos:0<ie.size) (hl:vs.length=len) (h1:∀v,v∈vs->v.cells.size=ie.size)
  (hp:parts.toList=(vs.zipIdx 0).map fun x=>(x.2,x.1)):
  (Instr.buildSlice t len parts).run P w= .ok (.slice (some ⟨w.heap.size,0,none⟩) len len) (w.alloc (.cells (vs.flatMap fun v=>v.cells.toList).toArray e)):=by
 by_cases h0:len=0
 .subst h0;have hvs:vs=[]:=Cp hl;subst hvs;have hpe:parts= #[]:=by rw[<-Dn (xs:=parts),hp];rfl
  subst hpe;simp[Instr.buildSlice,run_underlying hu,sizeOf,typeInfo,hie,Instr.fill,newRow];congr 2;exact Array.eq_empty_of_size_eq_zero (by simp)
 .have hlp:0<len*ie.size:=Nat.mul_pos (by omega) hpos;refine run_buildSlice w t e len parts _ ie z hu hie hz (by omega) (by omega) ?_;rw[hp];exact Great.fill_whole hpos vs _ h1 (by simp[hl])
def S4:∀{cs:List SV} {k j:Nat},Ow cs k=some j->k<=j∧∃n,cs[j - k]? =some (.nil n)
 |[],_,_,h=>by cases h
 | .nil n::r,k,j,h=>by simp only[Ow,Bm] at h;subst h;exact⟨B7 _,n,by simp⟩
 | .e _::r,k,j,h| .lit _ _::r,k,j,h| .may _ _::r,k,j,h| .und::r,k,j,h| .bp _ _::r,k,j,h| .ip _ _::r,k,j,h| .ap _ _ _::r,k,j,h
 | .suf _ _::r,k,j,h| .h _::r,k,j,h| .mh _::r,k,j,h| .tup _::r,k,j,h| .ag _::r,k,j,h| .clo _ _::r,k,j,h| .nilq _::r,k,j,h| .slf _ _::r,k,j,h=>by obtain⟨h1,n,h2⟩:=S4 (cs:=r) (k:=k+1) h;exact⟨by omega,n,by rw[show j - k=j - (k+1)+1 by omega];simpa using h2⟩
def S7 {m:List (Nat×Blk)} {e:TypeId}:∀{svs:List SV} {ws:List W},Lp P m e svs=some ws->∀sv,sv∈svs->∀w1 cs,cellsOf P m e sv=some (w1,cs)->∀x,x∈w1->x∈ws
 |[],_,_,sv,h=>by cases h
 |y::r,ws,h,sv,hs=>by
  intro w1 cs hc x hx;unfold Lp at h;split at h
  .rename_i wy _ ws' h1 h2;injection h with h;subst h;rcases Cg.1 hs with rfl|hs
   .rw[h1] at hc;simp only[Bm,B3] at hc;obtain⟨rfl,_⟩:=hc;exact Fq _ hx
   .exact C6 _ (S7 h2 sv hs w1 cs hc x hx)
  .cases h
def Cw6 {C:Cx} {m:List (Nat×Blk)} {e:TypeId} {svs:List SV} {us:List Value} {ws1:List W} (hm:C.m=m) (hel:Lp P m e svs=some ws1) (hk:∀x,W.chk x∈ws1->∃p,x.ev C.J=some p)
  (harr:∀s e sz x ro,mget m s=some (.arr e sz x ro)->One (C.hv s)) (hr:Cb C svs us) (hcells:∀v,v∈us->v.cells.size=B8 P e) (hpos:0<B8 P e) (C':Cx):
  G7 C' (B8 P e) us.length (us.flatMap fun v=>v.cells.toList) (Cw7 P m e svs):=by
 unfold Cw7;split
 .rename_i sv hsv;split
  .rename_i w1 cs hc;cases hf:Ow cs 0 with
   |none=>trivial
   |some k=>
    obtain⟨_,n,hn⟩:=S4 hf;simp only[Cc,G7];intro hlen;rw[List.getLast?_eq_getElem?] at hsv;obtain⟨v,hv,hrv⟩:=hr.get _ _ hsv;obtain⟨c1,c2,c3,c4⟩:=Jj hm hc (fun x hx=>hk x (S7 hel sv (Cy hsv) w1 cs hc _ hx)) harr hrv;obtain⟨u,hu,hru⟩:=c4.get _ _ hn;simp only[Cj] at hru;subst hru;rw[hr.length] at hv;have hkl:k<B8 P e:=by have:=(Bn.1 hu).1;simp at this;omega
    rw[Great.flat_get hpos us hcells];have e1:((us.length - 1)*B8 P e+k) / B8 P e=us.length - 1:=by rw[G2,Nat.mul_add_div hpos,Nat.div_eq_of_lt hkl,E5]
    have e2:((us.length - 1)*B8 P e+k) % B8 P e=k:=by rw[G2,Ym,E6 hkl]
    rw[e1,e2,hv];simpa using hu
  .trivial
 .trivial
def Nr {t e:TypeId} {len:Nat} {parts:Array (Nat×Operand)} {tf:Nat->TypeId} {zs:List SV} {vs:List (Nat×SV)} {ws1:List W} {es:List E} {ss:List Nat} {s:Nat} {own:Bool} {r:SV} {ε:Eff} (ho:o.op= .buildSlice t len parts) (ht:P.underlying t=some (.slice e))
  (h:Rel w0 Oe J σ a.tmps w β hv O) (hG:GOk J G) (hz:Ib P e=some zs) (hvs:At1 P σ G tf parts.toList=some vs) (hr0:vs.map (·.1)=List.range len) (hsm:len*B8 P e<=16777216) (hsz:B8 P e≠0)
  (hel:Lp P σ.m e (vs.map (·.2))=some ws1) (hes:fw σ.m (vs.map (·.2))=some (es,ss)) (hk:Chk J (ws1++[.chk (.lit (B8 P e) es)]))
  (hres:own=false∧r= .lit (B8 P e) (.lit (B8 P e) es)∧ε=⟨Ks ss σ.m,σ.n,none⟩∨own=true∧r= .h s∧∃lk,ε=G6 (Ks ss σ.m) σ.n s (.arr e (B8 P e) (.lit (B8 P e) es) ⟨false,lk⟩)∧(lk=none∨lk=Cw7 P σ.m e (vs.map (·.2)))):
  Ed P o a w (G1 w0 Oe J σ a.tmps ε r):=by
 let C:Cx:=⟨J,Cr w O,β,hv,σ.m⟩;obtain⟨i,z,hi,hzz,hzs,_,_⟩:=Hk (C:=C) hz;have his:B8 P e=i.size:=by simp[B8,hi]
 have hparts:=gw (C:=C) rfl hG h.tmps hvs;obtain⟨p1,p2⟩:=hparts.svs;let us:=(parts.toList.map fun p=>(p.1,a.eval p.2)).map (·.2);have hlen:us.length=len:=by
  have e1:(vs.map (·.1)).length=len:=by rw[hr0];simp
  rw[p2] at e1;simpa [us] using e1
 have hcells:=Vp (C:=C) rfl h.oneH hel (fun x hx=>hk x (Fq _ hx)) p1;have hpz:(parts.map fun (i,x)=>(i,a.eval x)).toList=(us.zipIdx 0).map fun x=>(x.2,x.1):=by
  have e1:(parts.map fun (i,x)=>(i,a.eval x)).toList=parts.toList.map fun p=>(p.1,a.eval p.2):=by simp
  rw[e1];refine Yp _ 0 ?_;rw[<-p2,hr0,List.range_eq_range'];congr 1;rw[<-hlen];simp[us]
 have hrun:=Nn w t e len _ us i z ht hi hzz (by rw[<-his];exact hsm) (by omega) hlen (fun v hv=>by rw[<-his];exact(hcells v hv).1) hpz;obtain⟨O',hrel,hM,hop,_⟩:=h.frz ss (n:=σ.n);obtain⟨ps,q1,q2,q3⟩:=O3 h hM hes p1 (fun s hs=>hop s (by simpa using hs));obtain⟨q,hq⟩:=hk (.lit (B8 P e) es) (by simp);have hq':=hq;simp only[E.ev,q1,Bs,K1] at hq';split at hq'
 .rename_i hok;injection hq' with hq';have hel':=w9 (M:=Cr w O') (by omega) (q2.trans rfl) hok hcells q3;let cells:=(us.flatMap fun v=>v.cells.toList).toArray;have hpl:ps.length=len:=q2.trans hlen;have hbel:Blw w.heap.size w (w.alloc (.cells cells e)):=(Blw.refl _ _).alloc (B7 _) _;have hcs:cells.size=len*B8 P e:=by
   have:∀l:List Value,(∀v,v∈l->v.cells.size=B8 P e)->(l.flatMap fun v=>v.cells.toList).length=l.length*B8 P e:=by
    intro l
    induction l with
    |nil=>intro _;simp
    |cons v l ih=>
     intro hl;rw[Hs,Br,ih (fun u hu=>hl u (.tail _ hu)),C3,hl v (.head _),Cz,C9,Gh,Nat.add_comm]
   have e1:=this us (fun v hv=>(hcells v hv).1);rw[hlen] at e1;simpa [cells] using e1
  rcases hres with⟨_,rfl,rfl⟩|⟨_,rfl,lk,rfl,hlk⟩
  .have hrel2:=hrel.below hbel;have hM2:(Cr w O').Le (Cr (w.alloc (.cells cells e)) O'):=Hc (fun c hc _=>hbel.block c hc) (fun c _ lim hl=>⟨lim,hl,B7 _⟩) (fun c _ hn=>hn);have hout:O' w.heap.size=none:=hrel.out _ (B7 _);refine Ed.value (v:= .slice (some ⟨w.heap.size,0,none⟩) len len) (w':=w.alloc (.cells cells e)) ?_ ⟨β,hv,O',hrel2,?_⟩
   .simp only[execOp,ho,Sem.run_bind,hrun,Result.andThen];rfl
   .simp only[Cj];refine⟨ps,some ⟨w.heap.size,0,none⟩,hq.trans (by rw[<-hq']),by rw[hpl],?_⟩;rw[<-hpl];have get:∀(i:Nat) (x:PV) (j:Nat) (c:PV),ps[i]? =some x->x.cells[j]? =some c->∃u,cells[i*B8 P e+j]? =some u∧One u∧Rep (Cr w O') c u:=by intro i x j c hx hc;obtain⟨u,g1,g2,g3⟩:=(hel' i x hx).2 j c hc;exact⟨u,(List.getElem?_toArray ..).trans g1,g2,g3⟩
    refine .l _ _ _ _ ⟨w.heap.size,0,none⟩ (fun i j=>cells.getD (i*B8 P e+j) undef) (B7 _) (fun _=>rfl) (fun i x hx=>(hel' i x hx).1) (fun i x j c hx hc=> ?_) (fun i x j c hx hc=> ?_) (fun i x j c hx hc=> ?_)
    .obtain⟨u,g1,g2,g3⟩:=get i x j c hx hc;rw[add_lit];refine Fy ?_ fun lim hl=> ?_
     .have:(w.alloc (.cells cells e)).cell? ⟨w.heap.size,0+(i*B8 P e+j),none⟩=cells[0+(i*B8 P e+j)]? :=cell_of_row _ _ _ cells e (0,0) (heap_alloc_new w _);rw[this,Fl,g1];simp[Cf,g1]
     .rw[show O' w.heap.size=none from hout] at hl;cases hl
    .obtain⟨u,g1,g2,g3⟩:=get i x j c hx hc;simp only[Cf,g1,D2];exact g2
    .obtain⟨u,g1,g2,g3⟩:=get i x j c hx hc;simp only[Cf,g1,D2];exact g3.mono hM2
  .have hown:=Own.of (World.ownsRow_lit (e:=e) (size:=B8 P e) (base:=w.heap.size) w cells len (B7 _) (by have h1:len*1<=len*B8 P e:=Nat.mul_le_mul_left _ (by omega);simp only[maxLen];omega) hcs);obtain⟨β',hv',O'',r1,r2⟩:=hrel.ownNew (n:=σ.n) (s:=s) (e:=e) (sz:=B8 P e) (x:= .lit (B8 P e) es) (v:= .slice (some ⟨w.heap.size,0,none⟩) len len) (xs:=ps) (vs:=us.flatMap fun v=>v.cells.toList) hbel (by simp)
    (fun g hg=>by simp only[C8] at hg;split at hg<;>simp at hg;exact hg.symm) (by omega) (hq.trans (by rw[<-hq'])) (by rw[hpl];simpa [cells] using hown) hel' (ro:=⟨false,lk⟩) (fun C'=>by
     rcases hlk with rfl|rfl
     .trivial
     .rw[hpl,<-hlen];exact Cw6 (C:=C) rfl hel (fun x hx=>hk x (Fq _ hx)) h.oneH p1 (fun v hv=>(hcells v hv).1) (by omega) C')
   refine Ed.value (v:= .slice (some ⟨w.heap.size,0,none⟩) len len) (w':=w.alloc (.cells cells e)) ?_ ⟨β',hv',O'',r1,?_⟩
   .simp only[execOp,ho,Sem.run_bind,hrun,Result.andThen];rfl
   .simp only[Cj];exact r2.symm
 .cases hq'
end
section
variable {P:Program} {w0:Fr} {Oe:Nat->Option Nat} {J:List PV} {σ:St} {a:Act} {tm:Array Value} {w:World} {β:Nat->Nat} {hv:Nat->Value} {O:Nat->Option Nat} {G:Option E} {o:Oper} {ws:List W}
def Src (w:World) (O:Nat->Option Nat) (sz:Nat) (ys:List PV) (v:Value) (news:List Value):Prop:=
 news.length=ys.length*sz∧(∀u,u∈news->One u)∧I7 (Cr w O) sz ys news∧∃b c,v= .slice b ys.length c∧(ys≠[]->∃ad,b=some ad∧∀j u,news[j]? =some u->w.cell? (ad.add j)=some u)
def Ac5 {sz:Nat} {ys:List PV} {v:Value} (hsz:0<sz) (hr:Rep (Cr w O) (.l sz ys) v):∃news,Src w O sz ys v news:=by
 cases hr with
 |l _ _ b cap ad el hc hb hs hM h1 hh=>
  have each:∀k,k<ys.length*sz->∃y c,ys[k / sz]? =some y∧y.cells[k % sz]? =some c:=by intro k hk;have hi:k / sz<ys.length:=Nat.div_lt_of_lt_mul (by rw[G2];exact hk);have hy:ys[k / sz]? =some ys[k / sz]:=B4 hi;have hl:=hs _ _ hy;exact⟨_,_,hy,B4 (by rw[hl];exact Nat.mod_lt _ hsz)⟩
  refine⟨(List.range (ys.length*sz)).map fun k=>el (k / sz) (k % sz),by simp,fun u hu=> ?_,fun i x hx=>⟨hs i x hx,fun j c hcj=> ?_⟩,b,cap,rfl,fun hne=>⟨ad,hb hne,fun j u hu=> ?_⟩⟩
  .simp only[Bm8,Hr] at hu;obtain⟨k,hk,rfl⟩:=hu;obtain⟨y,c,hy,hc'⟩:=each k hk;exact h1 _ _ _ _ hy hc'
  .have hj:j<sz:=by rw[<-hs i x hx];exact(Bn.1 hcj).1
   have hi:=(Bn.1 hx).1;have hlt:i*sz+j<ys.length*sz:=by have:(i+1)*sz<=ys.length*sz:=Cn _ hi;rw[C9,Gh] at this;omega
   have e1:(i*sz+j) / sz=i:=by rw[G2,Nat.mul_add_div hsz,Nat.div_eq_of_lt hj,E5]
   have e2:(i*sz+j) % sz=j:=by rw[G2,Ym,E6 hj]
   refine⟨el i j,?_,h1 i x j c hx hcj,hh i x j c hx hcj⟩;rw[C4,Dx hlt];simp only[Cc,e1,e2]
  .simp only[C4,Bp] at hu;obtain⟨k,hk,rfl⟩:=hu;have hk1:=(Bn.1 hk).1;simp only[lz] at hk1;rw[Dx hk1] at hk;injection hk with hk;subst hk;obtain⟨y,c,hy,hc'⟩:=each j hk1;have:=(Lj (hM _ _ _ _ hy hc')).1;rwa[show j / sz*sz+j % sz=j by rw[G2];exact Nat.div_add_mod j sz] at this
def Db4 {s e sz:Nat} {y:E} {ro:Ro} {ys:List PV} (h:Rel w0 Oe J σ tm w β hv O) (hb:mget σ.m s=some (.arr e sz y ro)) (hy:y.ev J=some (.l sz ys)):∃news,Src w O sz ys (hv s) news∧G7 ⟨J,Cr w O,β,hv,σ.m⟩ sz ys.length news ro.lk:=by
 obtain⟨h0,xs,vs,g1,g2,g3,g4,g5⟩:=h.mem s _ hb;have g1':y.ev J=some (.l sz xs):=g1;rw[hy] at g1';injection g1' with g1';injection g1' with _ g1';subst g1';have hl:=g2.1;refine⟨vs,⟨hl,fun u hu=> ?_,g3,?_⟩,g5⟩
 .obtain⟨k,hk⟩:=Fv hu;have hk1:=(Bn.1 hk).1;rw[hl] at hk1;have hi:k / sz<ys.length:=Nat.div_lt_of_lt_mul (by rw[G2];exact hk1);obtain⟨l1,l2⟩:=g3 (k / sz) _ (B4 hi);obtain⟨u',m1,m2,_⟩:=l2 (k % sz) _ (B4 (by rw[l1];exact Nat.mod_lt _ h0));rw[show k / sz*sz+k % sz=k by rw[G2];exact Nat.div_add_mod k sz,hk] at m1;injection m1 with m1;subst m1;exact m2
 .rcases g2.2 with⟨b,e1,e2⟩|⟨g,cap,cur,e1,e1c,_⟩
  .exact⟨b,0,by rw[e2];exact e1,fun hne=>absurd (Cp e2) hne⟩
  .exact⟨_,cap,e1,fun _=>⟨_,rfl,fun j u hu=>g2.cells (g:=g) (by rw[e1];simp only[C8,if_neg (show¬cap=0 by omega)]) j u hu⟩⟩
def Qd (t ty e:TypeId) (i:TypeInfo) (z:Value) (ht:P.underlying t=some (.slice e)) (hi:P.info? e=some i) (hz:i.zero=some z)
  (b:Option Addr) (ad:Addr) (n c:Nat) (news:List Value) (hl:news.length=n*i.size) (hnews:∀j v,news[j]? =some v->w.cell? (ad.add j)=some v)
  (h0:0<n) (h63:(n:Int)<=9223372036854775807) (h48:n*i.bytes<=281474976710656):
  (Builtin.append_ #[t,t] ty #[.slice b 0 0,.slice (some ad) n c]).run P w=
   .ok (.slice (some ⟨w.heap.size,0,none⟩) n (grownCap w n 0 e)) (w.drew.alloc (.cells (news.toArray++Builtin.zeroCells z.cells (grownCap w n 0 e - n)) e)):=by
 cases b with
 |none=>exact run_append_nil w t ty e i z ht hi hz ad n c news hl hnews h0 h63 h48
 |some b=>
  have hn:n≠0:=by omega
  have h63':¬(9223372036854775807<(n:Int)):=by omega
  have h48':¬(281474976710656<Builtin.nextslicecap n 0*i.bytes):=by rw[nextslicecap_zero h0];omega
  have hf:=run_firstCells_some (P:=P) w.drew i.size n ad n c news hl (by simpa using hnews);have hf0:=run_firstCells_some (P:=P) w.drew i.size 0 b 0 0 [] (by simp) (by simp);simp[Builtin.append_,run_underlying ht,sizeOf,typeInfo,zeroValue,hi,hz,Builtin.lenOf,hn,h63',h48',Question.forced,hf0,hf,newRow,grownCap]
def Rs (t ty e:TypeId) (ht:P.underlying t=some (.slice e)) (hi:(P.info? e).isSome) (b b':Option Addr) (n cap c:Nat) (hn:n<=cap):
  (Builtin.append_ #[t,t] ty #[.slice b n cap,.slice b' 0 c]).run P w= .ok (.slice b n cap) w:=by
 obtain⟨i,hi⟩:=Dc.1 hi;have hf0:∀b' c,(Builtin.firstCells i.size 0 (.slice b' 0 c)).run P w= .ok #[] w:=by
  intro b' c;cases b' with
  |none=>simp[Builtin.firstCells]
  |some ad=>exact run_firstCells_some (P:=P) w i.size 0 ad 0 c [] (by simp) (by simp)
 cases b<;>simp[Builtin.append_,run_underlying ht,sizeOf,typeInfo,hi,Builtin.lenOf,hn,hf0,storeCells]
def I7.append {M:Vw} {sz:Nat} {xs ys:List PV} {vs us:List Value} (hl:vs.length=xs.length*sz) (h1:I7 M sz xs vs) (h2:I7 M sz ys us):I7 M sz (xs++ys) (vs++us):=by
 intro i x hx;rw[List.getElem?_append] at hx;split at hx
 .rename_i hi;obtain⟨g1,g2⟩:=h1 i x hx;refine⟨g1,fun j c hc=> ?_⟩;obtain⟨u,k1,k2,k3⟩:=g2 j c hc;exact⟨u,by rw[Cd (Bn.1 k1).1];exact k1,k2,k3⟩
 .rename_i hi;obtain⟨g1,g2⟩:=h2 _ x hx;refine⟨g1,fun j c hc=> ?_⟩;obtain⟨u,k1,k2,k3⟩:=g2 j c hc;have hle:xs.length*sz<=i*sz:=Cn _ (by omega);refine⟨u,?_,k2,k3⟩;rw[Cw (by omega),hl];have:i*sz+j - xs.length*sz=(i - xs.length)*sz+j:=by rw[Nat.mul_sub_right_distrib];omega
  rw[this];exact k1
def et {w w':World} {O:Nat->Option Nat} {g lim:Nat} (hO:O g=some lim) (hb:∀c,c≠g->w'.heap[c]? =w.heap[c]?) (hg:∀(a:Addr) (v:Value),a.block=g->a.off<lim->w.cell? a=some v->w'.cell? a=some v):(Cr w O).Le (Cr w' O):=by
 constructor
 .intro a v h;obtain⟨h1,h2⟩:=Lj h;by_cases ha:a.block=g
  .have:=h2 lim (by rw[ha];exact hO);exact Fy (hg a v ha this h1) h2
  .refine Fy ?_ h2;rw[World.cell?_of_block (hb a.block ha)];exact h1
 .intro r es h;obtain⟨h1,c,h2⟩:=Wv h;have hr:r≠g:=fun e=>by subst e;rw[hO] at h1;cases h1
  exact M1 h1 (by rw[hb r hr];exact h2)
def f8 {c:Call} {d x:Operand} {t u:TypeId} (ho:o.op= .call c) (hc:c.callee= .builtin .append) (ha:c.args.toList=[d,x]) (hty:c.argTypes.toList=[t,u]) {v:Value} {w':World}
  (h:(Builtin.append_ #[t,u] o.type #[a.eval d,a.eval x]).run P w= .ok v w'):(execOp a.eval o).run P w= .ok (.value v) w':=by
 have hargs:c.args= #[d,x]:=by rw[<-Dn (xs:=c.args),ha]
 have htys:c.argTypes= #[t,u]:=by rw[<-Dn (xs:=c.argTypes),hty]
 simp[execOp,ho,resolve,hc,hargs,htys,invoke,builtin,h]
structure SrcR (P:Program) (w:World) (O:Nat->Option Nat) (t u ty e:TypeId) (ys:List PV) (vx:Value) (news:List Value):Prop where
 len:news.length=ys.length*B8 P e
 one:∀u,u∈news->One u
 el:I7 (Cr w O) (B8 P e) ys news
 none:ys=[]->∀(b:Option Addr) (n cap:Nat),n<=cap->(Builtin.append_ #[t,u] ty #[.slice b n cap,vx]).run P w= .ok (.slice b n cap) w
 fresh:ys≠[]->ys.length<=LIM->∀(i:TypeInfo) (z:Value) (b:Option Addr),P.info? e=some i->i.zero=some z->i.bytes<=65536->(Builtin.append_ #[t,u] ty #[.slice b 0 0,vx]).run P w=
   .ok (.slice (some ⟨w.heap.size,0,.none⟩) ys.length (grownCap w ys.length 0 e)) (w.drew.alloc (.cells (news.toArray++Builtin.zeroCells z.cells (grownCap w ys.length 0 e - ys.length)) e))
 room:ys≠[]->∀(i:TypeInfo) (g sLen sCap:Nat) (cur:Array Value),P.info? e=some i->w.heap[g]? =some (.cells cur e (0,0))->sLen+ys.length<=sCap->sLen*i.size+news.length<=cur.size->
   (Builtin.append_ #[t,u] ty #[.slice (some ⟨g,0,.none⟩) sLen sCap,vx]).run P w= .ok (.slice (some ⟨g,0,.none⟩) (sLen+ys.length) sCap) (w.setRow g (cur.toList.take (sLen*i.size)++news++cur.toList.drop (sLen*i.size+news.length)).toArray)
 grow:ys≠[]->∀(i:TypeInfo) (z:Value) (ad:Addr) (sLen sCap:Nat) (olds:List Value),P.info? e=some i->i.zero=some z->i.bytes<=65536->olds.length=sLen*i.size->(∀j v,olds[j]? =some v->w.cell? (ad.add j)=some v)->sCap<sLen+ys.length->sLen+ys.length<=LIM->
   (Builtin.append_ #[t,u] ty #[.slice (some ad) sLen sCap,vx]).run P w= .ok (.slice (some ⟨w.heap.size,0,.none⟩) (sLen+ys.length) (grownCap w (sLen+ys.length) sCap e))
    (w.drew.alloc (.cells (olds.toArray++news.toArray++Builtin.zeroCells z.cells (grownCap w (sLen+ys.length) sCap e - (sLen+ys.length))) e))
def Src.runs {t ty e:TypeId} {ys:List PV} {vx:Value} {news:List Value} (ht:P.underlying t=some (.slice e)) (hi0:(P.info? e).isSome=true) (h:Src w O (B8 P e) ys vx news):SrcR P w O t t ty e ys vx news:=by
 obtain⟨hl,h1,hel,bb,c,rfl,hcells⟩:=h;have size:∀i,P.info? e=some i->B8 P e=i.size:=fun i hi=>by simp[B8,hi]
 refine⟨hl,h1,hel,fun hy b n cap hn=> ?_,fun hy hlim i z b hi hz hbb=> ?_,fun hy i g sLen sCap cur hi hg hroom hfit=> ?_,fun hy i z ad0 sLen sCap olds hi hz hbb hlo holds hgr hlim=> ?_⟩
 .subst hy;exact Rs t ty e ht hi0 b bb n cap c hn
 .obtain⟨ad,rfl,hcell⟩:=hcells hy;have hpos:0<ys.length:=C2.2 hy;simp only[LIM] at hlim;have hb2:ys.length*i.bytes<=1073741824*65536:=Jq hlim hbb;exact Qd (P:=P) (w:=w) t ty e i z ht hi hz b ad ys.length c news (by rw[<-size i hi];exact hl) hcell hpos (by omega) (by omega)
 .obtain⟨ad,rfl,hcell⟩:=hcells hy;exact run_append_room (P:=P) w t ty e i ht hi g sLen sCap cur hg ad ys.length c news (by rw[<-size i hi];exact hl) hcell h1 hroom hfit
 .obtain⟨ad,rfl,hcell⟩:=hcells hy;simp only[LIM] at hlim;have hb2:(sLen+ys.length)*i.bytes<=1073741824*65536:=Jq hlim hbb;exact run_append_grow (P:=P) w t ty e i z ht hi hz ad0 sLen sCap olds hlo holds ad ys.length c news (by rw[<-size i hi];exact hl) hcell hgr (by omega) (growslice_fits (by omega) (by omega))
def G7.append {C:Cx} {sz n m:Nat} {vs news:List Value} (hl:vs.length=n*sz):∀{lk:Option (Nat×Option (Option Nat))},G7 C sz m news lk->(lk=none∨0<m)->G7 C sz (n+m) (vs++news) lk
 |none,_,_=>trivial
 |some (_,none),_,_=>trivial
 |some (off,some t),h,hm=>by
  have hm':0<m:=by simpa using hm
  have h':=h hm';intro _;rw[Cw (by rw[hl];have:n*sz<=(n+m - 1)*sz:=Cn _ (by omega);omega),hl];rw[show (n+m - 1)*sz+off - n*sz=(m - 1)*sz+off by rw[show n+m - 1=n+(m - 1) by omega,C9];omega];exact h'
def J0 {t u ty e:TypeId} {s:Nat} {b:Option Addr} {ys:List PV} {news:List Value} {vx:Value} {X:E} {ro:Ro} {n':Nat} (h:Rel w0 Oe J σ tm w β hv O) (hinfo:D8 P e=true)
  {i:TypeInfo} {z:Value} (hi:P.info? e=some i) (hz:i.zero=some z) (hzs:z.cells.size=i.size) (hsrc:SrcR P w O t u ty e ys vx news) (hX:X.ev J=some (.l (B8 P e) ys)) (hlim:ys.length<=LIM) (hlk:∀C':Cx,G7 C' (B8 P e) ys.length news ro.lk:=by intro _;trivial):
  ∃v' w' β' hv' O',(Builtin.append_ #[t,u] ty #[.slice b 0 0,vx]).run P w= .ok v' w'∧Rel w0 Oe J (σ.eff (G6 σ.m n' s (.arr e (B8 P e) X ro))) tm w' β' hv' O'∧hv' s=v':=by
 have his:B8 P e=i.size:=by simp[B8,hi]
 have hib:Jp P e=i.bytes:=by simp[Jp,hi]
 simp only[D8,Bt,decide_eq_true_eq] at hinfo;obtain⟨⟨hb0,hb1⟩,hsz⟩:=hinfo;have hl:=hsrc.len;have hel:=hsrc.el;by_cases hy:ys=[]
 .subst hy;have hn0:news=[]:=Cp (by simpa using hl);subst hn0;obtain⟨β',hv',r1,r2⟩:=h.own (n:=n') (s:=s) (e:=e) (ro:=ro) (x:=X) (v:= .slice b 0 0) (xs:=[]) (vs:=[]) (w':=w) (O':=O) (Blw.refl _ _) (fun _ _=>rfl) h.out (fun g hg=>by cases b<;>simp[C8] at hg) hsz hX
   ⟨by simp,.inl ⟨b,rfl,rfl⟩⟩ (fun i x hx=>by simp at hx) hlk
  exact⟨_,w,β',hv',O,hsrc.none rfl b 0 0 (B7 _),r1,r2⟩
 .have hpos:0<ys.length:=C2.2 hy;have hrun:=hsrc.fresh hy hlim i z b hi hz (by omega);simp only[LIM] at hlim;generalize hC:(news.toArray++Builtin.zeroCells z.cells (grownCap w ys.length 0 e - ys.length))=C at hrun;have hge:=grownCap_ge w ys.length 0 e;have hmx:=grownCap_le_maxLen w ys.length 0 e (by simp only[maxLen];omega);have hbel:Blw w.heap.size w (w.drew.alloc (.cells C e)):=((Blw.refl _ _).drew).alloc (B7 _) _;have hCs:C.size=grownCap w ys.length 0 e*B8 P e:=by rw[<-hC,Nx,size_zeroCells,Jl,hl,hzs,<-his,<-C9];congr 1;omega
  have hown:Own (w.drew.alloc (.cells C e)) (y3 w.heap.size) e (B8 P e) (.slice (some ⟨w.heap.size,0,none⟩) ys.length (grownCap w ys.length 0 e)) ys.length news:=by refine⟨hl,.inr ⟨w.heap.size,_,C,rfl,by omega,B7 _,heap_alloc_new w.drew _,hge,hmx,hCs,?_⟩⟩;rw[<-hC,Qt,<-hl];exact y5
  obtain⟨β',hv',O',r1,r2⟩:=h.ownNew (n:=n') (s:=s) (e:=e) (ro:=ro) (x:=X) (xs:=ys) (vs:=news) hbel (by simp) (fun g hg=>by simp only[C8] at hg;split at hg<;>simp at hg;exact hg.symm) hsz hX hown hel hlk;exact⟨_,_,β',hv',O',hrun,r1,r2⟩
end
section
variable {P:Program} {w0:Fr} {Oe:Nat->Option Nat} {J:List PV} {σ:St} {a:Act} {tm:Array Value} {w:World} {β:Nat->Nat} {hv:Nat->Value} {O:Nat->Option Nat} {G:Option E} {o:Oper} {ws:List W}
def V0 {t u ty e:TypeId} {s s0:Nat} {σ2:St} {xs ys:List PV} {news:List Value} {vx:Value} {y X:E} {ro:Ro} {lk:Option (Nat×Option (Option Nat))} {n':Nat} (h:Rel w0 Oe J σ tm w β hv O) (h2:Rel w0 Oe J σ2 tm w β hv O) (hsub:∀s' b',s'≠s->mget σ2.m s'=some b'->s'≠s0∧mget σ.m s'=some b') (hinfo:D8 P e=true)
  {i:TypeInfo} {z:Value} (hi:P.info? e=some i) (hz:i.zero=some z) (hzs:z.cells.size=i.size) (hb:mget σ.m s0=some (.arr e (B8 P e) y ro)) (hy:y.ev J=some (.l (B8 P e) xs)) 
  (hsrc:SrcR P w O t u ty e ys vx news) (hX:X.ev J=some (.l (B8 P e) (xs++ys))) (hlim:xs.length+ys.length<=LIM) (hlk:∀C':Cx,G7 C' (B8 P e) ys.length news lk:=by intro _;trivial) (hne:lk=none∨0<ys.length:=by exact .inl rfl):
  ∃v' w' β' hv' O',(Builtin.append_ #[t,u] ty #[hv s0,vx]).run P w= .ok v' w'∧Rel w0 Oe J (σ2.eff (G6 σ2.m n' s (.arr e (B8 P e) X ⟨ro.b,lk⟩))) tm w' β' hv' O'∧hv' s=v':=by
 obtain⟨h0,xs',vs,g1,g2,g3,g4,_⟩:=h.mem s0 _ hb;have g1':y.ev J=some (.l (B8 P e) xs'):=g1;rw[hy] at g1';injection g1' with g1';injection g1' with _ g1';subst g1';rcases g2.2 with⟨b,e1,e2⟩|⟨g,cap,cur,e1,e1c,e2,e3,e4,e5,e6,e7⟩
 .have e1':hv s0= .slice b 0 0:=e1;have hx0:xs=[]:=Cp e2;subst hx0;rw[e1'];exact J0 h2 hinfo hi hz hzs hsrc hX (by simpa using hlim) hlk
 .have e1':hv s0= .slice (some ⟨g,0,none⟩) xs.length cap:=e1;have his:B8 P e=i.size:=by simp[B8,hi]
  have hhas:Has ⟨J,Cr w O,β,hv,σ.m⟩ s0 (.arr e (B8 P e) y ro):=by
   have hg:C8 (hv s0)=some g:=by rw[e1'];simp only[C8,if_neg (show¬cap=0 by omega)]
   have:=(g4 g hg).1;have h3:g=β s0:=this;show C8 (hv s0)=some (β s0);rw[hg,h3]
  have hg:C8 (hv s0)=some g:=by rw[e1'];simp only[C8,if_neg (show¬cap=0 by omega)]
  obtain⟨hgβ,lim,hOg,hlim1,hlim2⟩:=g4 g hg;have hgβ':g=β s0:=hgβ;have hinfo':=hinfo;simp only[D8,Bt,decide_eq_true_eq] at hinfo';obtain⟨⟨hb0,hb1⟩,hsz⟩:=hinfo';have hib:Jp P e=i.bytes:=by simp[Jp,hi]
  have hl:=hsrc.len;have h1:=hsrc.one;have hel:=hsrc.el;have hlim0:=hlim;simp only[LIM] at hlim;have keep:∀(w':World) (cur':Array Value),(∀c,c≠g->w'.heap[c]? =w.heap[c]?)->w'.heap[g]? =some (.cells cur' e (0,0))->w'.heap.size=w.heap.size->Bel w0 w'->cur'.size=cap*B8 P e->xs.length+ys.length<=cap->cur'.toList.take ((xs.length+ys.length)*B8 P e)=vs++news->
    (Builtin.append_ #[t,u] ty #[hv s0,vx]).run P w= .ok (.slice (some ⟨g,0,none⟩) (xs.length+ys.length) cap) w'->
    ∃v' w' β' hv' O',(Builtin.append_ #[t,u] ty #[hv s0,vx]).run P w= .ok v' w'∧Rel w0 Oe J (σ2.eff (G6 σ2.m n' s (.arr e (B8 P e) X ⟨ro.b,lk⟩))) tm w' β' hv' O'∧hv' s=v':=by
   intro w' cur' hoth hnew hsize hbel hcs hcap htake hrun;let β':=fun s'=>if s'=s then g else β s'
   have hβ:∀s',s'≠s->β' s'=β s':=fun s' hs=>if_neg hs;have hβs:β' s=g:=if_pos rfl;let hv':=fun s'=>if s'=s then(.slice (some ⟨g,0,none⟩) (xs.length+ys.length) cap:Value) else hv s'
   have hhv:∀s',s'≠s->hv' s'=hv s':=fun s' hs=>if_neg hs;have hhvs:hv' s= .slice (some ⟨g,0,none⟩) (xs.length+ys.length) cap:=if_pos rfl;have hlenvs:vs.length=xs.length*B8 P e:=g2.1;have hM:(Cr w O).Le (Cr w' O):=by
    refine et hOg hoth fun ad v hab hoff hcell=> ?_;have hold:w.cell? ⟨g,ad.off,none⟩=cur[ad.off]? :=cell_of_row w g ad.off cur e (0,0) e3;have c1:w.cell? ad=w.cell? ⟨g,ad.off,none⟩∧w'.cell? ad=w'.cell? ⟨g,ad.off,none⟩∨w.cell? ad=none:=by
     cases hsp:ad.spot with
     |none=>left;rw[<-hab];constructor<;>(congr 1;cases ad;simp_all)
     |some sp=>right;simp only[World.cell?,hsp];split<;>simp
    rcases c1 with⟨c1,c2⟩|c1
    .rw[c1,hold] at hcell;rw[c2,cell_of_row w' g ad.off cur' e (0,0) hnew];have ho:ad.off<xs.length*B8 P e:=by omega
     have h5:cur.toList[ad.off]? =vs[ad.off]? :=by rw[<-e7,Ch,if_pos ho]
     have h6:cur'.toList[ad.off]? =(vs++news)[ad.off]? :=by rw[<-htake,Ch,if_pos];rw[C9];omega
     rw[<-B6,h6,Cd (by omega),<-h5,B6];exact hcell
    .rw[c1] at hcell;cases hcell
   have hown:Own w' w0.ok e (B8 P e) (hv' s) (xs++ys).length (vs++news):=by rw[hhvs,Br];exact⟨by rw[Br,hl,hlenvs,C9],.inr ⟨g,cap,cur',rfl,e1c,e2,hnew,hcap,e5,hcs,htake⟩⟩
   have hinj:∀s' b',s'≠s->mget σ2.m s'=some b'->Has ⟨J,Cr w O,β,hv,σ2.m⟩ s' b'->β s'≠g:=fun s' b' hs hb' hh=>by obtain⟨k1,k2⟩:=hsub s' b' hs hb';rw[hgβ'];exact h.inj s' s0 b' _ k2 hb k1 (by cases b'<;>exact hh) hhas
   refine⟨_,w',β',hv',O,hrun,h2.fresh hbel hM hβ hhv (fun s' b' hs hb' hh=>⟨hoth _ (hinj s' b' hs hb' hh),rfl⟩) h.ext (fun c hc=>h.out c (by omega)) ?_ (fun s' b' hs hb' hh _=>by rw[hβs];exact hinj s' b' hs hb' hh),hhvs⟩;refine⟨hsz,xs++ys,vs++news,hX,hown,(g3.append hlenvs hel).mono hM,fun g' hg'=> ?_,by rw[Br];exact(hlk _).append hlenvs hne⟩;have hg'':C8 (hv' s)=some g':=hg';rw[hhvs] at hg'';simp only[C8,if_neg (show¬cap=0 by omega),Bm] at hg'';subst hg'';exact⟨hβs.symm,lim,hOg,by rw[Br,C9];omega,hlim2⟩
  by_cases hy0:ys=[]
  .subst hy0;have hn0:news=[]:=Cp (by simpa using hl);subst hn0;refine keep w cur (fun _ _=>rfl) e3 rfl h.bel e6 (by simpa using e4) (by simpa using e7) ?_;rw[e1'];simpa using hsrc.none rfl (some ⟨g,0,none⟩) xs.length cap e4
  .have hpos:0<ys.length:=C2.2 hy0;by_cases hroom:xs.length+ys.length<=cap
   .have hlenvs:vs.length=xs.length*B8 P e:=g2.1;have hfit:xs.length*i.size+news.length<=cur.size:=by rw[hl,e6,<-his,<-C9];exact Cn _ hroom
    have hr:=hsrc.room hy0 i g xs.length cap cur hi e3 hroom hfit;refine keep _ _ (fun c hc=>setRow_other w g c _ hc) (setRow_heap w g cur _ e _ e3) (by simp) (Lv h.bel (show w0.ok g from e2) _) ?_ hroom ?_ (by rw[e1'];exact hr)
    .rw[<-his] at hfit;simp only[Jl,Br,Cv,C1,C3,<-his];omega
    .simp only[<-his];rw[Ck,e7,<-Ck];have:(xs.length+ys.length)*B8 P e=(vs++news).length:=by rw[Br,hl,hlenvs,C9]
     rw[this];exact y5
   .have holds:∀j u,vs[j]? =some u->w.cell? ((⟨g,0,none⟩:Addr).add j)=some u:=fun j u hu=>g2.cells hg j u hu;have hlenvs:vs.length=xs.length*B8 P e:=g2.1;have hbytes:(xs.length+ys.length)*i.bytes<=1073741824*65536:=Jq hlim (by omega);have hr:=hsrc.grow hy0 i z ⟨g,0,none⟩ xs.length cap vs hi hz (by omega) (by rw[<-his];exact hlenvs) holds (by omega) hlim0;generalize hC:(vs.toArray++news.toArray++Builtin.zeroCells z.cells (grownCap w (xs.length+ys.length) cap e - (xs.length+ys.length)))=C at hr;have hge:=grownCap_ge w (xs.length+ys.length) cap e;have hmx:=grownCap_le_maxLen w (xs.length+ys.length) cap e (by simp only[maxLen];omega);have hbel:Blw w.heap.size w (w.drew.alloc (.cells C e)):=((Blw.refl _ _).drew).alloc (B7 _) _;have hCs:C.size=grownCap w (xs.length+ys.length) cap e*B8 P e:=by rw[<-hC,Nx,Nx,size_zeroCells,Jl,Jl,hl,hzs,<-his,hlenvs,<-C9,<-C9];congr 1;omega
    have hown:Own (w.drew.alloc (.cells C e)) (y3 w.heap.size) e (B8 P e) (.slice (some ⟨w.heap.size,0,none⟩) (xs.length+ys.length) (grownCap w (xs.length+ys.length) cap e)) (xs++ys).length (vs++news):=by
     have hll:(vs++news).length=(xs.length+ys.length)*B8 P e:=by rw[Br,hl,hlenvs,C9]
     rw[Br];refine⟨hll,.inr ⟨w.heap.size,_,C,rfl,by omega,B7 _,heap_alloc_new w.drew _,hge,hmx,hCs,?_⟩⟩;rw[<-hC,Qt,Qt,<-hll];exact y5
    obtain⟨β',hv',O',r1,r2⟩:=h2.ownNew (n:=n') (s:=s) (e:=e) (ro:=⟨ro.b,lk⟩) (x:=X) (xs:=xs++ys) (vs:=vs++news) hbel (by simp) (fun g hg=>by simp only[C8] at hg;split at hg<;>simp at hg;exact hg.symm) hsz hX hown (g3.append hlenvs hel) (fun C'=>by rw[Br];exact(hlk C').append hlenvs hne);exact⟨_,_,β',hv',O',by rw[e1'];exact hr,r1,r2⟩
def kx {t u ty e:TypeId} {s:Nat} {xs ys:List PV} {vs news:List Value} {vd vx:Value} {X:E} {n':Nat} (h:Rel w0 Oe J σ tm w β hv O) (hinfo:D8 P e=true)
  {i:TypeInfo} {z:Value} (hi:P.info? e=some i) (hz:i.zero=some z) (hzs:z.cells.size=i.size) (hsrc:SrcR P w O t u ty e ys vx news) (hd:Src w O (B8 P e) xs vd vs) (hfull:∃b,vd= .slice b xs.length xs.length)
  (hne:xs=[]∨ys≠[]) (hX:X.ev J=some (.l (B8 P e) (xs++ys))) (hlim:xs.length+ys.length<=LIM):
  ∃v' w' β' hv' O',(Builtin.append_ #[t,u] ty #[vd,vx]).run P w= .ok v' w'∧Rel w0 Oe J (σ.eff (G6 σ.m n' s (.arr e (B8 P e) X .no))) tm w' β' hv' O'∧hv' s=v':=by
 obtain⟨b,rfl⟩:=hfull;by_cases hx0:xs=[]
 .subst hx0;exact J0 h hinfo hi hz hzs hsrc hX (by simpa using hlim)
 .have hy0:ys≠[]:=by rcases hne with h|h;exact absurd h hx0;exact h
  have his:B8 P e=i.size:=by simp[B8,hi]
  have hib:Jp P e=i.bytes:=by simp[Jp,hi]
  simp only[D8,Bt,decide_eq_true_eq] at hinfo;obtain⟨⟨hb0,hb1⟩,hsz⟩:=hinfo;have hl:=hsrc.len;have hel:=hsrc.el;obtain⟨hlenvs,_,g3,b',c',hbe,hcell⟩:=hd;injection hbe with hb1' _ hc';subst hb1';subst hc';obtain⟨ad,rfl,holds⟩:=hcell hx0;have hpos:0<ys.length:=C2.2 hy0;have hr:=hsrc.grow hy0 i z ad xs.length xs.length vs hi hz (by omega) (by rw[<-his];exact hlenvs) holds (by omega) hlim;simp only[LIM] at hlim;generalize hC:(vs.toArray++news.toArray++Builtin.zeroCells z.cells (grownCap w (xs.length+ys.length) xs.length e - (xs.length+ys.length)))=C at hr;have hge:=grownCap_ge w (xs.length+ys.length) xs.length e;have hmx:=grownCap_le_maxLen w (xs.length+ys.length) xs.length e (by simp only[maxLen];omega);have hbel:Blw w.heap.size w (w.drew.alloc (.cells C e)):=((Blw.refl _ _).drew).alloc (B7 _) _;have hCs:C.size=grownCap w (xs.length+ys.length) xs.length e*B8 P e:=by rw[<-hC,Nx,Nx,size_zeroCells,Jl,Jl,hl,hzs,<-his,hlenvs,<-C9,<-C9];congr 1;omega
  have hown:Own (w.drew.alloc (.cells C e)) (y3 w.heap.size) e (B8 P e) (.slice (some ⟨w.heap.size,0,none⟩) (xs.length+ys.length) (grownCap w (xs.length+ys.length) xs.length e)) (xs++ys).length (vs++news):=by
   have hll:(vs++news).length=(xs.length+ys.length)*B8 P e:=by rw[Br,hl,hlenvs,C9]
   rw[Br];refine⟨hll,.inr ⟨w.heap.size,_,C,rfl,by omega,B7 _,heap_alloc_new w.drew _,hge,hmx,hCs,?_⟩⟩;rw[<-hC,Qt,Qt,<-hll];exact y5
  obtain⟨β',hv',O',r1,r2⟩:=h.ownNew (n:=n') (s:=s) (e:=e) (ro:= .no) (x:=X) (xs:=xs++ys) (vs:=vs++news) hbel (by simp) (fun g hg=>by simp only[C8] at hg;split at hg<;>simp at hg;exact hg.symm) hsz hX hown (g3.append hlenvs hel);exact⟨_,_,β',hv',O',hr,r1,r2⟩
def U4 {c:Call} {d x:Operand} {t u:TypeId} {mv:Bool} {s:Nat} {sd sx r:SV} {ε:Eff} (ho:o.op= .call c) (hc:c.callee= .builtin .append) (ha:c.args.toList=[d,x]) (hty:c.argTypes.toList=[t,u])
  (h:Rel w0 Oe J σ a.tmps w β hv O) (hG:GOk J G) (hd:opd P σ G t d=some sd) (hs:Mf P σ mv s t sd sx=some (ws,r,ε)) (hk:Chk J ws)
  (source:∀e src,H1 P t=some e->Fm9 σ sx=some src->D8 P e=true->∀i z,P.info? e=some i->i.zero=some z->∀ys,src.ev J=some (.l (B8 P e) ys)->∃news,SrcR P w O t u o.type e ys (a.eval x) news∧(∀C':Cx,G7 C' (B8 P e) ys.length news (Qf σ sx))∧(Qf σ sx=none∨0<ys.length)):
  Ed P o a w (G1 w0 Oe J σ a.tmps ε r):=by
 have e0:a.eval=(Act.mk a.tmps a.defers).eval:=rfl;have hrd:=Fw (ds:=a.defers) (C:=⟨J,Cr w O,β,hv,σ.m⟩) hG rfl hd h.tmps;rw[<-e0] at hrd;unfold Mf at hs;split at hs
 .rename_i e src he hsrc;have ht:P.underlying t=some (.slice e):=by
   unfold H1 at he;split at he
   .rename_i h;rw[h];injection he with he;rw[he]
   .cases he
  dsimp only at hs;generalize (if mv=true then s+NAP else s)=s at hs;split at hs
  .cases hs
  .rename_i hsm;simp only[Cq,Dl,not_or,Nv,Dw] at hsm;obtain⟨hsm',hzn⟩:=hsm;obtain⟨zs,hzs⟩:=Option.ne_none_iff_exists'.1 hzn;obtain⟨i,z,hi,hzz,hzz2,_,_⟩:=Hk (C:=⟨J,Cr w O,β,hv,σ.m⟩) hzs;have hsz:0<B8 P e:=by simp only[D8,Bt,decide_eq_true_eq] at hsm';exact hsm'.2
   have source:=source e src he hsrc hsm' i z hi hzz;have fresh:∀b lk,lk=none∨lk=Qf σ sx->a.eval d= .slice b 0 0->ws=[.chk (.app (B8 P e) (.c (.l (B8 P e) [])) src)]->r= .h s->ε=G6 σ.m σ.n s (.arr e (B8 P e) (.app (B8 P e) (.c (.l (B8 P e) [])) src) ⟨false,lk⟩)->
     Ed P o a w (G1 w0 Oe J σ a.tmps ε r):=by
    intro b lk hlk hb hw hr hε;subst hw;subst hr;subst hε;obtain⟨q,hq⟩:=hk _ (Dj.2 rfl);have hq':=hq;simp only[E.ev,Bs,Bl] at hq';obtain⟨p,hp,hq'⟩:=hq';unfold I0 at hq';split at hq'
    .rename_i s1 xs1 s2 ys heq;injection heq with heq1 heq2;subst heq1;subst heq2;split at hq'
     .rename_i hcond;obtain⟨_,rfl,hlim⟩:=hcond;obtain⟨news,hnews,hnl,_⟩:=source ys hp;injection hq' with hq';obtain⟨v',w',β',hv',O',r1,r2,r3⟩:=J0 (s:=s) (b:=b) (ty:=o.type) (ro:=⟨false,lk⟩) (n':=σ.n) h hsm' hi hzz hzz2 hnews (hq.trans (by rw[<-hq'];simp)) (by simpa using hlim)
       (fun C'=>by rcases hlk with rfl|rfl;trivial;exact hnl C')
      refine Ed.value (f8 ho hc ha hty (by rw[hb];exact r1)) ⟨β',hv',O',r2,?_⟩;simp only[Cj];exact r3.symm
     .cases hq'
    .cases hq'
   split at hs
   .simp only[Bm,B3] at hs;obtain⟨h1,h2,h3⟩:=hs;simp only[Cj] at hrd;exact fresh none _ (.inr rfl) hrd h1.symm h2.symm h3.symm
   .simp only[Bm,B3] at hs;obtain⟨h1,h2,h3⟩:=hs;simp only[Cj,E.ev,Bm,PV.l.injEq] at hrd;obtain⟨xs,b,⟨_,hxs⟩,hv1,_⟩:=hrd;subst hxs;exact fresh b none (.inl rfl) (by simpa using hv1) h1.symm h2.symm h3.symm
   .simp only[Bm,B3] at hs;obtain⟨h1,h2,h3⟩:=hs;simp only[Cj,E.ev,E.evs,Bs,K1,Sq,List.all_nil,if_true,Bm,PV.l.injEq] at hrd;obtain⟨xs,b,⟨_,hxs⟩,hv1,_⟩:=hrd;subst hxs;exact fresh b none (.inl rfl) (by simpa using hv1) h1.symm h2.symm h3.symm
   .rename_i sz0 y _ _;split at hs
    .rename_i hszz;subst hszz;simp only[Bm,B3] at hs;obtain⟨rfl,rfl,rfl⟩:=hs;simp only[Cj] at hrd;obtain⟨xs,b,hy,hv1,hrep⟩:=hrd;have hy':y.ev J=some (.l (B8 P e) xs):=hy;obtain⟨q,hq⟩:=hk _ (.head _);obtain⟨q2,hq2⟩:=hk _ (.tail _ (.head _));have hq':=hq;simp only[E.ev,hy',Bs,Bl] at hq';obtain⟨p,hp,hq'⟩:=hq';unfold I0 at hq';split at hq'
     .rename_i s1 xs1 s2 ys heq;injection heq with heq1 heq2;subst heq1;subst heq2;split at hq'
      .rename_i hcond;obtain⟨_,rfl,hlim⟩:=hcond;obtain⟨news,hnews,_⟩:=source ys hp;obtain⟨vs,hvs⟩:=Ac5 hsz hrep;injection hq' with hq';have hne:xs=[]∨ys≠[]:=by
        by_cases hx0:xs=[]
        .exact .inl hx0
        .right;intro hy0;subst hy0;have hl:¬((xs.length:Int)=0):=by have:=C2.2 hx0;omega
         simp only[E.ev,hy',hp,Bs,Hg,X.bin,Gc,Kf,if_true] at hq2;have hd:((xs.length:Int)==0)=false:=by simpa using hl
         rw[hd] at hq2;simp at hq2
       obtain⟨v',w',β',hv',O',r1,r2,r3⟩:=kx (s:=s) (ty:=o.type) (n':=σ.n) h hsm' hi hzz hzz2 hnews hvs ⟨b,hv1⟩ hne (hq.trans (by rw[<-hq'])) hlim;refine Ed.value (f8 ho hc ha hty r1) ⟨β',hv',O',r2,?_⟩;simp only[Cj];exact r3.symm
      .cases hq'
     .cases hq'
    .cases hs
   .rename_i s0;split at hs
    .rename_i e1 sz0 y ro hb0;split at hs
     .rename_i hcond;obtain⟨rfl,rfl⟩:=hcond;simp only[Cj] at hrd;have hσ:∃s1 σ2,Rel w0 Oe J σ2 a.tmps w β hv O∧(∀s' b',s'≠s1->mget σ2.m s'=some b'->s'≠s0∧mget σ.m s'=some b')∧σ2.n=σ.n∧σ2.t=σ.t∧ws=[.chk (.app (B8 P e1) y src)]∧r= .h s1∧
        ε=G6 σ2.m σ.n s1 (.arr e1 (B8 P e1) (.app (B8 P e1) y src) ⟨ro.b,Qf σ sx⟩):=by
       split at hs
       .split at hs
        .rename_i hc2;simp only[Bm,B3] at hs;obtain⟨rfl,rfl,rfl⟩:=hs;refine⟨s,{σ with m:=Ms σ.m s0},h.forget hc2,fun s' b' _ hb'=> ?_,rfl,rfl,rfl,rfl,rfl⟩;by_cases hss:s'=s0
         .subst hss;have hb2:mget (Ms σ.m s') s'=some b':=hb';rw[Hw] at hb2;cases hb2
         .have hb2:mget (Ms σ.m s0) s'=some b':=hb';exact⟨hss,by rwa[Gy hss] at hb2⟩
        .cases hs
       .simp only[Bm,B3] at hs;obtain⟨rfl,rfl,rfl⟩:=hs;exact⟨s0,σ,h,fun s' b' hne hb'=>⟨hne,hb'⟩,rfl,rfl,rfl,rfl,rfl⟩
      obtain⟨s1,σ2,h2,hsub,hn2,ht2,rfl,rfl,rfl⟩:=hσ;obtain⟨q,hq⟩:=hk _ (Dj.2 rfl);have hq':=hq;simp only[E.ev,Bl] at hq';obtain⟨p0,hp0,p,hp,hq'⟩:=hq';unfold I0 at hq';split at hq'
      .rename_i s1 xs1 s2 ys;split at hq'
       .rename_i hcond;obtain⟨rfl,rfl,hlim⟩:=hcond;obtain⟨news,hnews,hnl,hne⟩:=source ys hp;injection hq' with hq';obtain⟨v',w',β',hv',O',r1,r2,r3⟩:=V0 (s:=s1) (ty:=o.type) (n':=σ.n) h h2 hsub hsm' hi hzz hzz2 hb0 hp0 hnews (hq.trans (by rw[<-hq'])) hlim hnl hne;refine Ed.value (f8 ho hc ha hty (by rw[hrd];exact r1)) ⟨β',hv',O',by rw[show σ.eff (G6 σ2.m σ.n s1 _)=σ2.eff (G6 σ2.m σ.n s1 _) by unfold St.eff;rw[ht2]];exact r2,?_⟩;simp only[Cj];exact r3.symm
       .cases hq'
      .cases hq'
     .cases hs
    .cases hs
   .cases hs
 .cases hs
def At4 {c:Call} {d x:Operand} {t:TypeId} {mv:Bool} {s:Nat} {sd sx r:SV} {ε:Eff} (ho:o.op= .call c) (hc:c.callee= .builtin .append) (ha:c.args.toList=[d,x]) (hty:c.argTypes.toList=[t,t])
  (h:Rel w0 Oe J σ a.tmps w β hv O) (hG:GOk J G) (hd:opd P σ G t d=some sd) (hx:opd P σ G t x=some sx) (hs:Mf P σ mv s t sd sx=some (ws,r,ε)) (hk:Chk J ws):
  Ed P o a w (G1 w0 Oe J σ a.tmps ε r):=by
 have e0:a.eval=(Act.mk a.tmps a.defers).eval:=rfl;have hrx:=Fw (ds:=a.defers) (C:=⟨J,Cr w O,β,hv,σ.m⟩) hG rfl hx h.tmps;rw[<-e0] at hrx;refine U4 ho hc ha hty h hG hd hs hk ?_;intro e src he hsrc hsm' i z hi hzz ys0 hys0;have ht:P.underlying t=some (.slice e):=by
  unfold H1 at he;split at he
  .rename_i h;rw[h];injection he with he;rw[he]
  .cases he
 have hsz:0<B8 P e:=by simp only[D8,Bt,decide_eq_true_eq] at hsm';exact hsm'.2
 have source:∀ys,src.ev J=some (.l (B8 P e) ys)->∃news,Src w O (B8 P e) ys (a.eval x) news∧(∀C':Cx,G7 C' (B8 P e) ys.length news (Qf σ sx))∧(Qf σ sx=none∨0<ys.length):=by
  intro ys hys;unfold Fm9 at hsrc;split at hsrc
  .rename_i s';split at hsrc
   .rename_i e' sz' y' ro' hb';injection hsrc with hsrc;subst hsrc;simp only[Cj] at hrx;have hszz:sz'=B8 P e:=by obtain⟨_,xs,vs,g1,_⟩:=h.mem s' _ hb';have g1':y'.ev J=some (.l sz' xs):=g1;rw[hys] at g1';injection g1' with g1';injection g1' with g1' _;exact g1'.symm
    subst hszz;rw[hrx];obtain⟨news,n1,n2⟩:=Db4 h hb' hys;refine⟨news,n1,?_⟩;simp only[Qf,hb'];split
    .rename_i x0 r0 lo heq;injection heq with heq;injection heq with _ _ q3 q4;subst q3;subst q4;refine⟨fun C'=>n2,.inr ?_⟩;simp only[E.ev,E.evs,Bl,Bp] at hys;obtain⟨_,⟨_,_,_,_,rfl⟩,hys⟩:=hys;unfold K1 at hys;split at hys
     .injection hys with hys;injection hys with _ hys;subst hys;simp
     .cases hys
    .exact⟨fun _=>trivial,.inl rfl⟩
   .cases hsrc
  .obtain⟨p,hp,hpr⟩:=SV.asE_ok hsrc hrx;have hp':src.ev J=some p:=hp;rw[hys] at hp';injection hp' with hp';subst hp';obtain⟨news,hn⟩:=Ac5 hsz hpr;have hz:Qf σ sx=none:=by
    unfold Qf;split
    .rename_i s' hns;exact absurd rfl (hns s')
    .rfl
   rw[hz];exact⟨news,hn,fun _=>trivial,.inl rfl⟩
 obtain⟨news,hnews,hnl⟩:=source ys0 hys0;exact⟨news,hnews.runs ht (by rw[hi];rfl),hnl⟩
end
section
variable {P:Program} {w0:Fr} {Oe:Nat->Option Nat} {J:List PV} {σ:St} {a:Act} {tm:Array Value} {w:World} {β:Nat->Nat} {hv:Nat->Value} {O:Nat->Option Nat} {G:Option E} {o:Oper} {ws:List W}
def Sl {C:Cx} {zs:List SV} {cs:Array Value} {ze:E} (h:Cb C zs cs.toList) (h1:∀u,u∈cs.toList->One u) (hz:Sm zs=some ze):∃p,ze.ev C.J=some p∧(p.cells.length=cs.size->∀(j:Nat) (c:PV),p.cells[j]? =some c->∃u,cs[j]? =some u∧One u∧Rep C.M c u):=by
 have fin:∀{p:PV} {v:Value},Rep C.M p v->v.cells=cs->p.cells.length=cs.size->∀(j:Nat) (c:PV),p.cells[j]? =some c->∃u,cs[j]? =some u∧One u∧Rep C.M c u:=by
  intro p v hr hv hl j c hc;have hj:j<cs.size:=by rw[<-hl];exact(Bn.1 hc).1
  have hu:cs[j]? =some cs[j]:=Eh hj;refine⟨cs[j],hu,h1 _ (by simp),?_⟩;by_cases hp:p= .u
  .subst hp;cases j with
   |zero=>simp[PV.cells] at hc;subst hc;exact .u _
   |succ j=>simp[PV.cells] at hc
  .exact(hr.cells hp).2.2 j c _ hc (by rw[hv];exact hu)
 unfold Sm at hz;split at hz
 .simp only[Cb] at h;obtain⟨v,r,hv,hr,rfl⟩:=h;obtain⟨p,hp,hpr⟩:=SV.asE_ok hz hr;have hcs:cs= #[v]:=by rw[<-Dn (xs:=cs),hv]
  have h1v:One v:=h1 v (by rw[hv];simp);exact⟨p,hp,fin hpr (by rw[Sk h1v,hcs])⟩
 .have hr:=Q1 h h1;obtain⟨p,hp,hpr⟩:=SV.asE_ok hz hr;exact⟨p,hp,fin hpr rfl⟩
def Br6 {t u ty e:TypeId} {kn:IntKind} {i:TypeInfo} {z:Value} {pz:PV} (ht:P.underlying t=some (.slice e)) (hu:P.underlying u=some (.int kn)) (hi:P.info? e=some i) (hz:i.zero=some z) (hzs:z.cells.size=i.size)
  (h1:∀v,v∈z.cells.toList->One v) (hb1:i.bytes<=65536) (hpl:pz.cells.length=i.size) (hpos:0<i.size) (hpz:∀(j:Nat) (c:PV),pz.cells[j]? =some c->∃u,z.cells[j]? =some u∧One u∧Rep (Cr w O) c u) (n:Nat) (hn:n<=1073741824):
  SrcR P w O t u ty e (List.replicate n pz) (.int .i64 (n:Int)) (Builtin.zeroCells z.cells n).toList:=by
 have his:B8 P e=i.size:=by simp[B8,hi]
 have hll:(List.replicate n pz).length=n:=Gr ..;have hzl:(Builtin.zeroCells z.cells n).toList.length=n*i.size:=by rw[C3,size_zeroCells,hzs]
 have at_:∀k,k<n*i.size->(Builtin.zeroCells z.cells n).toList[k]? =z.cells[k % i.size]? :=by
  intro k hk;have hm:k % i.size<z.cells.size:=by rw[hzs];exact Nat.mod_lt _ hpos
  rw[B6];simp only[Builtin.zeroCells,Fp4,y8,hzs,hk,if_true,Cc];rw[Array.getElem!_eq_getD,Cf,Eh hm];rfl
 have hne:List.replicate n pz≠[]->0<n:=fun h=>by
  rcases Nat.eq_zero_or_pos n with h0|h0
  .subst h0;exact absurd rfl h
  .exact h0
 have hbytes:∀m:Nat,m<=1073741824->m*i.bytes<=281474976710656:=fun m hm=>by have:m*i.bytes<=1073741824*65536:=Jq hm hb1;omega
 have hone:∀v,v∈(Builtin.zeroCells z.cells n).toList->One v:=by intro v hv;obtain⟨k,hk⟩:=Fv hv;have hlt:=(Bn.1 hk).1;rw[hzl] at hlt;rw[at_ k hlt] at hk;exact h1 v (by rw[<-B6] at hk;exact Cy hk)
 refine⟨by rw[hzl,hll,his],hone,?_,fun hy b m cap hm=> ?_,fun hy hlim i' z' b hi' hz' hbb=> ?_,fun hy i' g sLen sCap cur hi' hg hroom hfit=> ?_,fun hy i' z' ad0 sLen sCap olds hi' hz' hbb hlo holds hgr hlim=> ?_⟩
 .intro j x hj;rw[Jm] at hj;split at hj
  .rename_i hjk;injection hj with hj;subst hj;refine⟨by rw[hpl,his],fun m c hc=> ?_⟩;have hm:m<i.size:=by rw[<-hpl];exact(Bn.1 hc).1
   obtain⟨u',g1,g2,g3⟩:=hpz m c hc;refine⟨u',?_,g2,g3⟩;have hlt:j*i.size+m<n*i.size:=by have:(j+1)*i.size<=n*i.size:=Cn _ hjk;rw[C9,Gh] at this;omega
   rw[his,at_ _ hlt,G2,Ym,E6 hm];exact g1
  .cases hj
 .have h0:n=0:=by
   rcases Nat.eq_zero_or_pos n with h0|h0
   .exact h0
   .exfalso;have:=congrArg List.length hy;rw[hll,Cm] at this;omega
  subst h0;have hw:IntKind.i64.wrap (0:Int)=0:=by decide
  cases b<;>simp[Builtin.append_,run_underlying ht,run_underlying hu,sizeOf,typeInfo,hi,asInt,asIntOf,hw,hm,storeCells]
 .rw[hi] at hi';injection hi' with hi';subst hi';rw[hz] at hz';injection hz' with hz';subst hz';rw[hll] at hlim ⊢;have h0:=hne hy;cases b with
  |none=>
   have:=Lib.run_append_nil_zeros (P:=P) w t u ty e i z .i64 kn ht hu hi hz n h0 hpos (by omega) (hbytes n hn);simpa using this
  |some ad=>
   have hf0:=run_firstCells_some (P:=P) w.drew i.size 0 ad 0 0 [] (by simp) (by simp);have:=Lib.run_append_grow_zeros (P:=P) w t u ty e i z .i64 kn ht hu hi hz (some ad) 0 0 [] hf0 n h0 hpos (by omega) (by omega) (hbytes n hn) (by rw[Fl,nextslicecap_zero h0];exact hbytes n hn)
   simpa using this
 .rw[hi] at hi';injection hi' with hi';subst hi';rw[hll] at hroom ⊢;have h0:=hne hy;have hk:n≠0:=by omega
  have hw:IntKind.i64.wrap (n:Int)=n:=by rw[IntKind.wrap_i64];omega
  have h48i:¬(281474976710656<(n:Int)*(i.bytes:Int)):=by have:=hbytes n hn;rw[<-Int.natCast_mul];omega
  have hneg:¬((n:Int)<0):=by omega
  have hns:¬(n*i.size=0):=Nat.mul_ne_zero hk (by omega);have hst:=run_storeCells_at P g (sLen*i.size) e (Builtin.zeroCells z.cells n).toList 0 cur w hg (by simpa using hfit) hone;simp only[E5] at hst;simp[Builtin.append_,run_underlying ht,run_underlying hu,sizeOf,typeInfo,zeroValue,hi,hz,asInt,asIntOf,hw,hneg,hns,h48i,hroom,Addr.add_lit,hst]
 .rw[hi] at hi';injection hi' with hi';subst hi';rw[hz] at hz';injection hz' with hz';subst hz';rw[hll] at hgr hlim ⊢;have h0:=hne hy;simp only[LIM] at hlim;have hold:=run_firstCells_some (P:=P) w.drew i.size sLen ad0 sLen sCap olds hlo (by simpa using holds);have:=Lib.run_append_grow_zeros (P:=P) w t u ty e i z .i64 kn ht hu hi hz (some ad0) sLen sCap olds hold n h0 hpos hgr (by omega) (hbytes n hn) (growslice_fits (by omega) (by have:(sLen+n)*i.bytes<=1073741824*65536:=Jq (by omega) hb1;omega));simpa using this
def wj {c:Call} {d x:Operand} {t u e:TypeId} {mv:Bool} {s:Nat} {sd r:SV} {n ze:E} {zs:List SV} {ε:Eff} (ho:o.op= .call c) (hc:c.callee= .builtin .append) (ha:c.args.toList=[d,x]) (hty:c.argTypes.toList=[t,u])
  (h:Rel w0 Oe J σ a.tmps w β hv O) (hG:GOk J G) (hd:opd P σ G t d=some sd) (hx:Gx P σ G 0 x=some n) (he:H1 P t=some e) (hu:By9 P u=true) (hz:Ib P e=some zs) (hze:Sm zs=some ze)
  (hs:Mf P σ mv s t sd (.e (.rep (B8 P e) n ze))=some (ws,r,ε)) (hk:Chk J ws):
  Ed P o a w (G1 w0 Oe J σ a.tmps ε r):=by
 have ht:P.underlying t=some (.slice e):=by
  unfold H1 at he;split at he
  .rename_i h;rw[h];injection he with he;rw[he]
  .cases he
 have hui:∃kn,P.underlying u=some (.int kn):=by
  unfold By9 at hu;split at hu
  .rename_i kn hk;exact⟨kn,hk⟩
  .cases hu
 obtain⟨kn,hui⟩:=hui;refine U4 ho hc ha hty h hG hd hs hk ?_;intro e' src he' hsrc hsm i z hi hzz ys hys;rw[he] at he';injection he' with he';subst he';simp only[Fm9,SV.asE,Bm] at hsrc;subst hsrc;obtain⟨i',z',hi',hzz',hzs,h1,hr⟩:=Hk (C:=⟨J,Cr w O,β,hv,σ.m⟩) hz;rw[hi] at hi';injection hi' with hi';subst hi';rw[hzz] at hzz';injection hzz' with hzz';subst hzz';have his:B8 P e=i.size:=by simp[B8,hi]
 have hib:Jp P e=i.bytes:=by simp[Jp,hi]
 simp only[D8,Bt,decide_eq_true_eq] at hsm;obtain⟨⟨hb0,hb1⟩,hsz⟩:=hsm;obtain⟨p1,hp1,hpr1⟩:=Ey (ds:=a.defers) (C:=⟨J,Cr w O,β,hv,σ.m⟩) hG rfl hx h.tmps;have hp1':n.ev J=some p1:=hp1;obtain⟨pz,hpz,hpzc⟩:=Sl (C:=⟨J,Cr w O,β,hv,σ.m⟩) hr h1 hze;have hpz':ze.ev J=some pz:=hpz;simp only[E.ev,hp1',hpz',Bs] at hys;unfold Lx at hys;split at hys
 .rename_i k;split at hys
  .rename_i hb;injection hys with hys;injection hys with _ hys;subst hys;have e1:a.eval x= .int .i64 (k.toNat:Int):=by have:a.eval x= .int .i64 k:=hpr1.int;rw[this];congr 1;omega
   have hkl:k.toNat<=1073741824:=by have:=hb.2.1;simp only[LIM] at this;omega
   rw[e1];exact⟨_,Br6 ht hui hi hzz hzs h1 (by omega) (by rw[hb.2.2,his]) (by omega) (hpzc (by rw[hb.2.2,hzs,his])) k.toNat hkl,fun _=>trivial,.inl rfl⟩
  .cases hys
 .cases hys
def W2 {t e:TypeId} {x y:Operand} {n n' ze:E} {zs:List SV} {s:Nat} (ho:o.op= .makeSlice t x y) (he:H1 P t=some e) (h:Rel w0 Oe J σ a.tmps w β hv O) (hG:GOk J G) (hx:Gx P σ G 0 x=some n) (hy:Gx P σ G 0 y=some n') (hs:n.same (.c (.i .i64 0))=true)
  (hsm:D8 P e=true) (hz:Ib P e=some zs) (hk:Chk J [.chk (.rep (B8 P e) n' ze)]):
  Ed P o a w (G1 w0 Oe J σ a.tmps (G6 σ.m σ.n s (.arr e (B8 P e) (.c (.l (B8 P e) [])) .no)) (.h s)):=by
 have ht:P.underlying t=some (.slice e):=by
  unfold H1 at he;split at he
  .rename_i h;rw[h];injection he with he;rw[he]
  .cases he
 have:=E.same_eq _ _ hs;subst this;obtain⟨i,z,hi,hzz,hzs,h1,hr⟩:=Hk (C:=⟨J,Cr w O,β,hv,σ.m⟩) hz;have his:B8 P e=i.size:=by simp[B8,hi]
 have hib:Jp P e=i.bytes:=by simp[Jp,hi]
 simp only[D8,Bt,decide_eq_true_eq] at hsm;obtain⟨⟨hb0,hb1⟩,hsz⟩:=hsm;obtain⟨q,hq⟩:=hk _ (Dj.2 rfl);have hq':=hq;obtain⟨p1,hp1,hpr1⟩:=Ey (ds:=a.defers) (C:=⟨J,Cr w O,β,hv,σ.m⟩) hG rfl hx h.tmps;obtain⟨p2,hp2,hpr2⟩:=Ey (ds:=a.defers) (C:=⟨J,Cr w O,β,hv,σ.m⟩) hG rfl hy h.tmps;have hp2':n'.ev J=some p2:=hp2;simp only[E.ev,Bm] at hp1;subst hp1;simp only[E.ev,hp2',Bs,Bl] at hq';obtain⟨pz,_,hq'⟩:=hq';unfold Lx at hq';split at hq'
 .rename_i k;split at hq'
  .rename_i hb;have e1:a.eval x= .int .i64 ((0:Nat):Int):=hpr1.int;have e2:a.eval y= .int .i64 (k.toNat:Int):=by have:a.eval y= .int .i64 k:=hpr2.int;rw[this];congr 1;omega
   have hkl:k.toNat<=1073741824:=by have:=hb.2.1;simp only[LIM] at this;omega
   have hbytes:i.bytes*k.toNat<=65536*1073741824:=Jq (by omega) hkl;have hrun:=run_make (P:=P) w t e i z ht hi hzz .i64 .i64 ((0:Nat):Int) (k.toNat:Int) (by omega) (by omega) (by
    have:((i.bytes*k.toNat:Nat):Int)<=281474976710656:=by omega
    rwa[Int.natCast_mul] at this) (by omega)
   simp only[Es] at hrun;have hbel:Blw w.heap.size w (w.alloc (.cells (madeCells z.cells (k.toNat*i.size)) e)):=(Blw.refl _ _).alloc (B7 _) _;have hown:Own (w.alloc (.cells (madeCells z.cells (k.toNat*i.size)) e)) (y3 w.heap.size) e (B8 P e) (.slice (some ⟨w.heap.size,0,none⟩) 0 k.toNat) 0 []:=by
    refine⟨by simp,?_⟩;by_cases hk0:k.toNat=0
    .rw[hk0];exact .inl ⟨_,rfl,rfl⟩
    .exact .inr ⟨w.heap.size,k.toNat,_,rfl,by omega,B7 _,heap_alloc_new w _,D9 _,by simp only[maxLen];omega,by rw[size_madeCells,his],by simp⟩
   obtain⟨β',hv',O',r1,r2⟩:=h.ownNew (n:=σ.n) (s:=s) (e:=e) (sz:=B8 P e) (ro:= .no) (x:= .c (.l (B8 P e) [])) (v:= .slice (some ⟨w.heap.size,0,none⟩) 0 k.toNat) (xs:=[]) (vs:=[]) hbel (by simp)
    (fun g hg=>by simp only[C8] at hg;split at hg<;>simp at hg;exact hg.symm) hsz (by simp only[E.ev]) hown (fun i x hx=>by simp at hx)
   refine Ed.value (v:= .slice (some ⟨w.heap.size,0,none⟩) 0 k.toNat) (w':=w.alloc (.cells (madeCells z.cells (k.toNat*i.size)) e)) ?_ ⟨β',hv',O',r1,?_⟩
   .simp only[execOp,ho,e1,e2,Sem.run_bind,hrun,Result.andThen];rfl
   .simp only[Cj];exact r2.symm
  .cases hq'
 .cases hq'
def Zr {t e:TypeId} {x y:Operand} {n n' ze:E} {zs:List SV} {s:Nat} (ho:o.op= .makeSlice t x y) (he:H1 P t=some e) (h:Rel w0 Oe J σ a.tmps w β hv O) (hG:GOk J G) (hx:Gx P σ G 0 x=some n) (hy:Gx P σ G 0 y=some n') (hs:n.same n'=true)
  (hsm:D8 P e=true) (hz:Ib P e=some zs) (hze:Sm zs=some ze) (hk:Chk J [.chk (.rep (B8 P e) n ze)]):
  Ed P o a w (G1 w0 Oe J σ a.tmps (G6 σ.m σ.n s (.arr e (B8 P e) (.rep (B8 P e) n ze) .no)) (.h s)):=by
 have ht:P.underlying t=some (.slice e):=by
  unfold H1 at he;split at he
  .rename_i h;rw[h];injection he with he;rw[he]
  .cases he
 have:=E.same_eq _ _ hs;subst this;obtain⟨i,z,hi,hzz,hzs,h1,hr⟩:=Hk (C:=⟨J,Cr w O,β,hv,σ.m⟩) hz;have his:B8 P e=i.size:=by simp[B8,hi]
 have hib:Jp P e=i.bytes:=by simp[Jp,hi]
 simp only[D8,Bt,decide_eq_true_eq] at hsm;obtain⟨⟨hb0,hb1⟩,hsz⟩:=hsm;obtain⟨q,hq⟩:=hk _ (Dj.2 rfl);have hq':=hq;obtain⟨p1,hp1,hpr1⟩:=Ey (ds:=a.defers) (C:=⟨J,Cr w O,β,hv,σ.m⟩) hG rfl hx h.tmps;obtain⟨p2,hp2,hpr2⟩:=Ey (ds:=a.defers) (C:=⟨J,Cr w O,β,hv,σ.m⟩) hG rfl hy h.tmps;have hp1':n.ev J=some p1:=hp1;have hp2':n.ev J=some p2:=hp2;rw[hp1'] at hp2';injection hp2' with hp2';subst hp2';obtain⟨pz,hpz,hpzc⟩:=Sl (C:=⟨J,Cr w O,β,hv,σ.m⟩) hr h1 hze;have hpz':ze.ev J=some pz:=hpz;simp only[E.ev,hp1',hpz',Bs] at hq';unfold Lx at hq';split at hq'
 .rename_i k;split at hq'
  .rename_i hb;injection hq' with hq';have e1:a.eval x= .int .i64 (k.toNat:Int):=by have:a.eval x= .int .i64 k:=hpr1.int;rw[this];congr 1;omega
   have e2:a.eval y= .int .i64 (k.toNat:Int):=by have:a.eval y= .int .i64 k:=hpr2.int;rw[this];congr 1;omega
   have hkl:k.toNat<=1073741824:=by have:=hb.2.1;simp only[LIM] at this;omega
   have hbytes:i.bytes*k.toNat<=65536*1073741824:=Jq (by omega) hkl;have hrun:=run_make (P:=P) w t e i z ht hi hzz .i64 .i64 (k.toNat:Int) (k.toNat:Int) (by omega) (Ud _) (by
    have:((i.bytes*k.toNat:Nat):Int)<=281474976710656:=by omega
    rwa[Int.natCast_mul] at this) (by omega)
   simp only[Es] at hrun;have hbel:Blw w.heap.size w (w.alloc (.cells (madeCells z.cells (k.toNat*i.size)) e)):=(Blw.refl _ _).alloc (B7 _) _;have hown:=Own.of (World.ownsRow_lit (e:=e) (size:=B8 P e) (base:=w.heap.size) w (madeCells z.cells (k.toNat*i.size)) k.toNat (B7 _) (by simp only[maxLen];omega) (by rw[size_madeCells,his]));have hel:I7 (Cr w O) (B8 P e) (List.replicate k.toNat pz) (madeCells z.cells (k.toNat*i.size)).toList:=by
    intro j x hj;rw[Jm] at hj;split at hj
    .rename_i hjk;injection hj with hj;subst hj;refine⟨hb.2.2,fun m c hc=> ?_⟩;have hm:m<B8 P e:=by rw[<-hb.2.2];exact(Bn.1 hc).1
     obtain⟨u,g1,g2,g3⟩:=hpzc (by rw[hb.2.2,hzs,his]) m c hc;refine⟨u,?_,g2,g3⟩;have hlt:j*B8 P e+m<k.toNat*i.size:=by have:(j+1)*B8 P e<=k.toNat*B8 P e:=Cn _ hjk;rw[C9,Gh] at this;rw[<-his];omega
     have hmod:(j*B8 P e+m) % z.cells.size=m:=by rw[hzs,<-his,G2,Ym,E6 hm]
     rw[B6];simp only[madeCells,Fp4,y8,hlt,if_true,Cc,hmod];rw[Array.getElem!_eq_getD,Cf,g1];rfl
    .cases hj
   obtain⟨β',hv',O',r1,r2⟩:=h.ownNew (n:=σ.n) (s:=s) (e:=e) (sz:=B8 P e) (ro:= .no) (x:= .rep (B8 P e) n ze) (v:= .slice (some ⟨w.heap.size,0,none⟩) k.toNat k.toNat) (xs:=List.replicate k.toNat pz) (vs:=(madeCells z.cells (k.toNat*i.size)).toList) hbel (by simp)
    (fun g hg=>by simp only[C8] at hg;split at hg<;>simp at hg;exact hg.symm) hsz (hq.trans (by rw[<-hq'])) (by rw[Gr];exact hown) hel
   refine Ed.value (v:= .slice (some ⟨w.heap.size,0,none⟩) k.toNat k.toNat) (w':=w.alloc (.cells (madeCells z.cells (k.toNat*i.size)) e)) ?_ ⟨β',hv',O',r1,?_⟩
   .simp only[execOp,ho,e1,e2,Sem.run_bind,hrun,Result.andThen];rfl
   .simp only[Cj];exact r2.symm
  .cases hq'
 .cases hq'
end
end Go.X
set_option linter.unusedVariables false
namespace Go.X
open Go Go.RowKit
variable {P:Program}
def Qz (b:Nat) (p:Value) (w w1:World):Prop:=
 (p= .pointer none∧w1=w.setCell ⟨b,0,none⟩ (.pointer (some ⟨b,0,none⟩)))∨(p= .pointer (some ⟨b,0,none⟩)∧w1=w)
def Qz.blk {b:Nat} {p u:Value} {w w1:World} {T:TypeId} (hbk:w.heap[b]? =some (.cells #[p,u] T (0,0))) (h:Qz b p w w1):w1.heap[b]? =some (.cells #[.pointer (some ⟨b,0,none⟩),u] T (0,0)):=by
 rcases h with⟨rfl,rfl⟩|⟨rfl,rfl⟩
 .simp[World.setCell,L6,hbk]
 .exact hbk
def Ul {ops:Array Oper} {rest:List Oper} {o:Oper} {a:Act} {w w2:World} {v':Value} {Q:Exit->Act->World->Prop} (hgd:o.guard=none) (sl x:Operand) (t u:TypeId)
  (ho:o.op= .call {callee:= .builtin .append,args:= #[sl,x],argTypes:= #[t,u]}) (v vx:Value) (hs:a.eval sl=v) (hx:a.eval x=vx)
  (hr:(Builtin.append_ #[t,u] o.type #[v,vx]).run P w= .ok v' w2) (h:wpList P ops Q rest (a.put o.dst v') w2):wpList P ops Q (o::rest) a w:=by
 refine wpList_plain hgd fun K hK=> ?_;unfold Oper.wp execOp;simp only[ho,resolve,invoke,builtin,Sem.run_bind,Sem.run_pure,Result.andThen_ok,List.map_toArray,Gs,List.map_nil,hs,hx,hr];exact hK _ _ h
end Go.X
namespace Go.X
open Go Go.RowKit
def H8 (P:Program) (f:FuncId) (args:Array Value) (w:World) (R:Value->World->Prop):Prop:=
 (∃v w',(callFunc f args).run P w= .ok (.value v) w'∧R v w')∨
 (∃w',(callFunc f args).run P w= .ok (.enter f args) w'∧Calls P f args w' fun e w''=>∃v,e= .returned v∧R v w'')
def H8.mono {P:Program} {f:FuncId} {args:Array Value} {w:World} {R R':Value->World->Prop} (h:H8 P f args w R) (hr:∀v w',R v w'->R' v w'):H8 P f args w R':=by
 rcases h with⟨v,w',h1,h2⟩|⟨w',h1,h2⟩
 .exact .inl ⟨v,w',h1,hr _ _ h2⟩
 .exact .inr ⟨w',h1,h2.mono fun e w'' ⟨v,he,hv⟩=>⟨v,he,hr _ _ hv⟩⟩
def H8.of_calls {P : Program} {f : FuncId} {fn : Func} {args : Array Value} {w : World} {R : Value → World → Prop} (hf : P.funcs[f]? = some fn) (hn : (fn.name == "runtime.NumGoroutine") = false) (hb : fn.body.isSome = true)
  (h:Calls P f args w fun e w'=>∃v,e= .returned v∧R v w'):H8 P f args w R:=by
 refine .inr ⟨w,?_,h⟩;have hn' : fn.name ≠ "runtime.NumGoroutine" := by simpa using hn
 have hb':fn.body≠none:=by cases hh:fn.body<;>simp_all
 simp[callFunc,hf,hn',hb']
def L3 (M:Vw) (rs:List PV) (v:Value):Prop:=match rs with
 |[p]=>Rep M p v
 |rs=>∃vs:Array Value,v= .tuple vs∧vs.size=rs.length∧∀(j:Nat) (p:PV) (u:Value),rs[j]? =some p->vs[j]? =some u->Rep M p u
def Fm0 (nl:Bool) (m:Nat) (v:Value):Prop:=∀j,m.testBit j=true->∃(vs:Array Value) (a:Option Addr) (n:Nat),v= .agg vs∧vs[j]? =some (.slice a n n)∧(nl=true->a=none∧n=0)
def Gc8 (P:Program) (w w':World) (O':Nat->Option Nat) (rs:List PV) (v:Value):RK->Prop
 | .plain=>L3 (Cr w' O') rs v
 | .own e=>0<B8 P e∧∃xs us,rs=[.l (B8 P e) xs]∧Own w' (y3 w.heap.size) e (B8 P e) v xs.length us∧I7 (Cr w' O') (B8 P e) xs us∧∀g,C8 v=some g->O' g=some 0
 | .full nl m=>L3 (Cr w' O') rs v∧Fm0 nl m v
 | .ownt e=>0<B8 P e∧∃xs us p v1 v2,rs=[.l (B8 P e) xs,p]∧v= .tuple #[v1,v2]∧Own w' (y3 w.heap.size) e (B8 P e) v1 xs.length us∧I7 (Cr w' O') (B8 P e) xs us∧(∀g,C8 v1=some g->O' g=some 0)∧Rep (Cr w' O') p v2
def Cg7 (P:Program) (own:Option Nat) (w:World) (O:Nat->Option Nat) (rs:List PV) (v:Value) (w':World):Prop:=
 Blw w.heap.size w w'∧∃O',(∀c,c<w.heap.size->O' c=O c)∧(∀c,w'.heap.size<=c->O' c=none)∧Gc8 P w w' O' rs v (rkOf own)
structure Given (w:World) (O:Nat->Option Nat) (n:Nat) (vs:List PV) (args:Array Value):Prop where
 out:∀c,w.heap.size<=c->O c=none
 size:args.size=vs.length
 val:∀(j:Nat) (p:PV) (v:Value),j<n->vs[j]? =some p->args[j]? =some v->Rep (Cr w O) p v
 cap:∀(j:Nat) (p:PV) (v:Value),n<=j->vs[j]? =some p->args[j]? =some v->H7 (Cr w O) p.cells v
structure GivenM (P:Program) (e:Nat) (w:World) (O:Nat->Option Nat) (n:Nat) (vs:List PV) (args:Array Value) (v0:Value) (xs:List PV) (us:List Value):Prop where
 out:∀c,w.heap.size<=c->O c=none
 size:args.size=vs.length
 pos:0<n
 fst:vs[0]? =some (.l (B8 P e) xs)
 arg:args[0]? =some v0
 sz:0<B8 P e
 own:Own w (fun _=>True) e (B8 P e) v0 xs.length us
 el:I7 (Cr w O) (B8 P e) xs us
 shut:∀g,C8 v0=some g->O g=some 0
 val:∀(j:Nat) (p:PV) (v:Value),0<j->j<n->vs[j]? =some p->args[j]? =some v->Rep (Cr w O) p v
 cap:∀(j:Nat) (p:PV) (v:Value),n<=j->vs[j]? =some p->args[j]? =some v->H7 (Cr w O) p.cells v
def Cg6 (P:Program) (e:Nat) (r:Bool) (v0:Value) (w:World) (O:Nat->Option Nat) (rs:List PV) (v:Value) (w':World):Prop:=
 Bel ⟨w,some v0⟩ w'∧∃O',(∀c,c<w.heap.size->C8 v0≠some c->O' c=O c)∧(∀c,w'.heap.size<=c->O' c=none)∧
  ∃xs us,rs=[.l (B8 P e) xs]∧I7 (Cr w' O') (B8 P e) xs us∧
   (r=true->Own w' (Fr.mk w (some v0)).ok e (B8 P e) v xs.length us∧∀g,C8 v=some g->O' g=some 0)∧
   (r=false->v= .tuple #[]∧Own w' (fun _=>True) e (B8 P e) v0 xs.length us∧∀g,C8 v0=some g->O' g=some 0)
structure Says (P:Program) (sig:Nat->Option Nat) (f n:Nat) (vs rs:List PV):Prop where
 plain:n<TAG->∀(w:World) (O:Nat->Option Nat) (args:Array Value),Given w O n vs args->H8 P f args w (Cg7 P (sig f) w O rs)
 turns:TAG<=n->(∃e r,Vk (sig f)=some (e,r)∧∀(w:World) (O:Nat->Option Nat) (args:Array Value) (v0:Value) (xs:List PV) (us:List Value),GivenM P e w O (n - TAG) vs args v0 xs us->H8 P f args w (Cg6 P e r v0 w O rs))∨
  ∃e,cr (sig f)=some e∧∀(w:World) (O:Nat->Option Nat) (args:Array Value) (b:Option Addr) (xs:List PV),Given w O (n - TAG) vs args->vs[0]? =some (.l (B8 P e) xs)->args[0]? =some (.slice b xs.length xs.length)->H8 P f args w (Cg7 P (sig f) w O rs)
def Pp (P:Program) (f T:Nat):Nat->Prop
 |0=>∃tb ts e,Qx P T=some e∧P.underlying tb=some (.slice e)∧P.underlying ts=some .string∧∀(w w1 w2:World) (b:Nat) (p u:Value) (s:ByteArray) (ao:Option Addr) (n' c':Nat),w.heap[b]? =some (.cells #[p,u] T (0,0))->Qz b p w w1->
   (Builtin.append_ #[tb,ts] tb #[u,.string s]).run P w1= .ok (.slice ao n' c') w2->(∃q u',w2.heap[b]? =some (.cells #[q,u'] T (0,0)))->
   H8 P f #[.pointer (some ⟨b,0,none⟩),.string s] w fun _ w'=>w'=w2.setCell ⟨b,1,none⟩ (.slice ao n' c')
 |1=>∃tb e,Qx P T=some e∧P.underlying tb=some (.slice e)∧∀(w w1 w2:World) (b:Nat) (p u:Value) (c:Int) (ao:Option Addr) (n' c':Nat),w.heap[b]? =some (.cells #[p,u] T (0,0))->Qz b p w w1->
   (Builtin.append_ #[tb,tb] tb #[u,.slice (some ⟨w1.heap.size,0,none⟩) 1 1]).run P (w1.alloc (.cells #[.int .u8 c] e))= .ok (.slice ao n' c') w2->(∃q u',w2.heap[b]? =some (.cells #[q,u'] T (0,0)))->
   H8 P f #[.pointer (some ⟨b,0,none⟩),.int .u8 c] w fun _ w'=>w'=w2.setCell ⟨b,1,none⟩ (.slice ao n' c')
 |_=>∃e,Qx P T=some e∧∀(w:World) (b g cap:Nat) (p:Value) (cur:Array Value) (l:List UInt8),w.heap[b]? =some (.cells #[p,.slice (some ⟨g,0,none⟩) l.length cap] T (0,0))->
   w.heap[g]? =some (.cells cur e (0,0))->l≠[]->l.length<=cap->cap<=maxLen->cur.size=cap->cur.toList.take l.length=Lib.byteCells l->
   H8 P f #[.pointer (some ⟨b,0,none⟩)] w fun v w'=>v= .string ⟨l.toArray⟩∧w'=w.drew.freeze ⟨g,0,none⟩ l.length
def Fp3 (P:Program) (sig:Nat->Option Nat):Prop:=∀f T k,jh (sig f)=some (T,k)->Pp P f T k
structure Contract (P:Program) (sig:Nat->Option Nat) (fn:Fns):Prop where
 says:∀f n vs rs,fn f n vs=some rs->Says P sig f n vs rs
 bld:Fp3 P sig
section
variable {P:Program} {sig:Nat->Option Nat} {fn:Fns} {w0:Fr} {Oe:Nat->Option Nat} {J:List PV} {σ:St} {a:Act} {tm:Array Value} {w:World} {β:Nat->Nat} {hv:Nat->Value} {O:Nat->Option Nat} {G:Option E} {o:Oper} {ws:List W}
def Rel.belowO {w':World} {O':Nat->Option Nat} (h:Rel w0 Oe J σ tm w β hv O) (hb:Blw w.heap.size w w') (hO:∀c,c<w.heap.size->O' c=O c) (hout:∀c,w'.heap.size<=c->O' c=none):Rel w0 Oe J σ tm w' β hv O'∧(Cr w O).Le (Cr w' O'):=by
 have hM:(Cr w O).Le (Cr w' O'):=Hc (fun c hc _=>hb.block c hc) (fun c hc lim hl=>⟨lim,by rw[<-hO c hc];exact hl,B7 _⟩) (fun c hc hn=>by rw[hO c hc];exact hn);have hl:(Cx.mk J (Cr w O) β hv σ.m).Le ⟨J,Cr w' O',β,hv,σ.m⟩:=⟨fun _ _ h=>h,hM⟩;have hs0:w0.heap.size<=w.heap.size:=h.bel.size;refine⟨⟨h.bel.then hb,fun c hc hx=>by rw[hO c (F5 hc hs0)];exact h.ext c hc hx,hout,Cb.le hl (fun s=>At.of (fun _ _ h=>h) s) _ _ h.tmps,fun s b hs=> ?_,fun s1 s2 b1 b2 h1 h2 h12 k1 k2=> ?_,h.t0⟩,hM⟩
 .have hbl:=h.mem s b hs;exact hbl.le hl (fun s=>At.of (fun _ _ h=>h) s) (fun hh=>hb.block _ (hbl.lt hh).2) (fun hh=>hO _ (hbl.lt hh).2)
 .exact h.inj s1 s2 b1 b2 h1 h2 h12 ((Has.congr (C:=⟨J,Cr w O,β,hv,σ.m⟩) rfl rfl).1 k1) ((Has.congr (C:=⟨J,Cr w O,β,hv,σ.m⟩) rfl rfl).1 k2)
def At0 {w:World} {O:Nat->Option Nat} {B:Nat->Prop} {e sz:Nat} {v:Value} {xs:List PV} {us:List Value} (hsz:0<sz) (how:Own w B e sz v xs.length us) (hel:I7 (Cr w O) sz xs us):
  Rep (Cr w fun c=>if C8 v=some c then none else O c) (.l sz xs) v:=by
 have hM:(Cr w O).Le (Cr w fun c=>if C8 v=some c then none else O c):=Hc (fun _ _ _=>rfl) (fun c _ lim hl=>by
  split at hl
  .cases hl
  .exact⟨lim,hl,B7 _⟩) (fun c _ hn=>by
  split
  .rfl
  .exact hn)
 rcases how.2 with⟨b,rfl,hn⟩|⟨g,cap,cur,rfl,e1c,e2,e3,e4,e5,e6,e7⟩
 .have hx:xs=[]:=Cp hn;subst hx;exact Rep.lnil _ _ _ _
 .have hg:C8 (.slice (some ⟨g,0,none⟩) xs.length cap)=some g:=by simp only[C8,if_neg (show¬cap=0 by omega)]
  have get:∀(i:Nat) (x:PV) (j:Nat) (c:PV),xs[i]? =some x->x.cells[j]? =some c->∃u,us[i*sz+j]? =some u∧One u∧Rep (Cr w O) c u:=fun i x j c hx hc=>(hel i x hx).2 j c hc;refine .l sz xs _ cap ⟨g,0,none⟩ (fun i j=>us.getD (i*sz+j) undef) e4 (fun _=>rfl) (fun i x hx=>(hel i x hx).1) (fun i x j c hx hc=> ?_) (fun i x j c hx hc=> ?_) (fun i x j c hx hc=> ?_)
  .obtain⟨u,k1,k2,k3⟩:=get i x j c hx hc;simp only[Ct,k1,D2];refine Fy (how.cells hg _ _ k1) fun lim hl=> ?_;rw[add_lit] at hl;simp only[hg,if_true] at hl;cases hl
  .obtain⟨u,k1,k2,k3⟩:=get i x j c hx hc;simp only[Ct,k1,D2];exact k2
  .obtain⟨u,k1,k2,k3⟩:=get i x j c hx hc;simp only[Ct,k1,D2];exact k3.mono hM
def Cg7.plain {own:Option Nat} {rs:List PV} {v:Value} {w':World} (h:Cg7 P own w O rs v w') (hO:∀c,w.heap.size<=c->O c=none):Blw w.heap.size w w'∧∃O',(∀c,c<w.heap.size->O' c=O c)∧(∀c,w'.heap.size<=c->O' c=none)∧L3 (Cr w' O') rs v:=by
 obtain⟨hb,O',h1,h2,h3⟩:=h;refine⟨hb,?_⟩;generalize rkOf own=k at h3;cases k with
 |plain=>exact⟨O',h1,h2,h3⟩
 |full nl m=>exact⟨O',h1,h2,h3.1⟩
 |ownt e=>
  obtain⟨h0,xs,us,p,v1,v2,rfl,rfl,h4,h5,h6,h7⟩:=h3;have hM:(Cr w' O').Le (Cr w' fun c=>if C8 v1=some c then none else O' c):=Hc (fun _ _ _=>rfl) (fun c _ lim hl=>by
   split at hl
   .cases hl
   .exact⟨lim,hl,B7 _⟩) (fun c _ hn=>by
   split
   .rfl
   .exact hn)
  refine⟨fun c=>if C8 v1=some c then none else O' c,fun c hc=> ?_,fun c hc=> ?_,#[v1,v2],rfl,rfl,fun j q u hq hu=> ?_⟩
  .dsimp only;rw[if_neg,h1 c hc];intro hg;have:=(h4.lt c hg).1;omega
  .dsimp only;split
   .rfl
   .exact h2 c hc
  .match j with
   |0=>
    simp only[Dm,Bm] at hq;have hu':some v1=some u:=hu;injection hu' with hu';subst hq;subst hu';exact At0 h0 h4 h5
   |1=>
    have hq':some p=some q:=hq;have hu':some v2=some u:=hu;injection hq' with hq';injection hu' with hu';subst hq';subst hu';exact h7.mono hM
   |j+2=>
    have hq':(none:Option PV)=some q:=hq;cases hq'
 |own e=>
  obtain⟨h0,xs,us,rfl,h4,h5,h6⟩:=h3;refine⟨fun c=>if C8 v=some c then none else O' c,fun c hc=> ?_,fun c hc=> ?_,At0 h0 h4 h5⟩
  .dsimp only;rw[if_neg,h1 c hc];intro hg;have:=(h4.lt c hg).1;omega
  .dsimp only;split
   .rfl
   .exact h2 c hc
def Rep.flat {M M':Vw} {p:PV} {v:Value} (h:Rep M p v) (hp:p.flat=true):Rep M' p v:=by
 induction h with
 |b x=>exact .b x
 |i k n=>exact .i k n
 |s x y h=>exact .s x y h
 |a cs vs hl h1 _ ih=>
  refine .a cs vs hl h1 fun j c v hc hv=>ih j c v hc hv ?_;have:∀(l:List PV),PV.flat.flats l=true->∀c,c∈l->c.flat=true:=by
   intro l
   induction l with
   |nil=>intro _ c hc;simp at hc
   |cons x l ih=>
    intro h c hc;simp only[PV.flat.flats,Bt] at h;rcases Cg.1 hc with rfl|hc
    .exact h.1
    .exact ih h.2 c hc
  simp only[PV.flat] at hp;exact this cs hp c (Cy hc)
 |u _=>simp[PV.flat] at hp
 |l=>simp[PV.flat] at hp
 |f=>simp[PV.flat] at hp
 |m=>simp[PV.flat] at hp
 |pt=>simp[PV.flat] at hp
def Lm:∀(l:List PV),PV.flat.flats l=true->∀c,c∈l->c.flat=true
 |[],_,c,hc=>by simp at hc
 |x::l,h,c,hc=>by
  simp only[PV.flat.flats,Bt] at h;rcases Cg.1 hc with rfl|hc
  .exact h.1
  .exact Lm l h.2 c hc
def L3.flat {M M':Vw} {rs:List PV} {v:Value} (h:L3 M rs v) (hf:PV.flat.flats rs=true):L3 M' rs v:=by
 unfold L3 at h ⊢;split at h
 .rename_i p;exact h.flat (Lm _ hf _ (.head _))
 .obtain⟨vs,h1,h2,h3⟩:=h;exact⟨vs,h1,h2,fun j p u hp hu=>(h3 j p u hp hu).flat (Lm _ hf _ (Cy hp))⟩
end
section
variable {P:Program} {sig:Nat->Option Nat} {fn:Fns} {w0:Fr} {Oe:Nat->Option Nat} {J:List PV} {σ:St} {a:Act} {tm:Array Value} {w:World} {β:Nat->Nat} {hv:Nat->Value} {O:Nat->Option Nat} {G:Option E} {o:Oper} {ws:List W}
def Rel.setN (h:Rel w0 Oe J σ tm w β hv O) (n:Nat):Rel w0 Oe J (σ.eff ⟨σ.m,n,none⟩) tm w β hv O:=⟨h.bel,h.ext,h.out,h.tmps,h.mem,h.inj,h.t0⟩
def Tgt (M:Vw) (f:Nat) (caps:List PV) (v:Value):Prop:=
 ∃cv:Array Value,v= .func (.func f) #[] cv∧cv.size=caps.length∧∀(j:Nat) (p:PV) (u:Value),caps[j]? =some p->cv[j]? =some u->H7 M p.cells u
def Tgt.static (M:Vw) (f:Nat):Tgt M f [] (.func (.func f) #[] #[]):=⟨#[],rfl,rfl,fun j p u h=>by simp at h⟩
def Tgt.of_rep {M:Vw} {f:Nat} {caps:List PV} {v:Value} (h:Rep M (.f f caps) v):Tgt M f caps v:=by
 cases h with
 |f _ _ cv ads el hl hcv hM h1 h=>
  refine⟨cv,rfl,hl,fun j p u hp hu=> ?_⟩;have hj:=(Bn.1 hp).1;rw[hcv j hj] at hu;injection hu with hu;exact⟨ads j,el j,hu.symm,fun k c hc=>hM j p k c hp hc,fun k c hc=>h1 j p k c hp hc,fun k c hc=>h j p k c hp hc⟩
def Gg {c:Call} {x:Operand} {f:Nat} {cv:Array Value} {R:Value->World->Prop} (ho:o.op= .call c) (hc:c.callee= .value x) (hx:a.eval x= .func (.func f) #[] cv) (h:H8 P f (c.args.map a.eval++cv) w R):Ed P o a w R:=by
 have e:(execOp a.eval o).run P w=(callFunc f (c.args.map a.eval++cv)).run P w:=by simp[execOp,ho,resolve,hc,hx,Deferred.ofValue,invoke]
 rcases h with⟨v,w',h1,h2⟩|⟨w',h1,h2⟩
 .exact .inl ⟨v,w',by rw[e];exact h1,h2⟩
 .exact .inr (.inr ⟨_,_,w',by rw[e];exact h1,h2⟩)
def mb {C:Cx} {η1 rs ζ:List PV} {n:Nat} {single:Bool} {v:Value} (hη:C.J=η1++rs++ζ) (hn:η1.length=n) (hs:single=true->rs.length=1) (hs2:single=false->rs.length≠1) (hr:L3 C.M rs v):Cj C (Af3 n rs.length single) v:=by
 have get:∀j p,rs[j]? =some p->C.J[n+j]? =some p:=by intro j p hp;have hj:=(Bn.1 hp).1;rw[hη,Ck,Cw (by omega),<-hn,Nat.add_sub_cancel_left,Cd hj];exact hp
 cases single with
 |true=>
  have h1:=hs rfl
  match rs,h1 with
  |[p],_=>
   have hr':Rep C.M p v:=hr;simp only[Af3,if_true,Cj,E.ev];exact⟨p,get 0 p rfl,hr'⟩
 |false=>
  have h1:=hs2 rfl;have hr':∃vs:Array Value,v= .tuple vs∧vs.size=rs.length∧∀(j:Nat) (p:PV) (u:Value),rs[j]? =some p->vs[j]? =some u->Rep C.M p u:=by
   unfold L3 at hr;split at hr
   .exact absurd rfl h1
   .exact hr
  obtain⟨vs,rfl,h2,h3⟩:=hr';simp only[Af3,B5,if_false,Cj];refine⟨vs,rfl,Cb.mk (by simp[h2]) fun j x u hx hu=> ?_⟩;simp only[C4,Bp] at hx;obtain⟨k,hk,rfl⟩:=hx;have hj:j<rs.length:=by have:=(Bn.1 hk).1;simpa using this
  rw[Dx hj] at hk;injection hk with hk;subst hk;simp only[Cj,E.ev];have hp:rs[j]? =some rs[j]:=B4 hj;exact⟨rs[j],get j _ hp,h3 j _ u hp (by rw[<-B6];exact hu)⟩
def Iq {flat:Bool} {m:Nat} {η1 η2:List PV} {r:Option (List PV)} (h:results flat m η1 r=some η2):∃rs,r=some rs∧rs.length=m∧(flat=true->PV.flat.flats rs=true)∧η2=η1++rs:=by
 simp only[results,Bl] at h;obtain⟨rs,hr,h⟩:=h;split at h
 .rename_i hc;injection h with h;exact⟨rs,hr,hc.1,hc.2,h.symm⟩
 .cases h
def Vd {m:Nat} {η1 η2 ζ:List PV} {r:Option (List PV)} (h:F1 η1 m G r=some η2) (hη:J=η2++ζ) (hp:r=some η2->∃ζ,η2=η1++ζ) (hG:GOk J G):r=some η2:=by
 unfold F1 at h;split at h
 .exact h
 .rename_i g;simp only[Bl] at h;obtain⟨v,hv,h⟩:=h;split at h
  .exact h
  .injection h with h;have:=E.ev_mono η1 (List.replicate m .u++ζ) g _ hv;rw[<-Ck,h,<-hη,hG g rfl] at this;cases this
  .cases h
def Oj (P:Program) (nl:Bool) (n mask:Nat):∀(l:List TypeId) (j:Nat),(H5 P nl n mask j l).length=l.length
 |[],_=>rfl
 |_::r,j=>by simp[H5,Oj P nl n mask r (j+1)]
def fullCells_get {P:Program} {nl:Bool} {n mask:Nat}:∀(l:List TypeId) (j0 j:Nat) (x:SV),(H5 P nl n mask j0 l)[j]? =some x->Chk J (N9 P nl n mask j0 l)->
  (mask.testBit (j0+j)=false∧x= .e (.proj (j0+j) (.v n)))∨(mask.testBit (j0+j)=true∧nl=true∧∃sz,x= .nil sz)∨(mask.testBit (j0+j)=true∧∃sz q,x= .lit sz (.proj (j0+j) (.v n))∧(E.app sz (.proj (j0+j) (.v n)) (.c (.l sz []))).ev J=some q)
 |[],j0,j,x,h,_=>by simp[H5] at h
 |t::r,j0,0,x,h,hk=>by
  simp only[H5,Dm,Bm] at h;rw[E5];split at h
  .rename_i hb;cases nl with
   |true=>exact .inr (.inl ⟨hb,rfl,_,by simpa using h.symm⟩)
   |false=>
    simp only[B5,if_false] at h;obtain⟨q,hq⟩:=hk (.app (Lk P t) (.proj j0 (.v n)) (.c (.l (Lk P t) []))) (by simp[N9,hb]);exact .inr (.inr ⟨hb,_,q,h.symm,hq⟩)
  .rename_i hb;exact .inl ⟨by simpa using hb,h.symm⟩
 |t::r,j0,j+1,x,h,hk=>by simp only[H5,Ec] at h;have:=fullCells_get r (j0+1) j x h (fun y hy=>hk y (by simp only[N9];exact C6 _ hy));rw[show j0+1+j=j0+(j+1) by omega] at this;exact this
def Ev7 (P:Program) (sig:Nat->Option Nat) (m0:List (Nat×Blk)) (n:Nat) (J:List PV) (ty s f:Nat) (flat:Bool) (r:SV) (ε:Eff) (r':SV) (ε':Eff):Prop:=
 (r'=r∧ε'=ε)∨(∃e,rkOf (sig f)= .own e∧r'= .h s∧ε'=G6 ε.m ε.n s (.arr e (B8 P e) (.v n) .no))∨
 (∃e,rkOf (sig f)= .ownt e∧r'= .tup [.h s,.e (.v (n+1))]∧ε'=G6 ε.m ε.n s (.arr e (B8 P e) (.v n) .no))∨
 (∃e,rkOf (sig f)= .own e∧r'= .h s∧ε'=G6 m0 ε.n s (.arr e (B8 P e) (.v n) .no)∧∃q,(E.flt (.v n)).ev J=some q)∨
 ∃nl mask,rkOf (sig f)= .full nl mask∧flat=false∧I4 P ty=true∧r'= .ag (H5 P nl n mask 0 (J1 P 20 ty))∧ε'=ε∧(∃q,(E.fit (J1 P 20 ty).length (.v n)).ev J=some q)∧Chk J (N9 P nl n mask 0 (J1 P 20 ty))
def Ds5 (hC:Contract P sig fn) {c:Call} {x:Operand} {svs:List SV} {es:List E} {ss more:List Nat} {flat single:Bool} {m:Nat} {η1 ζ rs vs caps:List PV} {f s:Nat} {r:SV} {ε:Eff} (ho:o.op= .call c) (hc:c.callee= .value x)
  (h:Rel w0 Oe J σ a.tmps w β hv O) (hargs:Cb ⟨J,Cr w O,β,hv,σ.m⟩ svs (c.args.map a.eval).toList) (hes:fw σ.m svs=some (es,ss)) (hvs:E.evs J es=some vs)
  (htgt:∀O1,(Cr w O).Le (Cr w O1)->(∀s,s∈more->K0 ⟨J,Cr w O,β,hv,σ.m⟩ O1 s)->Tgt (Cr w O1) f caps (a.eval x))
  (hfn:fn f vs.length (vs++caps)=some rs) (hlt:vs.length<TAG) (hm:rs.length=m) (hfl:flat=true->PV.flat.flats rs=true) (hη:J=η1++rs++ζ) (hn:η1.length=σ.n) (hs1:single=true->m=1) (hs2:single=false->m≠1)
  {ty:Nat} (hsi:I4 P ty=true->m=1) (hres:Ev7 P sig σ.m σ.n J ty s f flat (Af3 σ.n m single) ⟨if flat then σ.m else Ks (ss++more) σ.m,σ.n+m,none⟩ r ε):
  Ed P o a w (G1 w0 Oe J σ a.tmps ε r):=by
 obtain⟨O1,hrel,hM,hop,_⟩:=h.frz (ss++more) (n:=σ.n+m);obtain⟨ps,q1,q2,q3⟩:=O3 h hM hes hargs (fun s hs=>hop s (by simp[hs]));rw[hvs] at q1;injection q1 with q1;subst q1;obtain⟨cv,hx,hcv,hcaps⟩:=htgt O1 hM (fun s hs=>hop s (by simp[hs]));have hsz:(c.args.map a.eval).size=vs.length:=by rw[q2,C3]
 have hgiven:Given w O1 vs.length (vs++caps) (c.args.map a.eval++cv):=by
  refine⟨hrel.out,by rw[Nx,Br,hsz,hcv],fun j p v hj hp hu=> ?_,fun j p v hj hp hu=> ?_⟩
  .rw[Cd hj] at hp;rw[Ej (by omega)] at hu;exact q3 j p v hp (by rw[B6];exact hu)
  .rw[Cw hj] at hp;rw[Array.getElem?_append_right (by omega),hsz] at hu;exact hcaps _ p v hp hu
 refine Gg ho hc hx (((hC.says f _ _ rs hfn).plain hlt w O1 _ hgiven).mono fun v w' hback=> ?_);subst hm;rcases hres with⟨rfl,rfl⟩|⟨e,hsig,rfl,rfl⟩|⟨e,hsig,rfl,rfl⟩|⟨e,hsig,rfl,rfl,q,hq⟩|⟨nl,mask,hsig,rfl,hsg,rfl,rfl,⟨q0,hq0⟩,hkw⟩
 .obtain⟨hb,O1',k1,k2,k3⟩:=hback.plain hrel.out;cases flat with
  |true=>
   simp only[if_true];have hrel2:Rel w0 Oe J (σ.eff ⟨σ.m,σ.n+rs.length,none⟩) a.tmps w' β hv O:=(h.below hb).setN _;refine⟨β,hv,O,hrel2,mb (C:=⟨J,Cr w' O,β,hv,σ.m⟩) hη hn hs1 hs2 (k3.flat (hfl rfl))⟩
  |false=>
   simp only[B5,if_false];obtain⟨hrel2,hM2⟩:=hrel.belowO hb k1 k2;exact⟨β,hv,O1',hrel2,mb (C:=⟨J,Cr w' O1',β,hv,_⟩) hη hn hs1 hs2 k3⟩
 .obtain⟨hb,O1',k1,k2,k3⟩:=hback;rw[hsig] at k3;obtain⟨h0,xs,us,rfl,k4,k5,k6⟩:=k3;have hx1:(E.v σ.n).ev J=some (.l (B8 P e) xs):=by simp only[E.ev];rw[hη,Ck,Cw (by omega),<-hn,Nk];rfl
  cases flat with
  |true=>
   have:=hfl rfl;simp[PV.flat.flats,PV.flat] at this
  |false=>
   simp only[B5,if_false];obtain⟨β',hv',r1,r2⟩:=hrel.own (n:=σ.n+1) (s:=s) (e:=e) (ro:= .no) (x:= .v σ.n) hb k1 k2 k6 h0 hx1 k4 k5;refine⟨β',hv',O1',r1,?_⟩;simp only[Cj];exact r2.symm
 .obtain⟨hb,O1',k1,k2,k3⟩:=hback;rw[hsig] at k3;obtain⟨h0,xs,us,p,v1,v2,rfl,rfl,k4,k5,k6,k7⟩:=k3;have hx1:(E.v σ.n).ev J=some (.l (B8 P e) xs):=by simp only[E.ev];rw[hη,Ck,Cw (by omega),<-hn,Nk];rfl
  have hx2:(E.v (σ.n+1)).ev J=some p:=by simp only[E.ev];rw[hη,Ck,Cw (by omega),<-hn,Nat.add_sub_cancel_left];rfl
  cases flat with
  |true=>
   have:=hfl rfl;simp[PV.flat.flats,PV.flat] at this
  |false=>
   simp only[B5,if_false];obtain⟨β',hv',r1,r2⟩:=hrel.own (n:=σ.n+2) (s:=s) (e:=e) (ro:= .no) (x:= .v σ.n) hb k1 k2 k6 h0 hx1 k4 k5;refine⟨β',hv',O1',r1,?_⟩;simp only[Cj];refine⟨#[v1,v2],rfl,?_⟩;simp only[Cb,Cj];exact⟨v1,[v2],rfl,r2.symm,v2,[],rfl,⟨p,hx2,k7⟩,rfl⟩
 .obtain⟨hb,O1',k1,k2,k3⟩:=hback;rw[hsig] at k3;obtain⟨h0,xs,us,rfl,k4,k5,k6⟩:=k3;have hx1:(E.v σ.n).ev J=some (.l (B8 P e) xs):=by simp only[E.ev];rw[hη,Ck,Cw (by omega),<-hn,Nk];rfl
  have hfx:PV.flat.flats xs=true:=by
   have hq':((E.v σ.n).ev J).bind Dm1=some q:=by simpa only[E.ev] using hq
   rw[hx1,Bs] at hq';unfold Dm1 at hq';dsimp only at hq';split at hq'
   .assumption
   .cases hq'
  have hel:I7 (Cr w' fun c=>if C8 v=some c then some 0 else O c) (B8 P e) xs us:=fun i x hx=>by
   obtain⟨g1,g2⟩:=k5 i x hx;refine⟨g1,fun j c hc=> ?_⟩;obtain⟨u,l1,l2,l3⟩:=g2 j c hc;refine⟨u,l1,l2,l3.flat ?_⟩;have hxf:=Lm _ hfx x (Cy hx);cases x with
   |a cs=>exact Lm _ hxf c (Cy hc)
   |_=>
    have:=Cy hc;simp only[PV.cells,Dj] at this;subst this;exact hxf
  cases flat with
  |true=>
   have:=hfl rfl;simp[PV.flat.flats,PV.flat] at this
  |false=>
   obtain⟨β',hv',r1,r2⟩:=h.own (n:=σ.n+1) (s:=s) (e:=e) (ro:= .no) (x:= .v σ.n) (O':=fun c=>if C8 v=some c then some 0 else O c) hb (fun c hc=>if_neg fun hg=>by have:=(k4.lt c hg).1;omega) (fun c hc=>by rw[if_neg fun hg=>by have:=(k4.lt c hg).2;omega];exact h.out c (En hb.size hc)) (fun g hg=>if_pos hg) h0 hx1 k4 hel;refine⟨β',hv',_,r1,?_⟩;simp only[Cj];exact r2.symm
 .obtain⟨hb,O1',k1,k2,k3⟩:=hback;rw[hsig] at k3;obtain⟨k3,k4⟩:=k3;simp only[B5,if_false];obtain⟨hrel2,hM2⟩:=hrel.belowO hb k1 k2;refine⟨β,hv,O1',hrel2,?_⟩;have hl1:=hsi hsg
  match rs,hl1 with
  |[p],_=>
   have hp:(E.v σ.n).ev J=some p:=by simp only[E.ev];rw[hη,Ck,Cw (by omega),<-hn,Nk];rfl
   have k3':Rep (Cr w' O1') p v:=k3;simp only[E.ev,Bl] at hq0;obtain⟨p',hp',hq0⟩:=hq0;have hp2:J[σ.n]? =some p:=by simpa only[E.ev] using hp
   rw[hp2] at hp';injection hp' with hp';subst hp';cases p with
   |a cs=>
    simp only at hq0;split at hq0
    .rename_i hcl;cases k3' with
     |a _ vs hl h1 hrep=>
      simp only[Cj];refine⟨vs,rfl,h1,Cb.mk (by rw[Oj];simp[hl,hcl]) fun j x u hx hu=> ?_⟩;rw[B6] at hu;have hj:j<cs.length:=by rw[<-hl];exact(Dd.1 hu).1
      have hc:cs[j]? =some cs[j]:=B4 hj;have hr:=hrep j _ u hc hu;have hev:(E.proj j (.v σ.n)).ev J=some cs[j]:=by simp only[E.ev,hp2,Bs];exact hc
      rcases fullCells_get _ 0 j x hx hkw with⟨_,rfl⟩|⟨hbit,hnl,sz,rfl⟩|⟨hbit,sz,q,rfl,hq⟩
      .rw[Fl];simp only[Cj];exact⟨_,hev,hr⟩
      .rw[Fl] at hbit;obtain⟨vs',b,k,hvv,hvj,hn2⟩:=k4 j hbit;obtain⟨rfl,rfl⟩:=hn2 hnl;injection hvv with hvv;subst hvv;rw[hu] at hvj;simp only[Cj];injection hvj
      .rw[Fl] at hbit hq ⊢;simp only[E.ev,hp2,Bs] at hq;have hc':(PV.a cs).cells[j]? =some cs[j]:=hc;rw[hc'] at hq;simp only[Bs] at hq;obtain⟨vs',b,k,hvv,hvj,_⟩:=k4 j hbit;injection hvv with hvv;subst hvv;rw[hu] at hvj;injection hvj with hvj;subst hvj;generalize hcj:cs[j]=c at hr hev hq;unfold I0 at hq;split at hq
       .rename_i s1 xs s2 ys heq;split at hq
        .rename_i hcond;obtain⟨rfl,_,_⟩:=hcond;simp only[Cj];cases hr with
         |l _ _ _ _ ad el hc hb0 hsz hM3 h3 h4=>
          exact⟨xs,b,hev,rfl,.l _ _ _ _ ad el hc hb0 hsz hM3 h3 h4⟩
        .cases hq
       .cases hq
    .cases hq0
   |_=>simp at hq0
end
def Db2 (y y':ByteArray):(y==y')=(y.data.toList==y'.data.toList):=by
 cases y with|mk a=>cases y' with|mk b=>
 show (a==b)=_;rcases a with⟨a⟩;rcases b with⟨b⟩;simp
def mfind_now {M:Vw} {x:List UInt8} {y:ByteArray} (hy:y.data.toList=x):∀(es:List (PV×PV)) (ents:List MapEntry) (i:Nat) (r:Option PV),ents.length=es.length->
  (∀(j:Nat) (e:PV×PV) (z:MapEntry),es[j]? =some e->ents[j]? =some z->Rep M e.1 z.key)->Xk (.s x) es=some r->
  (r=none∧Instr.findNow .string (.string y) ents i=some none)∨
  ∃j z e,Instr.findNow .string (.string y) ents i=some (some (i+j,z.val))∧ents[j]? =some z∧es[j]? =some e∧r=some e.2
 |[],[],i,r,_,_,h=>by simp only[Xk,Bm] at h;exact .inl ⟨h.symm,rfl⟩
 |e::es,z::ents,i,r,hl,hk,h=>by
  have k0:=hk 0 e z rfl rfl;have hk':∀(j:Nat) (e:PV×PV) (z:MapEntry),es[j]? =some e->ents[j]? =some z->Rep M e.1 z.key:=fun j e' z' h1 h2=>hk (j+1) e' z' (by simpa using h1) (by simpa using h2);simp only[Xk] at h;cases hc:e.1 with
  |s x'=>
   rw[hc] at k0;obtain⟨y',hz,hy'⟩:=k0.str;simp only[hc,b9] at h;have hs:Instr.sameNow .string (.string y) z.key=some (x==x'):=by rw[hz];simp only[Instr.sameNow];rw[Db2,hy,hy']
   cases hb:(x==x') with
   |true=>
    rw[hb] at h hs;simp only[Bm] at h;refine .inr ⟨0,z,e,?_,rfl,rfl,h.symm⟩;simp only[Instr.findNow,hs,E5]
   |false=>
    rw[hb] at h hs;simp only at h;rcases mfind_now hy es ents (i+1) r (by simpa using hl) hk' h with⟨h1,h2⟩|⟨j,z',e',h1,h2,h3,h4⟩
    .exact .inl ⟨h1,by simp only[Instr.findNow,hs,h2]⟩
    .refine .inr ⟨j+1,z',e',?_,by simpa using h2,by simpa using h3,h4⟩;simp only[Instr.findNow,hs,h1];rw[Fc,Nat.add_comm 1 j]
  |_=>simp[hc,b9] at h
 |[],_::_,_,_,hl,_,_=>by simp at hl
 |_::_,[],_,_,hl,_,_=>by simp at hl
def mput_now {M:Vw} {x:List UInt8} {y:ByteArray} {v:PV} (hy:y.data.toList=x):∀(es:List (PV×PV)) (ents:List MapEntry) (i:Nat) (es':List (PV×PV)),ents.length=es.length->
  (∀(j:Nat) (e:PV×PV) (z:MapEntry),es[j]? =some e->ents[j]? =some z->Rep M e.1 z.key)->Cs3 (.s x) v es=some es'->
  (Instr.findNow .string (.string y) ents i=some none∧es'=es++[(.s x,v)])∨
  ∃j z,Instr.findNow .string (.string y) ents i=some (some (i+j,z.val))∧ents[j]? =some z∧z.key= .string y∧es'=es.set j (.s x,v)
 |[],[],i,es',_,_,h=>by simp only[Cs3,Bm] at h;exact .inl ⟨rfl,h.symm⟩
 |e::es,z::ents,i,es',hl,hk,h=>by
  have k0:=hk 0 e z rfl rfl;have hk':∀(j:Nat) (e:PV×PV) (z:MapEntry),es[j]? =some e->ents[j]? =some z->Rep M e.1 z.key:=fun j e' z' h1 h2=>hk (j+1) e' z' (by simpa using h1) (by simpa using h2);simp only[Cs3] at h;cases hc:e.1 with
  |s x'=>
   rw[hc] at k0;obtain⟨y',hz,hy'⟩:=k0.str;simp only[hc,b9] at h;have hs:Instr.sameNow .string (.string y) z.key=some (x==x'):=by rw[hz];simp only[Instr.sameNow];rw[Db2,hy,hy']
   cases hb:(x==x') with
   |true=>
    have hyy:y=y':=by
     have:(y==y')=true:=by rw[Db2,hy,hy',hb]
     exact(MapKept.bytes_beq _ _).1 this
    rw[hb] at h hs;simp only[Bm] at h;refine .inr ⟨0,z,?_,rfl,by rw[hz,hyy],by rw[<-h];rfl⟩;simp only[Instr.findNow,hs,E5]
   |false=>
    rw[hb] at h hs;simp only[Bp] at h;obtain⟨es1,hm1,rfl⟩:=h;rcases mput_now hy es ents (i+1) es1 (by simpa using hl) hk' hm1 with⟨h1,rfl⟩|⟨j,z',h1,h2,h3,rfl⟩
    .exact .inl ⟨by simp only[Instr.findNow,hs,h1],rfl⟩
    .refine .inr ⟨j+1,z',?_,by simpa using h2,h3,rfl⟩;simp only[Instr.findNow,hs,h1];rw[Fc,Nat.add_comm 1 j]
  |_=>simp[hc,b9] at h
 |[],_::_,_,_,hl,_,_=>by simp at hl
 |_::_,[],_,_,hl,_,_=>by simp at hl
def Zx {P:Program} {t e:TypeId} (h:Zy P t=some e):∃k,P.underlying t=some (.map k e)∧P.underlying k=some .string:=by
 unfold Zy at h;split at h
 .rename_i k e' hu;split at h
  .rename_i hk;injection h with h;subst h;exact⟨k,hu,hk⟩
  .cases h
 .cases h
def Bm9 {P:Program} {t:TypeId} {z:E} {w:World} (h:Bn0 P t=some z) (C:Cx):∃v p,(zeroValue t).run P w= .ok v w∧One v∧z.ev C.J=some p∧Rep C.M p v:=by
 unfold Bn0 at h;split at h
 .rename_i i hi;split at h
  .rename_i v hv;split at h
   .rename_i h1;obtain⟨p,hp,hr⟩:=SV.asE_ok h (O5 C (Lk P t) v);exact⟨v,p,by simp[zeroValue,typeInfo,hi,hv],h1,hp,hr⟩
   .cases h
  .cases h
 .cases h
section
variable {P:Program} {w0:Fr} {Oe:Nat->Option Nat} {J:List PV} {σ:St} {a:Act} {tm:Array Value} {w:World} {β:Nat->Nat} {hv:Nat->Value} {O:Nat->Option Nat} {G:Option E} {o:Oper} {ws:List W}
def Dg5 (h:Rel w0 Oe J σ tm w β hv O) {sv:SV} {x:E} {v:Value} (hx:Fn3 σ.m sv=some x) (hr:Cj ⟨J,Cr w O,β,hv,σ.m⟩ sv v) {es:List (PV×PV)} (hev:x.ev J=some (.m es)):
  ∃r ents clock,v= .map (some r)∧w.heap[r]? =some (.map ents clock)∧MapRep (Cr w O) es ents:=by
 unfold Fn3 at hx;split at hx
 .injection hx with hx;subst hx;simp only[Cj] at hr;obtain⟨p,hp,hpr⟩:=hr;have hp':E.ev J _=some p:=hp;rw[hev] at hp';injection hp' with hp';subst hp';cases hpr with
  |m _ r ents hr hl hk hv h1=>
   obtain⟨_,clock,hh⟩:=Wv hr;exact⟨r,ents,clock,rfl,hh,hl,hk,hv,h1⟩
 .split at hx
  .rename_i s y ro hb;injection hx with hx;subst hx;obtain⟨_,_,es',ents,clock,g1,g2,g3⟩:=h.mem _ _ hb;have g1':E.ev J _=some (.m es'):=g1;rw[hev] at g1';injection g1' with g1';injection g1' with g1';subst g1';simp only[Cj] at hr;exact⟨_,ents,clock,hr,g2,g3⟩
  .cases hx
 .cases hx
def Dg4 {x k z:E} {q:PV} (h:(E.mget x k z).ev J=some q):∃es kp zp r,x.ev J=some (.m es)∧k.ev J=some kp∧z.ev J=some zp∧Xk kp es=some r∧q=r.getD zp:=by
 simp only[E.ev,Bl] at h;obtain⟨p,hp,kp,hkp,zp,hzp,h⟩:=h;unfold bf at h;split at h
 .rename_i es;split at h
  .obtain⟨r,hr,hq⟩:=Bp.1 h;exact⟨es,kp,zp,r,hp,hkp,hzp,hr,hq.symm⟩
  .cases h
 .cases h
def At3 {t k e:TypeId} {m x:Operand} {sv:SV} {em ex z:E} (ho:o.op= .lookup t m x false) (ht:P.underlying t=some (.map k e)) (hkt:P.underlying k=some .string)
  (h:Rel w0 Oe J σ a.tmps w β hv O) (hG:GOk J G) (hm:opd P σ G 0 m=some sv) (hme:Fn3 σ.m sv=some em) (hx:Gx P σ G 0 x=some ex) (hz:Bn0 P e=some z)
  (hk:Chk J [Gp G (.mget em ex z),Gp G (.slen ex)]):Ed P o a w (G1 w0 Oe J σ a.tmps (Gm σ) (.e (.mget em ex z))):=by
 have hr:=Fw (ds:=a.defers) (C:=⟨J,Cr w O,β,hv,σ.m⟩) hG rfl hm h.tmps;obtain⟨kp,hkp,hkr⟩:=Ey (ds:=a.defers) (C:=⟨J,Cr w O,β,hv,σ.m⟩) hG rfl hx h.tmps;have hkp':ex.ev J=some kp:=hkp;obtain⟨q,hq⟩:=hk.g hG (.head _);obtain⟨l,hl⟩:=hk.g hG (.tail _ (.head _));obtain⟨es,kp',zp,r,q1,q2,q3,q4,q5⟩:=Dg4 hq;rw[hkp'] at q2;injection q2 with q2;subst q2;have hks:∃xs,kp= .s xs:=by simp only[E.ev,hkp',Bs] at hl;cases kp<;>simp[P1] at hl;exact⟨_,rfl⟩
 obtain⟨xs,rfl⟩:=hks;obtain⟨y,hy,hyx⟩:=hkr.str;obtain⟨rr,ents,clock,hmv,hheap,hrep⟩:=Dg5 h hme hr q1;obtain⟨zv,zp',hz1,hz2,hz3,hz4⟩:=Bm9 (w:=w) hz ⟨J,Cr w O,β,hv,σ.m⟩;have hz3':z.ev J=some zp':=hz3;rw[q3] at hz3';injection hz3' with hz3';subst hz3';have hm':a.eval m= .map (some rr):=hmv;have hx':a.eval x= .string y:=hy;have hch:∀em,(Instr.checkKey em 10000 k (.string y)).run P w= .ok () w:=fun em=>by rw[show (10000:Nat)=9999+1 from rfl];unfold Instr.checkKey;simp[run_underlying hkt,Result.andThen]
 have hfk:∀u,Instr.findNow .string (.string y) ents.toList 0=some u->(Instr.findKey k (.string y) ents.toList).run P w= .ok u w:=fun u hu=>by simp[Instr.findKey,run_underlying hkt,Result.andThen,hu]
 rcases mfind_now (M:=Cr w O) hyx es ents.toList 0 r (by simpa using hrep.len) (fun j e z h1 h2=>hrep.key j e z h1 (by simpa using h2)) q4 with⟨rfl,h1⟩|⟨j,z',e',h1,h2,h3,rfl⟩
 .refine Ed.value (v:=zv) (w':=w) ?_ (G1.keep h ?_)
  .simp[execOp,ho,hm',hx',Instr.lookup,run_underlying ht,MapKept.run_getObj_map hheap,hch,hfk _ h1,hz1,Result.andThen]
  .simp only[Cj];exact⟨_,hq,by rw[q5];exact hz4⟩
 .refine Ed.value (v:=z'.val) (w':=w) ?_ (G1.keep h ?_)
  .simp[execOp,ho,hm',hx',Instr.lookup,run_underlying ht,MapKept.run_getObj_map hheap,hch,hfk _ h1,Result.andThen]
  .simp only[Cj];exact⟨_,hq,by rw[q5];exact hrep.val j e' z' h3 (by simpa using h2)⟩
def v8 {t:TypeId} {s:Nat} (ho:o.op= .makeMap t none) (h:Rel w0 Oe J σ a.tmps w β hv O):
  Ed P o a w (G1 w0 Oe J σ a.tmps (G6 σ.m σ.n s (.map (.c (.m [])) false)) (.mh s)):=by
 obtain⟨β',O',hβ,hrel⟩:=h.alloc (s:=s) (b:= .map (.c (.m [])) false) (n:=σ.n) (.map #[] 0) fun β' O' hb _ hO _=>by refine⟨by show w0.ok (β' s);rw[hb];exact .inl h.bel.size,fun _=>by show O' (β' s)=_;rw[hb];exact hO,[],#[],0,rfl,?_,⟨rfl,fun j e z h1=>by simp at h1,fun j e z h1=>by simp at h1,fun j e z h1=>by simp at h1⟩⟩;show (w.alloc _).heap[β' s]? =_;rw[hb];exact heap_alloc_new w _
 refine Ed.value (v:= .map (some w.heap.size)) (w':=w.alloc (.map #[] 0)) ?_ ⟨β',hv,O',hrel,?_⟩
 .simp[execOp,ho,Instr.makeMap]
 .simp only[Cj,hβ]
def Zp {t k e:TypeId} {m x y:Operand} {s:Nat} {em ex ev:E} (ho:o.op= .mapUpdate t m x y) (ht:P.underlying t=some (.map k e)) (hkt:P.underlying k=some .string)
  (h:Rel w0 Oe J σ a.tmps w β hv O) (hG:GOk J G) (hm:opd P σ G 0 m=some (.mh s)) (hb:mget σ.m s=some (.map em false)) (hx:Gx P σ G 0 x=some ex) (hy:Gx P σ G 0 y=some ev)
  (hk:Chk J [.chk (.mset em ex ev),.chk (.slen ex),.chk (.scal ev)]):Ed P o a w (G1 w0 Oe J σ a.tmps ⟨It σ.m s (.map (.mset em ex ev) false),σ.n,none⟩ .und):=by
 have hr:=Fw (ds:=a.defers) (C:=⟨J,Cr w O,β,hv,σ.m⟩) hG rfl hm h.tmps;simp only[Cj] at hr;obtain⟨kp,hkp,hkr⟩:=Ey (ds:=a.defers) (C:=⟨J,Cr w O,β,hv,σ.m⟩) hG rfl hx h.tmps;obtain⟨vp,hvp,hvr⟩:=Ey (ds:=a.defers) (C:=⟨J,Cr w O,β,hv,σ.m⟩) hG rfl hy h.tmps;have hkp':ex.ev J=some kp:=hkp;have hvp':ev.ev J=some vp:=hvp;obtain⟨q,hq⟩:=hk _ (.head _);obtain⟨l,hl⟩:=hk _ (.tail _ (.head _));obtain⟨l2,hl2⟩:=hk _ (.tail _ (.tail _ (.head _)));have hks:∃xs,kp= .s xs:=by simp only[E.ev,hkp',Bs] at hl;cases kp<;>simp[P1] at hl;exact⟨_,rfl⟩
 obtain⟨xs,rfl⟩:=hks;have hsc:vp.scal=true:=by
  simp only[E.ev,hvp',Bs] at hl2;by_cases hs:vp.scal=true
  .exact hs
  .simp[hs] at hl2
 obtain⟨yk,hyk,hyx⟩:=hkr.str;obtain⟨g1,g2,es,ents,clock,g3,g4,g5⟩:=h.mem s _ hb;have g3':em.ev J=some (.m es):=g3;have g4':w.heap[β s]? =some (.map ents clock):=g4;have hq':=hq;simp only[E.ev,g3',hkp',hvp',Bs,bz,By5,if_true,Bp] at hq';obtain⟨es',q4,rfl⟩:=hq';have hm':a.eval m= .map (some (β s)):=hr;have hx':a.eval x= .string yk:=hyk;have hch:∀em,(Instr.checkKey em 10000 k (.string yk)).run P w= .ok () w:=fun em=>by rw[show (10000:Nat)=9999+1 from rfl];unfold Instr.checkKey;simp[run_underlying hkt,Result.andThen]
 have hfk:∀u,Instr.findNow .string (.string yk) ents.toList 0=some u->(Instr.findKey k (.string yk) ents.toList).run P w= .ok u w:=fun u hu=>by simp[Instr.findKey,run_underlying hkt,Result.andThen,hu]
 have fin:∀ents' clock',MapRep (Cr w O) es' ents'->(execOp a.eval o).run P w= .ok .skip {w with heap:=w.heap.setIfInBounds (β s) (.map ents' clock')}->Ed P o a w (G1 w0 Oe J σ a.tmps ⟨It σ.m s (.map (.mset em ex ev) false),σ.n,none⟩ .und):=by
  intro ents' clock' hrep hrun;have hset:=MapKept.heap_set (o':= .map ents' clock') g4';refine .inr (.inl ⟨_,hrun,β,hv,O,?_,by simp only[Cj]⟩);have hM:(Cr w O).Le (Cr {w with heap:=w.heap.setIfInBounds (β s) (.map ents' clock')} O):=
   Hc (fun c _ hc=>hset.2 c (fun e=>by subst e;exact absurd (hc 0 (g2 rfl)) (by omega))) (fun c _ lim hl=>⟨lim,hl,B7 _⟩) (fun c _ hn=>hn)
  have hbs:w0.ok (β s):=g1;refine h.put hb trivial (g2 rfl) (h.bel.turn hbs rfl rfl rfl (B7 _) (by simp) fun k _ hk=>hset.2 k hk) (by simp) (fun c hc=>hset.2 c hc) (fun e sz x ro xs hh=>by cases hh) ⟨g1,g2,es',ents',clock',hq,hset.1,hrep.mono hM⟩
 rcases mput_now (M:=Cr w O) hyx es ents.toList 0 es' (by simpa using g5.len) (fun j e z h1 h2=>g5.key j e z h1 (by simpa using h2)) q4 with⟨h1,rfl⟩|⟨j,z',h1,h2,h3,rfl⟩
 .refine fin (ents.push ⟨.string yk,a.eval y,clock⟩) (clock+1) ?_ ?_
  .have hlen:=g5.len;have get:∀(j:Nat) (e:PV×PV) (z:MapEntry),(es++[(PV.s xs,vp)])[j]? =some e->(ents.push ⟨.string yk,a.eval y,clock⟩)[j]? =some z->(es[j]? =some e∧ents[j]? =some z)∨(e=(PV.s xs,vp)∧z=⟨.string yk,a.eval y,clock⟩):=by
    intro j e z h1 h2;by_cases hj:j<es.length
    .rw[Cd hj] at h1;rw[Array.getElem?_push,if_neg (by omega)] at h2;exact .inl ⟨h1,h2⟩
    .by_cases hj2:j=es.length
     .subst hj2;rw[Cw (B7 _)] at h1;rw[Array.getElem?_push,if_pos hlen.symm] at h2;simp at h1 h2;exact .inr ⟨h1.symm,h2.symm⟩
     .rw[eq (by simp;omega)] at h1;cases h1
   refine⟨by simp[hlen],fun j e z h1 h2=> ?_,fun j e z h1 h2=> ?_,fun j e z h1 h2=> ?_⟩
   .rcases get j e z h1 h2 with⟨h3,h4⟩|⟨rfl,rfl⟩
    .exact g5.key j e z h3 h4
    .exact .s _ _ hyx
   .rcases get j e z h1 h2 with⟨h3,h4⟩|⟨rfl,rfl⟩
    .exact g5.val j e z h3 h4
    .exact hvr
   .rcases get j e z h1 h2 with⟨h3,h4⟩|⟨rfl,rfl⟩
    .exact g5.one j e z h3 h4
    .exact hvr.one hsc
  .simp[execOp,ho,hm',hx',Instr.mapUpdate,run_underlying ht,MapKept.run_getObj_map g4',hch,hfk _ h1,MapKept.run_setObj_map _ g4',Result.andThen]
 .have h2':ents[j]? =some z':=by simpa using h2
  have hj:j<ents.size:=(Dd.1 h2').1;refine fin (ents.modify j fun e=>{e with key:= .string yk,val:=a.eval y}) clock ?_ ?_
  .have hlen:=g5.len;have get:∀(i:Nat) (e:PV×PV) (z:MapEntry),(es.set j (PV.s xs,vp))[i]? =some e->(ents.modify j fun e=>{e with key:= .string yk,val:=a.eval y})[i]? =some z->(es[i]? =some e∧ents[i]? =some z)∨(e=(PV.s xs,vp)∧z.key= .string yk∧z.val=a.eval y):=by
    intro i e z h1 h2;rw[L6] at h2;rw[Ev] at h1;by_cases hij:j=i
    .subst hij;rw[if_pos rfl,if_pos (by omega)] at h1;rw[if_pos rfl,h2'] at h2;simp at h1 h2;exact .inr ⟨h1.symm,by rw[<-h2],by rw[<-h2]⟩
    .rw[if_neg hij] at h1 h2;exact .inl ⟨h1,h2⟩
   refine⟨by simp[hlen],fun j e z h1 h2=> ?_,fun j e z h1 h2=> ?_,fun j e z h1 h2=> ?_⟩
   .rcases get j e z h1 h2 with⟨h3,h4⟩|⟨rfl,h3,h4⟩
    .exact g5.key j e z h3 h4
    .rw[h3];exact .s _ _ hyx
   .rcases get j e z h1 h2 with⟨h3,h4⟩|⟨rfl,h3,h4⟩
    .exact g5.val j e z h3 h4
    .rw[h4];exact hvr
   .rcases get j e z h1 h2 with⟨h3,h4⟩|⟨rfl,h3,h4⟩
    .exact g5.one j e z h3 h4
    .rw[h4];exact hvr.one hsc
  .have hsb:Instr.sameBits 10000 (.string yk) (.string yk)=true:=by rw[show (10000:Nat)=9999+1 from rfl];simp only[Instr.sameBits];exact(MapKept.bytes_beq _ _).2 rfl
   simp[execOp,ho,hm',hx',Instr.mapUpdate,run_underlying ht,MapKept.run_getObj_map g4',hch,hfk _ h1,h2',h3,Instr.keyThatStays,hsb,MapKept.run_setObj_map _ g4',Result.andThen]
end
section
variable {P:Program} {sig:Nat->Option Nat} {fn:Fns} {w0:Fr} {Oe:Nat->Option Nat} {J:List PV} {σ:St} {a:Act} {tm:Array Value} {w:World} {β:Nat->Nat} {hv:Nat->Value} {O:Nat->Option Nat} {G:Option E} {o:Oper} {ws:List W}
def Rel.turned {w':World} {O':Nat->Option Nat} {s e0 sz0:Nat} {x0:E} (h:Rel w0 Oe J σ tm w β hv O) (h0:mget σ.m s=some (.arr e0 sz0 x0 .no))
  (hb:Bel ⟨w,some (hv s)⟩ w') (hO':∀c,c<w.heap.size->C8 (hv s)≠some c->O' c=O c):
  Bel w0 w'∧(Cr w O).Le (Cr w' O')∧(∀c,c<w0.heap.size->w0.x≠some c->O' c=Oe c)∧
  (∀s' b',s'≠s->mget σ.m s'=some b'->Has ⟨J,Cr w O,β,hv,σ.m⟩ s' b'->C8 (hv s)≠some (β s')∧w'.heap[β s']? =w.heap[β s']? ∧O' (β s')=O (β s'))∧
  (∀g,C8 (hv s)=some g->g=β s∧w0.ok g∧O g=some 0∧g<w.heap.size):=by
 obtain⟨_,xs0,us0,_,how0,_,hsh,_⟩:=h.mem s _ h0;have hg0:∀g,C8 (hv s)=some g->g=β s∧w0.ok g∧O g=some 0∧g<w.heap.size:=by intro g hg;obtain⟨h1,lim,h2,_,h3⟩:=hsh g hg;obtain⟨h4,h5⟩:=how0.lt g hg;exact⟨h1,h4,by rw[h2,h3 rfl],h5⟩
 have hsz:w0.heap.size<=w.heap.size:=h.bel.size;have hblk:∀c,c<w.heap.size->C8 (hv s)≠some c->w'.heap[c]? =w.heap[c]? :=fun c hc hx=>hb.block c hc hx;refine⟨⟨hb.os.trans h.bel.os,hb.tape.trans h.bel.tape,hb.output.trans h.bel.output,En h.bel.drawn hb.drawn,En hsz hb.size,fun k hk hx=> ?_⟩,Hc (fun c hc hl=> ?_) (fun c hc lim hl=> ?_) (fun c hc hn=> ?_),fun c hc hx=> ?_,fun s' b' hs hb' hh=> ?_,hg0⟩
 .have hne:C8 (hv s)≠some k:=fun e=>by
   obtain⟨_,h4,_,_⟩:=hg0 k e;rcases h4 with h4|h4
   .have:w0.w.heap.size<=k:=h4;omega
   .exact hx h4
  rw[hblk k (F5 hk hsz) hne];exact h.bel.block k hk hx
 .refine hblk c hc fun e=> ?_;have:=hl 0 (hg0 c e).2.2.1;omega
 .by_cases e:C8 (hv s)=some c
  .exact⟨0,(hg0 c e).2.2.1,D9 _⟩
  .exact⟨lim,by rw[<-hO' c hc e];exact hl,B7 _⟩
 .have e:C8 (hv s)≠some c:=fun e=>by rw[(hg0 c e).2.2.1] at hn;cases hn
  rw[hO' c hc e];exact hn
 .have hne:C8 (hv s)≠some c:=fun e=>by
   obtain⟨_,h4,_,_⟩:=hg0 c e;rcases h4 with h4|h4
   .have:w0.w.heap.size<=c:=h4;have:c<w0.w.heap.size:=hc;omega
   .exact hx h4
  rw[hO' c (F5 hc hsz) hne];exact h.ext c hc hx
 .have hne:C8 (hv s)≠some (β s'):=fun e=>by
   have h1:=(hg0 _ e).1;have hh2:Has ⟨J,Cr w O,β,hv,σ.m⟩ s (.arr e0 sz0 x0 .no):=by show C8 (hv s)=some (β s);rw[e,h1]
   exact h.inj s' s b' _ hb' h0 hs hh hh2 h1
  have hlt:=((h.mem s' b' hb').lt hh).2;exact⟨hne,hblk _ hlt hne,hO' _ hlt hne⟩
def Rel.retake {w':World} {O':Nat->Option Nat} {s e0 sz0 e sz n:Nat} {x0 x:E} {v:Value} {xs:List PV} {vs:List Value} (h:Rel w0 Oe J σ tm w β hv O) (h0:mget σ.m s=some (.arr e0 sz0 x0 .no))
  (hb:Bel ⟨w,some (hv s)⟩ w') (hO':∀c,c<w.heap.size->C8 (hv s)≠some c->O' c=O c) (hout:∀c,w'.heap.size<=c->O' c=none) (hO0:∀g,C8 v=some g->O' g=some 0)
  (hsz:0<sz) (hx:x.ev J=some (.l sz xs)) (how:Own w' (Fr.mk w (some (hv s))).ok e sz v xs.length vs) (hel:I7 (Cr w' O') sz xs vs):
  ∃β' hv',Rel w0 Oe J (σ.eff (G6 σ.m n s (.arr e sz x .no))) tm w' β' hv' O'∧hv' s=v:=by
 let β':=fun s'=>if s'=s then(C8 v).getD 0 else β s'
 let hv':=fun s'=>if s'=s then v else hv s'
 have hβ:∀s',s'≠s->β' s'=β s':=fun s' hs=>if_neg hs;have hhv:∀s',s'≠s->hv' s'=hv s':=fun s' hs=>if_neg hs;have hβs:β' s=(C8 v).getD 0:=if_pos rfl;have hhvs:hv' s=v:=if_pos rfl;obtain⟨t1,t2,t3,t4,t5⟩:=h.turned h0 hb hO';have hs0:w0.heap.size<=w.heap.size:=h.bel.size;refine⟨β',hv',h.fresh t1 t2 hβ hhv (fun s' b' hs hb' hh=>(t4 s' b' hs hb' hh).2) t3 hout ?_ (fun s' b' hs hb' hh hh2=> ?_),hhvs⟩
 .refine⟨hsz,xs,vs,hx,?_,hel,fun g hg=> ?_,trivial⟩
  .show Own w' w0.ok e sz (hv' s) xs.length vs;rw[hhvs];refine how.mono fun g hg=> ?_;rcases hg with hg|hg
   .exact .inl (En hs0 hg)
   .exact(t5 g hg).2.1
  .have hg':C8 (hv' s)=some g:=hg;rw[hhvs] at hg';refine⟨?_,0,hO0 g hg',D9 _,fun _=>rfl⟩;show g=β' s;rw[hβs,hg'];rfl
 .have hlt:β s'<w.heap.size:=((h.mem s' b' hb').lt hh).2;have hh2':C8 (hv' s)=some (β' s):=hh2;rw[hhvs] at hh2';intro e1;rw[<-e1] at hh2';rcases (how.lt _ hh2').1 with h9|h9
  .have:w.heap.size<=β s':=h9;omega
  .exact(t4 s' b' hs hb' hh).1 h9
def Rel.turn {w':World} {O':Nat->Option Nat} {s e0 sz0 n:Nat} {x0 x:E} {xs0 xs:List PV} {vs:List Value} (h:Rel w0 Oe J σ tm w β hv O) (h0:mget σ.m s=some (.arr e0 sz0 x0 .no))
  (hx0:x0.ev J=some (.l sz0 xs0)) (hb:Bel ⟨w,some (hv s)⟩ w') (hO':∀c,c<w.heap.size->C8 (hv s)≠some c->O' c=O c) (hout:∀c,w'.heap.size<=c->O' c=none) (hO0:∀g,C8 (hv s)=some g->O' g=some 0)
  (hx:x.ev J=some (.l sz0 xs)) (how:Own w' (fun _=>True) e0 sz0 (hv s) xs.length vs) (hel:I7 (Cr w' O') sz0 xs vs):
  Rel w0 Oe J (σ.eff ⟨It σ.m s (.arr e0 sz0 x .no),n,none⟩) tm w' β hv O':=by
 obtain⟨t1,t2,t3,t4,t5⟩:=h.turned h0 hb hO';obtain⟨hsz,xs1,us1,q1,how1,_,hsh,_⟩:=h.mem s _ h0;have q1':x0.ev J=some (.l sz0 xs1):=q1;rw[hx0] at q1';injection q1' with q1';injection q1' with _ q1';subst q1';have hlen:xs.length=xs0.length:=by
  rcases how.2 with⟨a1,e1,n1⟩|⟨g1,c1,cur1,e1,_⟩<;>rcases how1.2 with⟨a2,e2,n2⟩|⟨g2,c2,cur2,e2,_⟩
  .omega
  .have e2':hv s=_:=e2;rw[e1] at e2';injection e2' with _ e3 _;omega
  .have e2':hv s=_:=e2;rw[e1] at e2';injection e2' with _ e3 _;omega
  .have e2':hv s=_:=e2;rw[e1] at e2';injection e2' with _ e3 _
 let b:Blk:= .arr e0 sz0 x .no;have hne:∀s',s'≠s->mget (It σ.m s b) s'=mget σ.m s':=fun s' hs=>Iv σ hs b;have hsame:mget (It σ.m s b) s=some b:=Ky σ s b;have hl:(Cx.mk J (Cr w O) β hv σ.m).Le ⟨J,Cr w' O',β,hv,It σ.m s b⟩:=⟨fun _ _ h=>h,t2⟩;have hat:∀s',(Cx.mk J (Cr w O) β hv σ.m).At ⟨J,Cr w' O',β,hv,It σ.m s b⟩ s':=fun s'=>
  ⟨rfl,rfl,fun e sz y ro zs h1 h2=>by
   by_cases hs:s'=s
   .subst hs;have h1':mget σ.m s'=some (.arr e sz y ro):=h1;rw[h0] at h1';cases h1';have h2':x0.ev J=some (.l sz0 zs):=h2;rw[hx0] at h2';cases h2';exact⟨e0,x,.no,xs,hsame,hx,by omega⟩
   .exact⟨e,y,ro,zs,by show mget (It σ.m s b) s'=_;rw[hne s' hs];exact h1,h2,B7 _⟩⟩
 refine⟨t1,t3,hout,Cb.le hl hat _ _ h.tmps,fun s' b' hs'=> ?_,fun s1 s2 b1 b2 h1 h2 h12 hh1 hh2=> ?_,h.t0⟩
 .by_cases hs:s'=s
  .subst hs;have:mget (It σ.m s' b) s'=some b':=hs';rw[hsame] at this;injection this with this;subst this;refine⟨hsz,xs,vs,hx,?_,hel,fun g hg=>⟨(t5 g hg).1,0,hO0 g hg,D9 _,fun _=>rfl⟩,trivial⟩;refine⟨how.1,?_⟩;rcases how.2 with h1|⟨g,cap,cur,e1,e2,_,e4⟩
   .exact .inl h1
   .have hg:C8 (hv s')=some g:=by have e1':hv s'= .slice (some ⟨g,0,none⟩) xs.length cap:=e1;rw[e1'];simp only[C8,if_neg (show¬cap=0 by omega)]
    exact .inr ⟨g,cap,cur,e1,e2,(t5 g hg).2.1,e4⟩
  .have hg:mget (It σ.m s b) s'=some b':=hs';rw[hne s' hs] at hg;exact(h.mem s' b' hg).le hl hat (fun hh=>(t4 s' b' hs hg hh).2.1) (fun hh=>(t4 s' b' hs hg hh).2.2)
 .have g1:mget (It σ.m s b) s1=some b1:=h1;have g2:mget (It σ.m s b) s2=some b2:=h2;have z:∀s' b',mget (It σ.m s b) s'=some b'->Has ⟨J,Cr w' O',β,hv,It σ.m s b⟩ s' b'->∃b'',mget σ.m s'=some b''∧Has ⟨J,Cr w O,β,hv,σ.m⟩ s' b'':=by
   intro s' b' hg hh;by_cases hs:s'=s
   .subst hs;rw[hsame] at hg;injection hg with hg;subst hg;exact⟨_,h0,hh⟩
   .rw[hne s' hs] at hg;exact⟨b',hg,(Has.congr (C:=⟨J,Cr w O,β,hv,σ.m⟩) rfl rfl).1 hh⟩
  obtain⟨c1,k1,k2⟩:=z s1 b1 g1 hh1;obtain⟨c2,k3,k4⟩:=z s2 b2 g2 hh2;exact h.inj s1 s2 c1 c2 k1 k3 h12 k2 k4
def Bz9 {k:Option Nat} {e:Nat} {r:Bool} (h:Vk k=some (e,r)):cr k=none:=by
 cases k with
 |none=>rfl
 |some k=>
  simp only[Vk,Bs] at h;split at h
  .rename_i hk;simp only[cr,Bs];have a2:FUL=549755813888:=rfl;have a3:MU=1099511627776:=rfl;rw[if_neg (by omega)]
  .cases h
def Dg0 {k:Option Nat} {e:Nat} (h:cr k=some e):Vk k=none∧rkOf k= .own e:=by
 cases k with
 |none=>simp[cr] at h
 |some k=>
  simp only[cr,Bs] at h;split at h
  .rename_i hk;injection h with h;subst h;simp only[Vk,rkOf,Bs];have a1:FAR=274877906944:=rfl;have a2:FUL=549755813888:=rfl;have a3:MU=1099511627776:=rfl;obtain⟨hk1,hk2⟩:=hk;refine⟨if_neg (by omega),?_⟩;rw[if_neg (by omega),if_pos (by omega)]
  .cases h
def Fw7 (hC:Contract P sig fn) {c:Call} {f e s:Nat} {r:SV} {ε:Eff} {η1 η2 ζ:List PV} (ho:o.op= .call c) (hc:c.callee= .value (.func f)) (hfa:cr (sig f)=some e)
  (h:Rel w0 Oe J σ a.tmps w β hv O) (hG:GOk J G) (hx:Dm9 P σ G s f e (args P σ G c.args.toList c.argTypes.toList)=some (ws,r,ε))
  (hw:Eb fn η1 ws=some η2) (hη:J=η2++ζ) (hn:η1.length=σ.n):Ed P o a w (G1 w0 Oe J σ a.tmps ε r):=by
 obtain⟨hmu,hrk⟩:=Dg0 hfa;unfold Dm9 at hx;split at hx
 .cases hx
 .split at hx
  .rename_i a0 ar has;split at hx
   .rename_i sz x es ss ha0 hes;split at hx
    .rename_i hcond;obtain⟨rfl,hlt⟩:=hcond;simp only[Bm,B3] at hx;obtain⟨rfl,rfl,rfl⟩:=hx;have hargs:Cb ⟨J,Cr w O,β,hv,σ.m⟩ (a0::ar) (c.args.map a.eval).toList:=by have:=Pn (ds:=a.defers) (C:=⟨J,Cr w O,β,hv,σ.m⟩) hG rfl h.tmps has;simpa using this
     simp only[Cb] at hargs;obtain⟨v0,vr,hcs,hv0,hrest⟩:=hargs;have hfull:∃xs b,x.ev J=some (.l (B8 P e) xs)∧v0= .slice b xs.length xs.length∧Rep (Cr w O) (.l (B8 P e) xs) v0:=by
      cases a0<;>simp only[Bm,B3,reduceCtorEq] at ha0
      .obtain⟨h1,h2⟩:=ha0;subst h1;subst h2;simp only[Cj] at hv0;exact⟨[],none,by simp only[E.ev],hv0,by rw[hv0];exact Rep.lnil _ _ _ _⟩
      .obtain⟨h1,h2⟩:=ha0;subst h1;subst h2;simp only[Cj] at hv0;exact hv0
     obtain⟨xs,b,hxe,hvb,hrep⟩:=hfull;obtain⟨O1,hrel,hM,hop,_⟩:=h.frz ss (n:=σ.n+1);obtain⟨ps,q1,q2,q3⟩:=O3 h hM hes hrest (fun s hs=>hop s (by simpa using hs));have hws:(W.mcall f (x::es)).ev fn η1=some η2:=by simpa [Eb] using hw
     simp only[W.ev,Bl] at hws;obtain⟨vs,hvs,hres⟩:=hws;obtain⟨rs,hfn,hrl,_,rfl⟩:=Iq hres;have hvs':E.evs J (x::es)=some vs:=by rw[hη,Ck];exact E.evs_mono _ _ _ _ hvs
     simp only[E.evs,hxe,q1,Bs,Cc,Bm] at hvs';subst hvs';obtain⟨e',hfa',hcon⟩:=((hC.says f _ _ rs hfn).turns (Nat.le_add_left _ _)).resolve_left (fun⟨e1,r1,h1,_⟩=>by rw[hmu] at h1;cases h1);rw[hfa] at hfa';injection hfa' with hfa';subst hfa';have hsize:(c.args.map a.eval).size=(PV.l (B8 P e) xs::ps).length:=by rw[<-C3,hcs];simp[q2]
     have hgiven:Given w O1 ((PV.l (B8 P e) xs::ps).length+TAG - TAG) (.l (B8 P e) xs::ps) (c.args.map a.eval):=by
      rw[V4];refine⟨hrel.out,hsize,fun j p v hj hp hu=> ?_,fun j p v hj hp hu=> ?_⟩
      .rw[<-B6,hcs] at hu;cases j with
       |zero=>
        simp at hp hu;subst hp;subst hu;exact hrep.mono hM
       |succ j=>exact q3 j p v (by simpa using hp) (by simpa using hu)
      .have:=(Bn.1 hp).1;omega
     have harg0:(c.args.map a.eval)[0]? =some (.slice b xs.length xs.length):=by rw[<-B6,hcs,<-hvb];rfl
     refine Gg (f:=f) (cv:= #[]) ho hc rfl ?_;rw[V6];refine(hcon w O1 _ b xs hgiven rfl harg0).mono fun v w' hback=> ?_;obtain⟨hb,O1',k1,k2,k3⟩:=hback;rw[hrk] at k3;obtain⟨h0,ys,us,rfl,k4,k5,k6⟩:=k3;have hx1:(E.v σ.n).ev J=some (.l (B8 P e) ys):=by simp only[E.ev];rw[hη,Ck,Cw (by omega),<-hn,Nk];rfl
     obtain⟨β',hv',r1,r2⟩:=hrel.own (n:=σ.n+1) (s:=s) (e:=e) (ro:= .no) (x:= .v σ.n) hb k1 k2 k6 h0 hx1 k4 k5;refine⟨β',hv',O1',r1,?_⟩;simp only[Cj];exact r2.symm
    .cases hx
   .cases hx
  .cases hx
def Fw3 (hC:Contract P sig fn) {c:Call} {f e:Nat} {rr:Bool} {r:SV} {ε:Eff} {η1 η2 ζ:List PV} (ho:o.op= .call c) (hc:c.callee= .value (.func f)) (hmu:Vk (sig f)=some (e,rr))
  (h:Rel w0 Oe J σ a.tmps w β hv O) (hG:GOk J G) (hx:Df9 P σ G f e rr (args P σ G c.args.toList c.argTypes.toList)=some (ws,r,ε))
  (hw:Eb fn η1 ws=some η2) (hη:J=η2++ζ) (hn:η1.length=σ.n):Ed P o a w (G1 w0 Oe J σ a.tmps ε r):=by
 unfold Df9 at hx;split at hx
 .cases hx
 .split at hx
  .rename_i s0 ar has;split at hx
   .rename_i e0 sz0 x es ss hs0 hes;split at hx
    .rename_i hcond;obtain⟨rfl,rfl,hss,hlt⟩:=hcond;have hargs:Cb ⟨J,Cr w O,β,hv,σ.m⟩ (.h s0::ar) (c.args.map a.eval).toList:=by have:=Pn (ds:=a.defers) (C:=⟨J,Cr w O,β,hv,σ.m⟩) hG rfl h.tmps has;simpa using this
     simp only[Cb,Cj] at hargs;obtain⟨v0,vr,hcs,hv0,hrest⟩:=hargs;subst hv0;obtain⟨O1,hrel,hM,hop,_⟩:=h.frz ss (n:=σ.n+1);obtain⟨ps,q1,q2,q3⟩:=O3 h hM hes hrest (fun s hs=>hop s (by simpa using hs));have hs1:mget (Ks ss σ.m) s0=some (.arr e0 (B8 P e0) x .no):=by rw[N2 hss];exact hs0
     obtain⟨hsz,xs,us,hxe,how,hel,hsh,_⟩:=hrel.mem s0 _ hs1;have hxe':x.ev J=some (.l (B8 P e0) xs):=hxe;have hws:(W.mcall f (x::es)).ev fn η1=some η2:=by
      have hw':Eb fn η1 [.mcall f (x::es)]=some η2:=by cases rr<;>simp only[B5,if_true,if_false,Bm,B3] at hx<;>rw[<-hx.1] at hw<;>exact hw
      simpa [Eb] using hw'
     simp only[W.ev,Bl] at hws;obtain⟨vs,hvs,hres⟩:=hws;obtain⟨rs,hfn,hrl,_,rfl⟩:=Iq hres;have hvs':E.evs J (x::es)=some vs:=by rw[hη,Ck];exact E.evs_mono _ _ _ _ hvs
     simp only[E.evs,hxe',q1,Bs,Cc,Bm] at hvs';subst hvs';obtain⟨e',r',hmu',hcon⟩:=((hC.says f _ _ rs hfn).turns (Nat.le_add_left _ _)).resolve_right (fun⟨e1,h1,_⟩=>by rw[Bz9 hmu] at h1;cases h1);rw[hmu] at hmu';injection hmu' with hmu';injection hmu' with he' hr';subst he';subst hr';have hsize:(c.args.map a.eval).size=(.l (B8 P e0) xs::ps).length:=by rw[<-C3,hcs];simp[q2]
     have hgiv:GivenM P e0 w O1 ((.l (B8 P e0) xs::ps).length+TAG - TAG) (.l (B8 P e0) xs::ps) (c.args.map a.eval) (hv s0) xs us:=by
      refine⟨hrel.out,hsize,by simp,rfl,?_,hsz,how.mono (fun _ _=>trivial),hel,fun g hg=> ?_,fun j p v hj1 hj2 hp hv1=> ?_,fun j p v hj hp _=> ?_⟩
      .rw[<-B6,hcs];rfl
      .obtain⟨_,lim,h2,_,h3⟩:=hsh g hg;rw[h2,h3 rfl]
      .rw[<-B6,hcs] at hv1;cases j with
       |zero=>omega
       |succ j=>exact q3 j p v (by simpa using hp) (by simpa using hv1)
      .have:=(Bn.1 hp).1;omega
     have hfx:a.eval (.func f)= .func (.func f) #[] #[]:=rfl;refine Gg (cv:= #[]) ho hc hfx ?_;rw[V6];refine(hcon w O1 _ _ xs us hgiv).mono fun v w' hback=> ?_;obtain⟨hb,O',k1,k2,ys,us',rfl,hel',hr1,hr2⟩:=hback;have hx1:(E.v σ.n).ev J=some (.l (B8 P e0) ys):=by simp only[E.ev];rw[hη,Ck,Cw (by omega),<-hn,Nk];rfl
     cases rr with
     |true=>
      simp only[if_true,Bm,B3] at hx;obtain⟨_,rfl,rfl⟩:=hx;obtain⟨k3,k4⟩:=hr1 rfl;obtain⟨β',hv',r1,r2⟩:=hrel.retake (n:=σ.n+1) (x:= .v σ.n) hs1 hb k1 k2 k4 hsz hx1 k3 hel';exact⟨β',hv',O',r1,by simp only[Cj];exact r2.symm⟩
     |false=>
      simp only[B5,if_false,Bm,B3] at hx;obtain⟨_,rfl,rfl⟩:=hx;obtain⟨rfl,k3,k4⟩:=hr2 rfl;have r1:=hrel.turn (n:=σ.n+1) (x:= .v σ.n) hs1 hxe' hb k1 k2 k4 hx1 k3 hel';exact⟨β,hv,O',r1,by simp only[Cj];exact⟨#[],rfl,by simp only[Cb]⟩⟩
    .cases hx
   .cases hx
  .cases hx
end
section
variable {P:Program} {sig:Nat->Option Nat} {fn:Fns} {w0:Fr} {Oe:Nat->Option Nat} {J:List PV} {σ:St} {a:Act} {tm:Array Value} {w:World} {β:Nat->Nat} {hv:Nat->Value} {O:Nat->Option Nat} {G:Option E} {o:Oper} {ws:List W}
def L9 {t e:TypeId} (h:H1 P t=some e):P.underlying t=some (.slice e):=by
 unfold H1 at h;split at h
 .rename_i hu;rw[hu];injection h with h;rw[h]
 .cases h
def Dc1 {t e:TypeId} (hu:P.underlying t=some (.slice e)) (hsz:B8 P e≠0) (b:Option Addr) (n cap m:Nat) (k:IntKind) (h1:m<=n) (h2:n<=cap):(Instr.slice t (.slice b n cap) none (some (.int k (m:Int))) none).run P w= .ok (.slice b m cap) w:=by
 have hrun:=Jk (P:=P) (w:=w) (b:=true) (len:=n) (cap:=cap) (low:=none) (high:=some (.int k (m:Int))) (max:=none) (l:=0) (h:=m) (m:=cap) rfl ⟨_,rfl⟩ rfl (D9 _) (by omega) (B7 _);have hz:∀(z:Option Addr),(if cap=0 then z else z.map (·.add (0*B8 P e)))=z:=by
  intro z;split
  .rfl
  .cases z with
   |none=>rfl
   |some ad=>simp[Go.Addr.add]
 simp only[Instr.slice,Sem.run_bind,run_underlying hu,Result.andThen,hrun,Fg (P:=P) (w:=w) (t:=e) rfl hsz,Sem.run_pure,hz,Nat.sub_zero]
def Dc0 {t e:TypeId} (hu:P.underlying t=some (.slice e)) (hsz:B8 P e≠0) (b:Option Addr) (n cap m:Nat) (k:IntKind) (h1:m<=n) (h2:n<=cap):(Instr.slice t (.slice b n cap) (some (.int k (m:Int))) none none).run P w= .ok (yr (B8 P e) m (.slice b n cap)) w:=by have hrun:=Jk (P:=P) (w:=w) (b:=true) (len:=n) (cap:=cap) (low:=some (.int k (m:Int))) (high:=none) (max:=none) (l:=m) (h:=n) (m:=cap) rfl ⟨rfl,rfl⟩ ⟨_,rfl⟩ h1 h2 (B7 _);simp only[Instr.slice,Sem.run_bind,run_underlying hu,Result.andThen,hrun,Fg (P:=P) (w:=w) (t:=e) rfl hsz,Sem.run_pure,yr]
def gx {t:TypeId} {x:Operand} {lo hi mx:Option Operand} {s0:Nat} {r:SV} {ε:Eff} (ho:o.op= .slice t x lo hi mx) (h:Rel w0 Oe J σ a.tmps w β hv O) (hG:GOk J G) (hx:opd P σ G t x=some (.h s0))
  (hs:Pq P σ G t s0 (lo.map (Gx P σ G 0)) (hi.map (Gx P σ G 0)) mx.isSome=some (ws,r,ε)) (hk:Chk J ws):Ed P o a w (G1 w0 Oe J σ a.tmps ε r):=by
 have hr:=Fw (ds:=a.defers) (C:=⟨J,Cr w O,β,hv,σ.m⟩) hG rfl hx h.tmps;simp only[Cj] at hr;have hx1:a.eval x=hv s0:=hr;unfold Pq at hs;split at hs
 ·-- the beginning
  rename_i e e0 sz y eh te mg hlo hhi0 hmx;split at hs
  .rename_i hcond;obtain⟨rfl,rfl,hsz0,hG0⟩:=hcond;have hlo':lo=none:=Option.map_eq_none_iff.1 hlo;have hmx':mx=none:=by cases mx<;>simp_all
   obtain⟨hh,hhi',heh⟩:=Bp.1 hhi0;subst hlo';subst hmx';subst hhi'
   .simp only[Bm,B3] at hs;obtain⟨rfl,rfl,rfl⟩:=hs;have hu:=L9 te;have hsize:=Fg (P:=P) (w:=w) (t:=e0) rfl hsz0;obtain⟨hpos,xs,vs,g1,g2,g3,g4,_⟩:=h.mem s0 _ mg;have g1':y.ev J=some (.l (B8 P e0) xs):=g1;obtain⟨q,hq⟩:=hk.g1 hG;have hq':=hq;obtain⟨p,hp,hpr⟩:=Ey (ds:=a.defers) (C:=⟨J,Cr w O,β,hv,σ.m⟩) hG rfl heh h.tmps;have hp':eh.ev J=some p:=hp;simp only[E.ev,g1',hp',Bs] at hq';unfold J3 at hq';split at hq'
    .rename_i sz' zs k1 l1 k2 n1 heq1 heq2;injection heq1 with j1 j2;subst j1;subst j2;injection heq2 with j3 j4;subst j3;subst j4;rw[if_pos rfl] at hq';split at hq'
     .rename_i hb;injection hq' with hq';have hhi:a.eval hh= .int k2 (n1.toNat:Int):=by have:a.eval hh= .int k2 n1:=hpr.int;rw[this];congr 1;omega
      have hnn:n1.toNat<=xs.length:=by omega
      have htl:(xs.take n1.toNat).length=n1.toNat:=by rw[Cv];omega
      have hqe:(E.lsl (B8 P e0) y (.c (.i .i64 0)) eh).ev J=some (.l (B8 P e0) (xs.take n1.toNat)):=by rw[hq,<-hq'];simp
      have hlv:vs.length=xs.length*B8 P e0:=g2.1;have hel:I7 (Cr w O) (B8 P e0) (xs.take n1.toNat) (vs.take (n1.toNat*B8 P e0)):=by
       intro i z hz;rw[Ch] at hz;split at hz
       .rename_i hi;obtain⟨k1,k2⟩:=g3 i z hz;refine⟨k1,fun j c hc=> ?_⟩;obtain⟨u,u1,u2,u3⟩:=k2 j c hc;refine⟨u,?_,u2,u3⟩;have hj:j<B8 P e0:=by rw[<-k1];exact(Bn.1 hc).1
        rw[Ch,if_pos]
        .exact u1
        .have:(i+1)*B8 P e0<=n1.toNat*B8 P e0:=Cn _ hi;rw[C9,Gh] at this;omega
       .cases hz
      have fin:∀(b:Option Addr) (cap:Nat),hv s0= .slice b xs.length cap->xs.length<=cap->Own w (Fr.mk w (some (hv s0))).ok e0 (B8 P e0) (.slice b n1.toNat cap) n1.toNat (vs.take (n1.toNat*B8 P e0))->(∀g,C8 (.slice b n1.toNat cap)=some g->C8 (hv s0)=some g)->Ed P o a w (G1 w0 Oe J σ a.tmps (G6 σ.m σ.n s0 (.arr e0 (B8 P e0) (.lsl (B8 P e0) y (.c (.i .i64 0)) eh) .no)) (.h s0)):=by intro b cap hb1 hcap hown hblk;obtain⟨β',hv',r1,r2⟩:=h.retake (n:=σ.n) (s:=s0) (e:=e0) (sz:=B8 P e0) (x:= .lsl (B8 P e0) y (.c (.i .i64 0)) eh) (v:= .slice b n1.toNat cap) (xs:=xs.take n1.toNat) (vs:=vs.take (n1.toNat*B8 P e0)) (w':=w) (O':=O) mg (Bel.refl ⟨w,some (hv s0)⟩) (fun _ _ _=>rfl) h.out (fun g hg=>by obtain⟨_,lim,h2,_,h3⟩:=g4 g (hblk g hg);rw[h2,h3 rfl]) hpos hqe (by rw[htl];exact hown) hel;refine Ed.value (v:= .slice b n1.toNat cap) (w':=w) ?_ ⟨β',hv',O,r1,by simp only[Cj];exact r2.symm⟩;simp only[execOp,ho,Instr.sliceAt,Option.map_none,Cc,hhi,hx1,hb1,Sem.run_bind,run_underlying hu,Dc1 hu hsz0 b xs.length cap n1.toNat k2 hnn hcap,Result.andThen,Sem.run_pure]
      rcases g2.2 with⟨b,e1,e2⟩|⟨g,cap,cur,e1,e1c,e2,e3,e4,e5,e6,e7⟩
      .have hn0:n1.toNat=0:=by omega
       have e1':hv s0= .slice b 0 0:=e1;refine fin b 0 (by rw[e2];exact e1') (by omega) ⟨by simp[hn0],.inl ⟨b,by rw[hn0],hn0⟩⟩ (fun g hg=>by rw[e1'];rw[hn0] at hg;exact hg)
      .have e1':hv s0= .slice (some ⟨g,0,none⟩) xs.length cap:=e1;have hbk:C8 (hv s0)=some g:=by rw[e1'];simp only[C8,if_neg (show¬cap=0 by omega)]
       have hmul:n1.toNat*B8 P e0<=xs.length*B8 P e0:=Cn _ hnn;refine fin (some ⟨g,0,none⟩) cap e1' e4 ⟨by rw[Cv];omega,.inr ⟨g,cap,cur,rfl,e1c,.inr hbk,e3,by omega,e5,e6,?_⟩⟩ (fun g' hg'=> ?_)
       .rw[<-e7,y4,Yn hmul]
       .simp only[C8,if_neg (show¬cap=0 by omega),Bm] at hg';rw[hbk,hg']
     .cases hq'
    .cases hq'
  .cases hs
 ·-- the end
  rename_i e e0 sz y ro el te mg hlo0 hhi0 hmx;split at hs
  .rename_i hcond;obtain⟨rfl,hsz0,hnap⟩:=hcond;have hhi':hi=none:=Option.map_eq_none_iff.1 hhi0;have hmx':mx=none:=by cases mx<;>simp_all
   obtain⟨ll,hlo',hel⟩:=Bp.1 hlo0;subst hlo';subst hmx';subst hhi'
   .simp only[Bm,B3] at hs;obtain⟨rfl,rfl,rfl⟩:=hs;have hu:=L9 te;have hsize:=Fg (P:=P) (w:=w) (t:=e) rfl hsz0;obtain⟨hpos,xs,vs,g1,g2,g3,g4,_⟩:=h.mem s0 _ mg;have g1':y.ev J=some (.l (B8 P e) xs):=g1;obtain⟨q,hq⟩:=hk.g1 hG;have hq':=hq;obtain⟨p,hp,hpr⟩:=Ey (ds:=a.defers) (C:=⟨J,Cr w O,β,hv,σ.m⟩) hG rfl hel h.tmps;have hp':el.ev J=some p:=hp;simp only[E.ev,g1',hp',Bs,Hg] at hq';unfold J3 at hq';split at hq'
    .rename_i sz' zs k1 l1 k2 n1 heq1 heq3;injection heq1 with j1 j2;subst j1;subst j2;injection heq3 with j3 j4;subst j4;rw[if_pos rfl] at hq';split at hq'
     .rename_i hb;have hlo:a.eval ll= .int k1 (l1.toNat:Int):=by have:a.eval ll= .int k1 l1:=hpr.int;rw[this];congr 1;omega
      have fin:∀(b:Option Addr) (cap:Nat),hv s0= .slice b xs.length cap->xs.length<=cap->Ed P o a w (G1 w0 Oe J σ a.tmps (Gm σ) (.suf s0 el)):=by
       intro b cap hb1 hcap;refine Ed.value (v:=yr (B8 P e) l1.toNat (hv s0)) (w':=w) ?_ (.keep h ?_)
       .simp only[execOp,ho,Instr.sliceAt,Option.map_none,Cc,hlo,hx1,hb1,run_underlying hu];simp only[Sem.run_bind,run_underlying hu,Dc0 hu hsz0 b xs.length cap l1.toNat k1 (by omega) hcap,Result.andThen,Sem.run_pure]
       .simp only[Cj];exact⟨hnap,e0,B8 P e,y,ro,xs,k1,l1,mg,g1',hp',hb.1,by omega,rfl⟩
      rcases g2.2 with⟨b,e1,e2⟩|⟨g,cap,cur,e1,e1c,e2,e3,e4,e5,e6,e7⟩
      .exact fin b 0 (by rw[e2];exact e1) (by omega)
      .exact fin _ cap e1 e4
     .cases hq'
    .cases hq'
  .cases hs
 .cases hs
def Bg0 {g n cap:Nat} (h:0<cap):C8 (.slice (some ⟨g,0,none⟩) n cap)=some g:=by simp only[C8,if_neg (show¬cap=0 by omega)]
def V7 {z:Array Value} {n sz i j:Nat} {u:Value} (hz:z.size=sz) (hi:i<n) (hj:j<sz) (hu:z[j]? =some u):(Builtin.zeroCells z n)[i*sz+j]? =some u:=by
 have hlt:i*sz+j<n*z.size:=by have:(i+1)*sz<=n*sz:=Cn _ hi;rw[C9,Gh] at this;rw[hz];omega
 have hmod:(i*sz+j) % z.size=j:=by rw[hz,G2,Ym,E6 hj]
 simp only[Builtin.zeroCells,Fp4,y8,hlt,if_true,Cc,hmod];rw[Array.getElem!_eq_getD,Cf,hu];rfl
def Ad9 {t ty e:TypeId} (hu:P.underlying t=some (.slice e)) {ti:TypeInfo} {zv:Value} (hi:P.info? e=some ti) (hzz:ti.zero=some zv) (ad:Addr) (d cap:Nat) {w':World} (hst:(storeCells ad (Builtin.zeroCells zv.cells (d+1)).toList).run P w= .ok () w'):
  (Builtin.clear_ #[t] ty #[.slice (some ad) (d+1) cap]).run P w= .ok (.tuple #[]) w':=by
 simp[Builtin.clear_,run_underlying hu,zeroValue,typeInfo,hi,hzz,hst]
def Cq1 {c:Call} {x:Operand} {t:TypeId} {sv r:SV} {ε:Eff} (ho:o.op= .call c) (hc:c.callee= .builtin .clear) (ha:c.args.toList=[x]) (hty:c.argTypes.toList=[t])
  (h:Rel w0 Oe J σ a.tmps w β hv O) (hG:GOk J G) (hx:opd P σ G t x=some sv) (hs:jb P σ G t sv=some (ws,r,ε)) (hk:Chk J ws):Ed P o a w (G1 w0 Oe J σ a.tmps ε r):=by
 have hr:=Fw (ds:=a.defers) (C:=⟨J,Cr w O,β,hv,σ.m⟩) hG rfl hx h.tmps;unfold jb at hs;split at hs
 .rename_i e s i te;split at hs
  .rename_i e0 sz y zs mg hzs;split at hs
   .rename_i z hz;dsimp only at hs;split at hs
    .rename_i hcond;obtain⟨rfl,rfl,hsz0,hG0⟩:=hcond;simp only[Bm,B3] at hs;obtain⟨rfl,rfl,rfl⟩:=hs;have hu:=L9 te;obtain⟨hpos,xs,vs,g1,g2,g3,g4,_⟩:=h.mem s _ mg;have g1':y.ev J=some (.l (B8 P e0) xs):=g1;simp only[Cj] at hr;obtain⟨_,e2,sz2,x2,ro2,xs2,k,iv,h1,h2,h3,h4,h5,h6⟩:=hr;rw[mg] at h1;injection h1 with h1;injection h1 with _ j1 j2 _;subst j1;subst j2;rw[g1'] at h2;injection h2 with h2;injection h2 with _ h2;subst h2;have h3':i.ev J=some (.i k iv):=h3;have h6':a.eval x=yr (B8 P e0) iv.toNat (hv s):=h6;obtain⟨ti,zv,hi,hzz,hzsz,hz1,hzr⟩:=Hk (C:=⟨J,Cr w O,β,hv,σ.m⟩) hzs;have his:B8 P e0=ti.size:=by simp[B8,hi]
     obtain⟨pz,hpz,hpzc⟩:=Sl (C:=⟨J,Cr w O,β,hv,σ.m⟩) hzr hz1 hz;have hpz':z.ev J=some pz:=hpz;obtain⟨q,hq⟩:=hk.g1 hG;have hq':=hq;have hlv:vs.length=xs.length*B8 P e0:=g2.1;have hmx:xs.length<=maxLen:=by
      rcases g2.2 with⟨b,e1,e2⟩|⟨g,cap,cur,e1,e1c,e2,e3,e4,e5,e6,e7⟩
      .rw[e2];exact D9 _
      .exact En e4 e5
     simp only[E.ev,g1',h3',hpz',Bs,Hg,J3,if_true] at hq';rw[if_pos ⟨Ud _,h4,by omega⟩] at hq';simp only[Bs,X.bin] at hq';split at hq'
     .rename_i hk64;have hk64':k= .i64:=hk64.symm;subst hk64';have hw:IntKind.i64.wrap ((xs.length:Int) - iv)=((xs.length - iv.toNat:Nat):Int):=by rw[IntWalk.i64_in _ ⟨by omega,by simp only[maxLen] at hmx;omega⟩];omega
      simp only[Gc,Bs,hw,Lx] at hq';split at hq'
      .rename_i hrep;simp only[Bs,Es,I0] at hq';split at hq'
       .injection hq' with hq';have hcont:(E.app (B8 P e0) (.lsl (B8 P e0) y (.c (.i .i64 0)) i) (.rep (B8 P e0) (.bin .sub (.len y) i) z)).ev J=some (.l (B8 P e0) (xs.take iv.toNat++List.replicate (xs.length - iv.toNat) pz)):=by rw[hq,<-hq'];simp
        have hkn:iv.toNat<=xs.length:=h5;have hlen:(xs.take iv.toNat++List.replicate (xs.length - iv.toNat) pz).length=xs.length:=by simp;omega
        let Z:List Value:=(Builtin.zeroCells zv.cells (xs.length - iv.toNat)).toList;have hZl:Z.length=(xs.length - iv.toNat)*B8 P e0:=by show (Builtin.zeroCells zv.cells (xs.length - iv.toNat)).toList.length=_;simp[Builtin.zeroCells,hzsz,his]
        let us:List Value:=vs.take (iv.toNat*B8 P e0)++Z;have hkm:iv.toNat*B8 P e0<=xs.length*B8 P e0:=Cn _ hkn;have htk:(vs.take (iv.toNat*B8 P e0)).length=iv.toNat*B8 P e0:=by rw[Cv];omega
        have hsum:iv.toNat*B8 P e0+(xs.length - iv.toNat)*B8 P e0=xs.length*B8 P e0:=by rw[<-C9];congr 1;omega
        have hul:us.length=xs.length*B8 P e0:=by show (vs.take (iv.toNat*B8 P e0)++Z).length=_;rw[Br,htk,hZl,hsum]
        have hel:∀M',(Cr w O).Le M'->I7 M' (B8 P e0) (xs.take iv.toNat++List.replicate (xs.length - iv.toNat) pz) us:=by
         intro M' hM j p hp;have hb1:(xs.take iv.toNat).length=iv.toNat:=by rw[Cv];omega
         by_cases hj:j<iv.toNat
         .rw[Cd (by omega),Ch,if_pos hj] at hp;obtain⟨k1,k2⟩:=g3 j p hp;refine⟨k1,fun m cc hcc=> ?_⟩;obtain⟨u,u1,u2,u3⟩:=k2 m cc hcc;have hm:m<B8 P e0:=by rw[<-k1];exact(Bn.1 hcc).1
          have hlt:j*B8 P e0+m<iv.toNat*B8 P e0:=by have:(j+1)*B8 P e0<=iv.toNat*B8 P e0:=Cn _ hj;rw[C9,Gh] at this;omega
          refine⟨u,?_,u2,u3.mono hM⟩;show (vs.take (iv.toNat*B8 P e0)++Z)[j*B8 P e0+m]? =some u;rw[Cd (by omega),Ch,if_pos hlt];exact u1
         .rw[Cw (by omega),Jm,hb1] at hp;split at hp
          .rename_i hj2;injection hp with hp;subst hp;refine⟨hrep.2.2,fun m cc hcc=> ?_⟩;have hm:m<B8 P e0:=by rw[<-hrep.2.2];exact(Bn.1 hcc).1
           obtain⟨u,u1,u2,u3⟩:=hpzc (by rw[hrep.2.2,hzsz,his]) m cc hcc;refine⟨u,?_,u2,u3.mono hM⟩;have hjk:iv.toNat*B8 P e0<=j*B8 P e0:=Cn _ (by omega);show (vs.take (iv.toNat*B8 P e0)++Z)[j*B8 P e0+m]? =some u;rw[Cw (by omega),htk];have e9:j*B8 P e0+m - iv.toNat*B8 P e0=(j - iv.toNat)*B8 P e0+m:=by rw[Nat.sub_mul];omega
           rw[e9];show (Builtin.zeroCells zv.cells (xs.length - iv.toNat)).toList[(j - iv.toNat)*B8 P e0+m]? =some u;rw[B6];exact V7 (by rw[hzsz,his]) hj2 hm u1
          .cases hp
        have hargs:c.args= #[x]:=by rw[<-Dn (xs:=c.args),ha]
        have htys:c.argTypes= #[t]:=by rw[<-Dn (xs:=c.argTypes),hty]
        have hres:Cj ⟨J,Cr w O,β,hv,σ.m⟩ (.tup []) (.tuple #[]):=by simp only[Cj];exact⟨#[],rfl,by simp only[Cb]⟩
        have fin:∀w',(Builtin.clear_ #[t] o.type #[a.eval x]).run P w= .ok (.tuple #[]) w'->Bel ⟨w,some (hv s)⟩ w'->w'.heap.size=w.heap.size->Own w' (fun _=>True) e0 (B8 P e0) (hv s) (xs.take iv.toNat++List.replicate (xs.length - iv.toNat) pz).length us->
          Ed P o a w (G1 w0 Oe J σ a.tmps ⟨It σ.m s (.arr e0 (B8 P e0) (.app (B8 P e0) (.lsl (B8 P e0) y (.c (.i .i64 0)) i) (.rep (B8 P e0) (.bin .sub (.len y) i) z)) .no),σ.n,none⟩ (.tup [])):=by
         intro w' hrun hbel hsz' hown;obtain⟨_,t2,_,_,_⟩:=h.turned mg hbel (O':=O) (fun _ _ _=>rfl);have hrel:=h.turn (n:=σ.n) (x:= .app (B8 P e0) (.lsl (B8 P e0) y (.c (.i .i64 0)) i) (.rep (B8 P e0) (.bin .sub (.len y) i) z)) mg g1' hbel (O':=O) (fun _ _ _=>rfl) (fun cc hcc=>h.out cc (by omega)) (fun g hg=>by obtain⟨_,lim,h2,_,h3⟩:=g4 g hg;rw[h2,h3 rfl]) hcont hown (hel _ t2)
         refine Ed.value (v:= .tuple #[]) (w':=w') ?_ ⟨β,hv,O,hrel,by simp only[Cj];exact⟨#[],rfl,by simp only[Cb]⟩⟩;simp[execOp,ho,resolve,hc,hargs,htys,invoke,builtin,hrun]
        rcases g2.2 with⟨b,e1,e2⟩|⟨g,cap,cur,e1,e1c,e2,e3,e4,e5,e6,e7⟩
        .have e1':hv s= .slice b 0 0:=e1;have hiv:iv.toNat=0:=by omega
         refine fin w ?_ (Bel.refl ⟨w,some (hv s)⟩) rfl ?_
         .rw[h6',e1',hiv];simp only[yr,if_true];cases b<;>simp[Builtin.clear_,run_underlying hu]
         .rw[hlen];exact⟨hul,.inl ⟨b,e1',e2⟩⟩
        .have e1':hv s= .slice (some ⟨g,0,none⟩) xs.length cap:=e1;have hbk:C8 (hv s)=some g:=by rw[e1'];exact Bg0 e1c
         by_cases hfull:iv.toNat=xs.length
         ·-- nothing is behind it
          have hZ0:Z=[]:=Cp (by rw[hZl,hfull];simp);have hus:us=vs:=by show vs.take (iv.toNat*B8 P e0)++Z=vs;rw[hZ0,hfull,<-hlv];simp
          refine fin w ?_ (Bel.refl ⟨w,some (hv s)⟩) rfl ?_
          .rw[h6',e1',hfull];simp only[yr,Nk];split<;>simp[Builtin.clear_,run_underlying hu]
          .rw[hlen,hus];exact g2.mono fun _ _=>trivial
         .have hlt:iv.toNat<xs.length:=by omega
          have hst:=run_storeCells_at P g (iv.toNat*B8 P e0) e0 Z 0 cur w e3 (by rw[hZl,e6];have:xs.length*B8 P e0<=cap*B8 P e0:=Cn _ e4;omega) (by
           intro u hu';obtain⟨j,hj⟩:=List.mem_iff_getElem?.1 hu';have hj':(Builtin.zeroCells zv.cells (xs.length - iv.toNat))[j]? =some u:=by rw[<-B6];exact hj
           have hjl:j<(xs.length - iv.toNat)*zv.cells.size:=by have:=(Dd.1 hj').1;simpa [Builtin.zeroCells] using this
           simp only[Builtin.zeroCells,Fp4,y8,hjl,if_true,Cc,Bm] at hj';have hpos2:0<zv.cells.size:=by rw[hzsz,<-his];exact hpos
           have hmod:j % zv.cells.size<zv.cells.size:=Nat.mod_lt _ hpos2;rw[getElem!_pos zv.cells _ hmod] at hj';rw[<-hj'];exact hz1 _ (by simp))
          simp only[E5] at hst;let row:Array Value:=(cur.toList.take (iv.toNat*B8 P e0)++Z++cur.toList.drop (iv.toNat*B8 P e0+Z.length)).toArray;have hbel:Bel ⟨w,some (hv s)⟩ (w.setRow g row):=(Bel.refl ⟨w,some (hv s)⟩).turn (g:=g) (.inr hbk) rfl rfl rfl (B7 _) (by simp) (fun cc _ hcc=>setRow_other w g cc row hcc);refine fin (w.setRow g row) ?_ hbel (by simp) ?_
          .rw[h6',e1'];simp only[yr];rw[if_neg (by omega)];obtain⟨d,hd⟩:∃d,xs.length - iv.toNat=d+1:=⟨xs.length - iv.toNat - 1,by omega⟩;have had:(⟨g,0,none⟩:Addr).add (iv.toNat*B8 P e0)=⟨g,iv.toNat*B8 P e0,none⟩:=by rw[add_lit,Fl]
           simp only[Cc,had];rw[hd];refine Ad9 hu hi hzz _ d _ ?_;rw[<-hd];exact hst
          .rw[hlen];have hcl:cur.toList.length=cap*B8 P e0:=by simpa using e6
           have hxc:xs.length*B8 P e0<=cap*B8 P e0:=Cn _ e4;refine⟨hul,.inr ⟨g,cap,row,e1',e1c,trivial,setRow_heap w g cur row e0 _ e3,e4,e5,?_,?_⟩⟩
           .show (cur.toList.take (iv.toNat*B8 P e0)++Z++cur.toList.drop (iv.toNat*B8 P e0+Z.length)).toArray.size=_;simp only[Jl,Br,Cv,C1,hZl];omega
           .show List.take (xs.length*B8 P e0) (cur.toList.take (iv.toNat*B8 P e0)++Z++cur.toList.drop (iv.toNat*B8 P e0+Z.length))=vs.take (iv.toNat*B8 P e0)++Z;have e8:vs.take (iv.toNat*B8 P e0)=cur.toList.take (iv.toNat*B8 P e0):=by rw[<-e7,y4,Yn hkm]
            rw[e8];have e9:(cur.toList.take (iv.toNat*B8 P e0)++Z).length=xs.length*B8 P e0:=by rw[Br,Cv,hZl];omega
            rw[<-e9,y5]
       .cases hq'
      .cases hq'
     .cases hq'
    .cases hs
   .cases hs
  .cases hs
 .cases hs
end
end Go.X
