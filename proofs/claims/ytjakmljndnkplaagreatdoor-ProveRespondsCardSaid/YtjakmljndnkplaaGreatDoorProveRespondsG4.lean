/- What comes in: the readings of a row's arguments as plain values. -/
import Derived.Test.YtjakmljndnkplaaGreatDoorProveRespondsG2
import GoSem.ClaimChange
import Derived.WideShapes
import Derived.ChangeShapes
import Derived.OpenShut
import Derived.Carry
import Derived.SizedLaws
import Derived.IntWalk
open Array renaming getElem?_toList->Ck,length_toList->Dz
open Bool renaming and_eq_true->Bs,false_eq_true->B5,not_true->On
open Int renaming toNat_natCast->Ef
open List renaming getElem?_eq_some_iff->Bp,length_append->Br,getElem?_eq_getElem->Bt,length_cons->B9,length_nil->C1,nil_append->C8,getD_eq_getElem?_getD->C9,getElem?_map->Dq,take_append_drop->Dw,drop_eq_getElem_cons->Dd,cons_append->Dn,length_map->Dt,getElem?_cons_zero->D2,getElem?_range->D5,drop_drop->Ey,getElem?_of_mem->E5,getElem?_cons_succ->Fg,drop_eq_nil_of_le->Hr,mapM_cons->Lt,length_range->By5
open Nat renaming zero_le->C3,add_mul->D1,mod_eq_of_lt->F2,zero_add->Gg,add_zero->Gh,one_mul->Gs
open Option renaming bind_eq_some_iff->Bm,map_eq_some_iff->B0,bind_some->B3,map_some->Cf,bind_eq_bind->Y4,isSome_none->m8,pure_def->vg
open Option.some renaming injEq->Bn
set_option maxHeartbeats 1000000
set_option linter.defProp false
set_option linter.unusedVariables false
set_option linter.unusedSimpArgs false
namespace Go.X
open Go
inductive Sh where
 |b|i (k:IntKind)|s
 |l (e:Sh)
 |st (fs:List Sh)
 deriving Inhabited
mutual
def Sh.size:Sh->Nat
 | .st fs=>Sh.sizes fs
 |_=>1
def Sh.sizes:List Sh->Nat
 |[]=>0
 |f::fs=>f.size+Sh.sizes fs
end
def Sh.agg:Sh->Bool
 | .st _=>true
 |_=>false
mutual
def Sh.okC:Sh->List PV->Prop
 | .b,cs=>∃x,cs=[.b x]
 | .i k,cs=>∃n,cs=[.i k n]∧k.min<=n∧n<=k.max
 | .s,cs=>∃x,cs=[.s x]∧x.length<=maxLen
 | .l e,cs=>∃xs,cs=[.l e.size xs]∧xs.length<=maxLen∧∀x,x∈xs->if e.agg then∃ds,x= .a ds∧e.okC ds else x.scal=true∧e.okC [x]
 | .st fs,cs=>Sh.okCs fs cs
def Sh.okCs:List Sh->List PV->Prop
 |[],cs=>cs=[]
 |f::fs,cs=>∃a b,cs=a++b∧f.okC a∧Sh.okCs fs b
end
def Sh.ok (sh:Sh) (p:PV):Prop:=if sh.agg then∃ds,p= .a ds∧sh.okC ds else p.scal=true∧sh.okC [p]
mutual
def Sh.okC_len:∀(sh:Sh) (cs:List PV),sh.okC cs->cs.length=sh.size
 | .b,cs,h=>by simp only[Sh.okC] at h;obtain⟨x,rfl⟩:=h;rfl
 | .i k,cs,h=>by simp only[Sh.okC] at h;obtain⟨n,rfl,_⟩:=h;rfl
 | .s,cs,h=>by simp only[Sh.okC] at h;obtain⟨x,rfl,_⟩:=h;rfl
 | .l e,cs,h=>by simp only[Sh.okC] at h;obtain⟨x,rfl,_⟩:=h;rfl
 | .st fs,cs,h=>by simp only[Sh.okC] at h;simp only[Sh.size];exact Sh.okCs_len fs cs h
def Sh.okCs_len:∀(fs:List Sh) (cs:List PV),Sh.okCs fs cs->cs.length=Sh.sizes fs
 |[],cs,h=>by simp only[Sh.okCs] at h;subst h;rfl
 |f::fs,cs,h=>by simp only[Sh.okCs] at h;obtain⟨a,b,rfl,h1,h2⟩:=h;rw[Br,Sh.okC_len f a h1,Sh.okCs_len fs b h2];rfl
end
def Uy (P:Program) (f:TypeId->Option Sh):List Field->Nat->Option (List Sh)
 |[],_=>some []
 |x::fs,off=>if x.offset=off then match f x.type with
  |some sh=>if P.cellsOf x.type=sh.size then(Uy P f fs (off+sh.size)).map (sh::·) else none
  |none=>none
  else none
def Dn5 (P:Program):Nat->TypeId->Option Sh
 |0,_=>none
 |d+1,t=>match P.underlying t with
  |some .bool=>some .b
  |some (.int k)=>some (.i k)
  |some .string=>some .s
  |some (.slice e)=>match Dn5 P d e with
   |some sh=>if P.cellsOf e=sh.size then some (.l sh) else none
   |none=>none
  |some (.struct fs)=>match Uy P (Dn5 P d) fs.toList 0 with
   |some shs=>if P.cellsOf t=Sh.sizes shs then some (.st shs) else none
   |none=>none
  |some (.array n e)=>match Dn5 P d e with
   |some sh=>if P.cellsOf e=sh.size then(if P.cellsOf t=n*sh.size then some (.st (List.replicate n sh)) else none) else none
   |none=>none
  |_=>none
def qz {D K:Type} {f:D->Option K}:∀{l:List D} {ys:List K},l.mapM f=some ys->ys.length=l.length∧∀(i:Nat) (x:D) (y:K),l[i]? =some x->ys[i]? =some y->f x=some y
 |[],ys,h=>by simp at h;subst h;exact⟨rfl,fun i x y hx=>by simp at hx⟩
 |x::l,ys,h=>by
  simp only[Lt,Y4,Bm,vg,Bn] at h;obtain⟨y,hy,r,hr,rfl⟩:=h;obtain⟨h1,h2⟩:=qz hr;refine⟨by simp[h1],fun i a b ha hb=> ?_⟩;cases i with
  |zero=>simp at ha hb;subst ha;subst hb;exact hy
  |succ i=>exact h2 i a b (by simpa using ha) (by simpa using hb)
def W1 (agg:Bool) (cs:List PV):PV:=if agg then .a cs else cs.headD .u
abbrev d5:Nat->Option Nat:=fun _=>none
def Ab4 (M:Vw) (pcs:List PV) (cs:List Value):Prop:=pcs.length=cs.length∧∀(j:Nat) (p:PV) (v:Value),pcs[j]? =some p->cs[j]? =some v->One v∧Rep M p v
def Ab4.append {M:Vw} {p q:List PV} {c d:List Value} (h:Ab4 M p c) (h':Ab4 M q d):Ab4 M (p++q) (c++d):=by
 refine⟨by simp[h.1,h'.1],fun j x v hx hv=> ?_⟩;rw[List.getElem?_append] at hx hv;rw[h.1] at hx;split at hx
 .rename_i hj;rw[if_pos hj] at hv;exact h.2 j x v hx hv
 .rename_i hj;rw[if_neg hj] at hv;exact h'.2 _ x v hx hv
def Ab4.one {M:Vw} {p:PV} {v:Value} (h1:One v) (h:Rep M p v):Ab4 M [p] [v]:=
 ⟨rfl,fun j q u hq hu=>by cases j with
  |zero=>simp at hq hu;subst hq;subst hu;exact⟨h1,h⟩
  |succ j=>simp at hq⟩
def pn {e:Sh} (he:e.agg=false) {cs:List PV} (h:e.okC cs):∃p,cs=[p]∧p.scal=true:=by
 cases e with
 |b=>simp only[Sh.okC] at h;obtain⟨x,rfl⟩:=h;exact⟨_,rfl,rfl⟩
 |i k=>simp only[Sh.okC] at h;obtain⟨n,rfl,_⟩:=h;exact⟨_,rfl,rfl⟩
 |s=>simp only[Sh.okC] at h;obtain⟨n,rfl,_⟩:=h;exact⟨_,rfl,rfl⟩
 |l e=>simp only[Sh.okC] at h;obtain⟨n,rfl,_⟩:=h;exact⟨_,rfl,rfl⟩
 |st fs=>simp[Sh.agg] at he
def qj {e:Sh} {cs:List PV} (h:e.okC cs):(W1 e.agg cs).cells=cs:=by
 cases he:e.agg with
 |true=>rfl
 |false=>
  obtain⟨p,rfl,hp⟩:=pn he h;exact PV.scal_cells hp
def cells?_get {w:World} {base:Nat} {a:Addr} {n:Nat} {cs:List Value} (h:w.cells? base a n=some cs):cs.length=n∧∀j v,cs[j]? =some v->w.cell? (a.add j)=some v:=by
 unfold World.cells? at h;split at h
 .obtain⟨h1,h2⟩:=qz h;simp only[By5] at h1;refine⟨h1,fun j v hv=> ?_⟩;have hj:j<n:=by rw[<-h1];exact(Bp.1 hv).1
  exact h2 j j v (D5 hj) hv
 .cases h
def ow {H:Type} {enc:TypeId×Value->H} {P:Program} {w:World} {base:Nat} {spare:Nat->Bool} {held:Bool}:∀(fuel d:Nat) (t:TypeId) (sh:Sh) (cs:List Value) (x:DataW H×List MemPlace),Dn5 P d t=some sh->DataW.trod enc P w base spare held fuel t cs=some x->
  ∃pcs,sh.okC pcs∧Ab4 (Dy w d5) pcs cs
 |0,d,t,sh,cs,x,hs,h=>by simp[DataW.trod] at h
 |fuel+1,0,t,sh,cs,x,hs,h=>by simp[Dn5] at hs
 |fuel+1,d+1,t,sh,cs,x,hs,h=>by
  simp only[Dn5] at hs;split at hs
  .rename_i hu;injection hs with hs;subst hs;simp only[DataW.trod,hu] at h;split at h<;>first|(rename_i heq;simp at heq;done)|(cases h;done)|skip
   exact⟨_,⟨_,rfl⟩,Ab4.one rfl (.b _)⟩
  .rename_i k hu;injection hs with hs;subst hs;simp only[DataW.trod,hu] at h;split at h<;>first|(rename_i heq;simp at heq;done)|(cases h;done)|skip
   rename_i k1 k2 n heq;injection heq with heq;injection heq with heq;subst heq;split at h
   .rename_i hc;obtain⟨rfl,hwf⟩:=hc;simp only[Lit.wf,Bs,decide_eq_true_eq] at hwf;exact⟨_,⟨_,rfl,hwf⟩,Ab4.one rfl (.i _ _)⟩
   .cases h
  .rename_i hu;injection hs with hs;subst hs;simp only[DataW.trod,hu] at h;split at h<;>first|(rename_i heq;simp at heq;done)|(cases h;done)|skip
   rename_i s heq;split at h
   .rename_i hc;refine⟨_,⟨s.data.toList,rfl,?_⟩,Ab4.one rfl (.s _ _ rfl)⟩;rw[Dz];exact hc
   .cases h
  ·-- a slice
   rename_i e hu;split at hs
   .rename_i she hse;split at hs
    .rename_i hsz;injection hs with hs;subst hs;simp only[DataW.trod,hu] at h;split at h<;>first|(rename_i heq;simp at heq;done)|(cases h;done)|skip
     .exact⟨_,⟨[],rfl,C3 _,fun x hx=>by simp at hx⟩,Ab4.one rfl (Rep.lnil _ _ _ _)⟩
     .rename_i e' a len cap heq;injection heq with heq;injection heq with heq;subst heq;split at h
      .rename_i hc;obtain⟨elems,hel,_⟩:=Bm.1 h;obtain⟨hl,hget⟩:=qz hel;simp only[By5] at hl;have each:∀i,i<len->∃ecs pcs,w.cells? base (a.add (i*P.cellsOf e)) (P.cellsOf e)=some ecs∧she.okC pcs∧Ab4 (Dy w d5) pcs ecs:=by intro i hi;have hx:elems[i]? =some (elems[i]'(by omega)):=Bt (by omega);have:=hget i i _ (D5 hi) hx;obtain⟨ecs,h1,h2⟩:=Bm.1 this;obtain⟨pcs,h3,h4⟩:=ow fuel d e she ecs _ hse h2;exact⟨ecs,pcs,h1,h3,h4⟩
       have pick:∃f:Nat->List PV×List Value,∀i,i<len->w.cells? base (a.add (i*P.cellsOf e)) (P.cellsOf e)=some (f i).2∧she.okC (f i).1∧Ab4 (Dy w d5) (f i).1 (f i).2:=by
        have:∀i,∃y:List PV×List Value,i<len->w.cells? base (a.add (i*P.cellsOf e)) (P.cellsOf e)=some y.2∧she.okC y.1∧Ab4 (Dy w d5) y.1 y.2:=by
         intro i;by_cases hi:i<len
         .obtain⟨ecs,pcs,h1,h2,h3⟩:=each i hi;exact⟨(pcs,ecs),fun _=>⟨h1,h2,h3⟩⟩
         .exact⟨default,fun h=>absurd h hi⟩
        exact⟨fun i=>(this i).choose,fun i hi=>(this i).choose_spec hi⟩
       obtain⟨f,hf⟩:=pick;have hsz':P.cellsOf e=she.size:=hsz;have hxs:∀(i:Nat) (x:PV),((List.range len).map fun i=>W1 she.agg (f i).1)[i]? =some x->i<len∧x=W1 she.agg (f i).1∧x.cells=(f i).1:=by
        intro i x hx;simp only[Dq,B0] at hx;obtain⟨k,hk,rfl⟩:=hx;have hi:i<len:=by have:=(Bp.1 hk).1;simpa using this
        rw[D5 hi] at hk;injection hk with hk;subst hk;exact⟨hi,rfl,qj (hf i hi).2.1⟩
       have hlen:((List.range len).map fun i=>W1 she.agg (f i).1).length=len:=by simp
       refine⟨[.l she.size ((List.range len).map fun i=>W1 she.agg (f i).1)],⟨_,rfl,by rw[hlen];omega,fun x hx=> ?_⟩,Ab4.one rfl ?_⟩
       .obtain⟨i,hi⟩:=E5 hx;obtain⟨h1,h2,h3⟩:=hxs i x hi;cases he:she.agg with
        |true=>
         simp only[if_true];exact⟨(f i).1,by rw[h2,he];rfl,(hf i h1).2.1⟩
        |false=>
         simp only[B5,if_false];obtain⟨p,hp,hps⟩:=pn he (hf i h1).2.1;have:x=p:=by rw[h2,he,hp];rfl
         subst this;exact⟨hps,by rw[<-hp];exact(hf i h1).2.1⟩
       .have:=Rep.l (M:=Dy w d5) she.size ((List.range len).map fun i=>W1 she.agg (f i).1) (some a) cap a (fun i j=>(f i).2.getD j undef) (by rw[hlen];exact hc.2.1) (fun _=>rfl)
         (fun i x hx=>by obtain⟨h1,h2,h3⟩:=hxs i x hx;rw[h3];exact Sh.okC_len _ _ (hf i h1).2.1) ?_ ?_ ?_
        .rw[hlen] at this;exact this
        all_goals
         intro i x j c hx hcj;obtain⟨h1,h2,h3⟩:=hxs i x hx;obtain⟨g1,g2,g3⟩:=hf i h1;rw[h3] at hcj;obtain⟨c1,c2⟩:=cells?_get g1;have hj:j<(f i).2.length:=by rw[<-g3.1];exact(Bp.1 hcj).1
         have hv:(f i).2[j]? =some ((f i).2[j]):=Bt hj;have hd:(f i).2.getD j undef=(f i).2[j]:=by rw[C9,hv];rfl
        .rw[hd];refine Gl ?_ (fun lim hl=>by cases hl);rw[<-hsz',<-Addr.add_add];exact c2 j _ hv
        .rw[hd];exact(g3.2 j c _ hcj hv).1
        .rw[hd];exact(g3.2 j c _ hcj hv).2
      .cases h
    .cases hs
   .cases hs
  ·-- a struct
   rename_i fs hu;split at hs
   .rename_i shs hshs;split at hs
    .rename_i hsz;injection hs with hs;subst hs;have h':∃ys,cs.length=P.cellsOf t∧(fs.toList.mapM fun f=>DataW.trod enc P w base spare held fuel f.type ((cs.drop f.offset).take (P.cellsOf f.type)))=some ys:=by
      simp only[DataW.trod,hu] at h;by_cases hl:cs.length=P.cellsOf t
      .rw[if_pos hl] at h;obtain⟨ys,hy,_⟩:=B0.1 h;exact⟨ys,hl,hy⟩
      .rw[if_neg hl] at h;cases h
     obtain⟨ys,hlen,hys⟩:=h';have go:∀(l:List Field) (off:Nat) (shs:List Sh) (ys:List (DataW H×List MemPlace)),Uy P (Dn5 P d) l off=some shs->(l.mapM fun f=>DataW.trod enc P w base spare held fuel f.type ((cs.drop f.offset).take (P.cellsOf f.type)))=some ys->cs.length=off+Sh.sizes shs->
       ∃pcs,Sh.okCs shs pcs∧Ab4 (Dy w d5) pcs (cs.drop off):=by
      intro l
      induction l with
      |nil=>
       intro off shs ys h1 h2 h3;simp only[Uy,Bn] at h1;subst h1;refine⟨[],rfl,?_⟩;have:cs.drop off=[]:=Hr (by simp only[Sh.sizes] at h3;omega);rw[this];exact⟨rfl,fun j p v hp=>by simp at hp⟩
      |cons fl l ih=>
       intro off shs ys h1 h2 h3;simp only[Uy] at h1;split at h1
       .rename_i hoff;subst hoff;split at h1
        .rename_i sh hsh;split at h1
         .rename_i hsize;obtain⟨rest,hrest,rfl⟩:=B0.1 h1;simp only[Lt,Y4,Bm,vg,Bn] at h2;obtain⟨y,hy,r,hr,rfl⟩:=h2;obtain⟨pcs,p1,p2⟩:=ow fuel d fl.type sh _ _ hsh hy;simp only[Sh.sizes] at h3;obtain⟨qcs,q1,q2⟩:=ih (fl.offset+sh.size) rest r hrest hr (by omega);refine⟨pcs++qcs,⟨pcs,qcs,rfl,p1,q1⟩,?_⟩;have e:cs.drop fl.offset=(cs.drop fl.offset).take (P.cellsOf fl.type)++cs.drop (fl.offset+sh.size):=by rw[hsize,<-Ey,Dw]
          rw[e];exact p2.append q2
         .cases h1
        .cases h1
       .cases h1
     obtain⟨pcs,p1,p2⟩:=go fs.toList 0 shs ys hshs hys (by omega);exact⟨pcs,p1,by simpa using p2⟩
    .cases hs
   .cases hs
  ·-- an array
   rename_i n e hu;split at hs
   .rename_i sh hse;split at hs
    .rename_i hsz;split at hs
     .rename_i hsz2;injection hs with hs;subst hs;have h':∃ys,cs.length=P.cellsOf t∧((List.range n).mapM fun i=>DataW.trod enc P w base spare held fuel e ((cs.drop (i*P.cellsOf e)).take (P.cellsOf e)))=some ys:=by
       simp only[DataW.trod,hu] at h;by_cases hl:cs.length=P.cellsOf t
       .rw[if_pos hl] at h;obtain⟨ys,hy,_⟩:=B0.1 h;exact⟨ys,hl,hy⟩
       .rw[if_neg hl] at h;cases h
      obtain⟨ys,hlen,hys⟩:=h';have go:∀(m off:Nat) (ys:List (DataW H×List MemPlace)),((List.range' off m).mapM fun i=>DataW.trod enc P w base spare held fuel e ((cs.drop (i*P.cellsOf e)).take (P.cellsOf e)))=some ys->cs.length=off*sh.size+m*sh.size->
        ∃pcs,Sh.okCs (List.replicate m sh) pcs∧Ab4 (Dy w d5) pcs (cs.drop (off*sh.size)):=by
       intro m
       induction m with
       |zero=>
        intro off ys h2 h3;refine⟨[],rfl,?_⟩;have:cs.drop (off*sh.size)=[]:=Hr (by omega);rw[this];exact⟨rfl,fun j p v hp=>by simp at hp⟩
       |succ m ih=>
        intro off ys h2 h3;simp only[List.range'_succ,Lt,Y4,Bm,vg,Bn] at h2;obtain⟨y,hy,r,hr,rfl⟩:=h2;obtain⟨pcs,p1,p2⟩:=ow fuel d e sh _ _ hse hy;have e1:(off+1)*sh.size=off*sh.size+sh.size:=by rw[D1,Gs]
        have e2:(m+1)*sh.size=m*sh.size+sh.size:=by rw[D1,Gs]
        obtain⟨qcs,q1,q2⟩:=ih (off+1) r hr (by omega);refine⟨pcs++qcs,⟨pcs,qcs,rfl,p1,q1⟩,?_⟩;rw[hsz] at p2;have e3:cs.drop (off*sh.size)=(cs.drop (off*sh.size)).take sh.size++cs.drop ((off+1)*sh.size):=by rw[e1,<-Ey,Dw]
        rw[e3];exact p2.append q2
      rw[List.range_eq_range'] at hys;obtain⟨pcs,p1,p2⟩:=go n 0 ys hys (by omega);refine⟨pcs,?_,by simpa using p2⟩;simpa only[Sh.okC] using p1
     .cases hs
    .cases hs
   .cases hs
  .cases hs
open Go Go.RowKit Go.ChangeShapes Go.WideShapes
section
variable {H:Type} {enc:TypeId×Value->H} {P:Program} {sig:Nat->Option Nat} {tab:Nat->Option FT} {ext:Fns->Fns}
def Dn7 (hM:K8 ext) (hT:Tab P sig tab) (hE:∀fn,Contract P sig fn->Contract P sig (ext fn)) {f n:Nat} {ft:FT} {vs rs:List PV} (hf:tab f=some ft) (hmu:vk (sig f)=none) (hfa:Ch2 (sig f)=none) (h:sem tab ext f n vs=some rs) {w:World} {O:Nat->Option Nat} {args:Array Value} (hg:Given w O n vs args):
  Calls P f args w fun e w'=>∃v,e= .returned v∧Gl6 P (sig f) w O rs v w':=by
 obtain⟨k,hk⟩:=(S2 hM).1 h;cases k with
 |zero=>simp[Tl] at hk
 |succ k=>
  rw[Tl] at hk;simp only[hf] at hk;split at hk
  .rename_i hc;obtain⟨o,ho,hk⟩:=Bm.1 hk;split at hk
   .injection hk with hk;subst hk;obtain⟨func,Hn,hfn,hn,hp,hlt,hnf,t0,hx,hs⟩:=hT.1 f ft hf;rw[<-hs,J9] at ho;unfold Cp2 at hp;rw[hmu,hfa] at hp;simp only[m8,Bool.or_self,B5,if_false,Gh] at hp;exact Ad3 (Dp9 hT hE k) hmu hfn hx ho (by rw[hc.2,<-hp,F2 hlt,hnf]) (by rw[hp,hc.1];exact hg) (fun e he=>by rw[hfa] at he;cases he)
   .cases hk
  .cases hk
def Oks:List Sh->List PV->Prop
 |[],[]=>True
 |sh::ss,p::ps=>sh.ok p∧Oks ss ps
 |_,_=>False
def Oks.len:∀{ss:List Sh} {ps:List PV},Oks ss ps->ps.length=ss.length
 |[],[],_=>rfl
 |_::_,_::_,h=>by simp[Oks.len h.2]
 |[],_::_,h=>h.elim
 |_::_,[],h=>h.elim
def yv (P:Program) (ts:List TypeId):Option (List Sh):=ts.mapM (Dn5 P 30)
def Gk3 {w:World} {base b0:Nat} {spare:Nat->Bool} {held:Bool} {t:TypeId} {v:Value} {d:DataW H} {ps:List MemPlace} {sh:Sh} {n:Nat} (hs:Dn5 P n t=some sh) (hok:Value.okWide P w .any base t v) (h:DataW.Trod enc P w b0 spare held t v d ps):
  ∃p,sh.ok p∧Rep (Dy w d5) p v:=by
 obtain⟨fuel,hf⟩:=h;obtain⟨pcs,h1,h2⟩:=ow fuel n t sh _ _ hs hf;have single:sh.agg=false->v.cells= #[v]->∃p,sh.ok p∧Rep (Dy w d5) p v:=by intro ha hv;obtain⟨p,rfl,hp⟩:=pn ha h1;rw[hv] at h2;refine⟨p,?_,(h2.2 0 p v rfl rfl).2⟩;unfold Sh.ok;rw[ha];simp only[B5,if_false];exact⟨hp,h1⟩
 cases n with
 |zero=>simp[Dn5] at hs
 |succ n=>
  simp only[Dn5] at hs;split at hs
  .rename_i hu;injection hs with hs;subst hs;obtain⟨b,rfl⟩:=okWide_bool hu hok;exact single rfl rfl
  .rename_i k hu;injection hs with hs;subst hs;obtain⟨b,rfl⟩:=okWide_int hu hok;exact single rfl rfl
  .rename_i hu;injection hs with hs;subst hs;obtain⟨b,rfl⟩:=okWide_string hu hok;exact single rfl rfl
  .rename_i e hu;split at hs
   .split at hs
    .injection hs with hs;subst hs;obtain⟨a,l,c,rfl⟩:=okWide_slice hu hok;exact single rfl rfl
    .cases hs
   .cases hs
  .rename_i fs hu;split at hs
   .split at hs
    .injection hs with hs;subst hs;simp only[Value.okWide,hu] at hok;obtain⟨cs,rfl,_,_⟩:=hok;refine⟨.a pcs,?_,?_⟩
     .unfold Sh.ok;simp only[Sh.agg,if_true];exact⟨pcs,rfl,h1⟩
     .have hl:pcs.length=cs.toList.length:=h2.1;refine Rep.a pcs cs (by rw[hl,Dz]) (fun u hu=> ?_) (fun j c u hc hu=>(h2.2 j c u hc (by show cs.toList[j]? =some u;rw[Ck];exact hu)).2);obtain⟨j,hj⟩:=E5 hu;have hj1:=(Bp.1 hj).1;exact(h2.2 j _ u (Bt (by omega)) hj).1
    .cases hs
   .cases hs
  .rename_i n e hu;split at hs
   .split at hs
    .split at hs
     .injection hs with hs;subst hs;simp only[Value.okWide,hu] at hok;obtain⟨cs,rfl,_,_⟩:=hok;refine⟨.a pcs,?_,?_⟩
      .unfold Sh.ok;simp only[Sh.agg,if_true];exact⟨pcs,rfl,h1⟩
      .have hl:pcs.length=cs.toList.length:=h2.1;refine Rep.a pcs cs (by rw[hl,Dz]) (fun u hu=> ?_) (fun j c u hc hu=>(h2.2 j c u hc (by show cs.toList[j]? =some u;rw[Ck];exact hu)).2);obtain⟨j,hj⟩:=E5 hu;have hj1:=(Bp.1 hj).1;exact(h2.2 j _ u (Bt (by omega)) hj).1
     .cases hs
    .cases hs
   .cases hs
  .cases hs
def Bf1 {w:World} {base b0:Nat} {spare:Nat->Bool} {held:Bool}:∀{ts:List TypeId} {shs:List Sh} {vs:List Value} {ds:List (DataW H)} {ps:List MemPlace},yv P ts=some shs->(∀(j:Nat) t v,ts[j]? =some t->vs[j]? =some v->Value.okWide P w .any base t v)->
  DataW.TrodAll enc P w b0 spare held ts vs ds ps->∃qs,Oks shs qs∧qs.length=vs.length∧∀(j:Nat) (p:PV) (v:Value),qs[j]? =some p->vs[j]? =some v->Rep (Dy w d5) p v
 |[],shs,vs,ds,ps,hs,hok,h=>by simp only[yv,List.mapM_nil,vg,Bn] at hs;subst hs;obtain⟨rfl,rfl,rfl⟩:=trodAll_nil h;exact⟨[],trivial,rfl,fun j p v hp=>by simp at hp⟩
 |t::ts,shs,vs,ds,ps,hs,hok,h=>by
  simp only[yv,Lt,Y4,Bm,vg,Bn] at hs;obtain⟨sh,hsh,rest,hrest,rfl⟩:=hs;obtain⟨v,vs',d,ds',p,q,rfl,rfl,rfl,h1,h2⟩:=trodAll_cons h;obtain⟨x,x1,x2⟩:=Gk3 hsh (hok 0 t v rfl rfl) h1;obtain⟨qs,q1,q2,q3⟩:=Bf1 hrest (fun j t' v' ht hv=>hok (j+1) t' v' (by simpa using ht) (by simpa using hv)) h2;refine⟨x::qs,⟨x1,q1⟩,by simp[q2],fun j p' v' hp hv=> ?_⟩;cases j with
  |zero=>simp at hp hv;subst hp;subst hv;exact x2
  |succ j=>exact q3 j p' v' (by simpa using hp) (by simpa using hv)
def Cq6 (hl:laidOutB P=true) {W W':World} (hb:Below W.heap.size W W'):∀{ts:List TypeId} {vs:List Value} {ds:List (DataW H)} {ps:List MemPlace},(ts.all fun t=>P.readableRec t && decide (t<P.types.size))=true->DataW.TrodAll enc P W 0 (fun _=>true) true ts vs ds ps->
  DataW.TrodAll enc P W' 0 (fun b=>decide (b<W.heap.size)) true ts vs ds ps
 |[],vs,ds,ps,_,h=>by obtain⟨rfl,rfl,rfl⟩:=trodAll_nil h;exact trodAll_mk0
 |t::ts,vs,ds,ps,hr,h=>by simp only[List.all_cons,Bs,decide_eq_true_eq] at hr;obtain⟨v,vs',d,ds',p,q,rfl,rfl,rfl,h1,h2⟩:=trodAll_cons h;refine trodAll_cons_mk (Below.trod hl hr.1.1 hr.1.2 h1 hb ?_) (Cq6 hl hb (by simpa using hr.2) h2);obtain⟨m,hm⟩:=h1;exact DataW.trod_lt m _ _ _ hm
def law_calls (hM:K8 ext) (hT:Tab P sig tab) (hE:∀fn,Contract P sig fn->Contract P sig (ext fn)) {f:Nat} {ft:FT} (hf:tab f=some ft) (hsig:sig f=none) {ts:List TypeId} {shs:List Sh} (hs:yv P ts=some shs)
  (law:∀qs,Oks shs qs->sem tab ext f shs.length qs=some [.b true]) {W:World} {base b0:Nat} {spare:Nat->Bool} {held:Bool} {args:Array Value} {ds:List (DataW H)} {ps:List MemPlace}
  (hok:∀(j:Nat) t v,ts[j]? =some t->args[j]? =some v->Value.okWide P W .any base t v) (h:DataW.TrodAll enc P W b0 spare held ts args.toList ds ps):
  Calls P f args W fun e W'=>e= .returned (.bool true)∧Below W.heap.size W W':=by
 obtain⟨qs,q1,q2,q3⟩:=Bf1 hs (fun j t v ht hv=>hok j t v ht (by simpa using hv)) h;have hlen:=q1.len;refine(Dn7 hM hT hE hf (by rw[hsig];rfl) (by rw[hsig];rfl) (law qs q1) (O:=d5) ⟨fun _ _=>rfl,by rw[q2,Dz],fun j p v _ hp hv=>q3 j p v hp (by simpa using hv),fun j p v hj hp _=> ?_⟩).mono fun e w' ⟨v,he,hb⟩=> ?_
 .have:=(Bp.1 hp).1;omega
 .subst he;rw[hsig] at hb;obtain⟨hbel,O',_,_,hres⟩:=hb;have hr:Rep (Dy w' O') (.b true) v:=hres;exact⟨by rw[hr.bool],hbel.to⟩
end
open Go
def Dj (j:Nat) (p:PV):Option PV:=p.cells[j]?
def Mq (off n:Nat) (p:PV):Option PV:=if off+n<=p.cells.length then some (.a ((p.cells.drop off).take n)) else none
def W9 (n:Nat):PV->Option PV
 | .a cs=>if cs.length=n then some (.a cs) else none
 |_=>none
def J8 (p:PV):Option PV:=if p.scal then some p else none
def brE (J:List PV) (x y:E):PV->Option PV
 | .b true=>x.ev J
 | .b false=>y.ev J
 |_=>none
def brT (fn:Fns) (N:Nat) (t e:T) (J:List PV):PV->Option Out
 | .b true=>t.ev fn N J
 | .b false=>e.ev fn N J
 |_=>none
def goT (fn:Fns) (N:Nat) (k:T) (J:List PV):Option Out:=k.ev fn N J
def aft (fn:Fns) (N:Nat) (id:Nat) (k:T) (J:List PV):Out->Option Out
 | .yld j vs=>if j=id then k.ev fn N (J++vs) else some (.yld j vs)
 | .ret vs=>some (.ret vs)
def Gg7 (fn:Fns) (J:List PV) (fl:Bool) (f:Nat) (ar:List E) (m:Nat):PV->Option (List PV)
 | .b true=>(E.evs J ar).bind fun vs=>results fl m J (fn f vs.length vs)
 | .b false=>some (J++List.replicate m .u)
 |_=>none
section
variable {J:List PV}
def Kl8 (n:Nat):(E.v n).ev J=J[n]? :=by simp only[E.ev]
def Km2 (x:PV):(E.c x).ev J=some x:=by simp only[E.ev]
def Jm3 (op:BinOp) (x y:E):(E.bin op x y).ev J=(x.ev J).bind fun p=>(y.ev J).bind fun q=>X.bin op p q:=by simp only[E.ev]
def Kl9 (op:UnOp) (x:E):(E.un op x).ev J=(x.ev J).bind (X.un op):=by simp only[E.ev]
def Jl8 (g x y:E):(E.ite g x y).ev J=(g.ev J).bind (brE J x y):=by simp only[E.ev];rfl
def Ik4 (j:Nat) (x:E):(E.proj j x).ev J=(x.ev J).bind (Dj j):=by simp only[E.ev];rfl
def Jl1 (o n:Nat) (x:E):(E.sub o n x).ev J=(x.ev J).bind (Mq o n):=by simp only[E.ev];rfl
def Jm6 (xs:List E):(E.agg xs).ev J=(E.evs J xs).map .a:=by simp only[E.ev]
def Jm0 (n:Nat) (x:E):(E.fit n x).ev J=(x.ev J).bind (W9 n):=by simp only[E.ev];congr 1;funext p;cases p<;>rfl
def Ik3 (x:E):(E.scal x).ev J=(x.ev J).bind J8:=by simp only[E.ev];rfl
def Jl9 (sz:Nat) (x i:E):(E.idx sz x i).ev J=(x.ev J).bind fun p=>(i.ev J).bind fun q=>H3 sz p q:=by simp only[E.ev]
def ev_len (x:E):(E.len x).ev J=(x.ev J).bind Hj:=by simp only[E.ev]
def Ik1 (x:E):(E.slen x).ev J=(x.ev J).bind jc:=by simp only[E.ev]
def Ik2 (x i:E):(E.sidx x i).ev J=(x.ev J).bind fun p=>(i.ev J).bind fun q=>yq p q:=by simp only[E.ev]
def Jl2 (x lo hi:E):(E.ssl x lo hi).ev J=(x.ev J).bind fun p=>(lo.ev J).bind fun q=>(hi.ev J).bind fun r=>Cx5 p q r:=by simp only[E.ev]
def Jl6 (sz:Nat) (x lo hi:E):(E.lsl sz x lo hi).ev J=(x.ev J).bind fun p=>(lo.ev J).bind fun q=>(hi.ev J).bind fun r=>Jx sz p q r:=by simp only[E.ev]
def Jm5 (sz:Nat) (x y:E):(E.app sz x y).ev J=(x.ev J).bind fun p=>(y.ev J).bind fun q=>Jz sz p q:=by simp only[E.ev]
def Jl7 (sz:Nat) (xs:List E):(E.lit sz xs).ev J=(E.evs J xs).bind (L4 sz):=by simp only[E.ev]
def Jl5 (sz:Nat) (n z:E):(E.rep sz n z).ev J=(n.ev J).bind fun p=>(z.ev J).bind fun q=>O8 sz p q:=by simp only[E.ev]
def Jl3 (sz:Nat) (x i:E) (o:Nat) (vs:List E):(E.set sz x i o vs).ev J=(x.ev J).bind fun p=>(i.ev J).bind fun q=>(E.evs J vs).bind fun r=>Mx sz o r p q:=by simp only[E.ev]
def Ik7 (k:IntKind) (x:E):(E.conv k x).ev J=(x.ev J).bind (Bt7 k):=by simp only[E.ev]
def Jm4 (x:E):(E.b2s x).ev J=(x.ev J).bind Fc2:=by simp only[E.ev]
def Jl4 (x:E):(E.s2b x).ev J=(x.ev J).bind Dp7:=by simp only[E.ev]
def Jm1 (n g:Bool) (ts:List Sc) (x y:E):(E.eqs n g ts x y).ev J=(x.ev J).bind fun p=>(y.ev J).bind fun q=>Pq n g ts p q:=by simp only[E.ev]
def Jm2 (g:Nat) (xs:List E):(E.clo g xs).ev J=(E.evs J xs).map (.f g):=by simp only[E.ev]
def Km1 (x y:E):(E.mn x y).ev J=(x.ev J).bind fun p=>(y.ev J).bind fun q=>Gy2 p q:=by simp only[E.ev]
def Km0 (x y:E):(E.mx x y).ev J=(x.ev J).bind fun p=>(y.ev J).bind fun q=>Hs0 p q:=by simp only[E.ev]
def Ik6 (x k z:E):(E.mget x k z).ev J=(x.ev J).bind fun p=>(k.ev J).bind fun q=>(z.ev J).bind fun r=>Bp3 p q r:=by simp only[E.ev]
def Ik5 (x k v:E):(E.mset x k v).ev J=(x.ev J).bind fun p=>(k.ev J).bind fun q=>(v.ev J).bind fun r=>Bp1 p q r:=by simp only[E.ev]
def Fj2 (x:E):(E.flt x).ev J=(x.ev J).bind Ch0:=by simp only[E.ev]
def Kr (x:E):(E.der x).ev J=(x.ev J).bind Cm6:=by simp only[E.ev]
def Kp (o:Nat) (x:E):(E.mkp o x).ev J=(x.ev J).bind (Cf7 o):=by simp only[E.ev]
def Ar4:E.evs J []=some []:=by simp only[E.evs]
def rq (x:E) (xs:List E):E.evs J (x::xs)=(x.ev J).bind fun p=>(E.evs J xs).map fun ps=>p::ps:=by simp only[E.evs]
def Gg9 (x y:E):brE J x y (.b true)=x.ev J:=rfl
def Fz7 (x y:E):brE J x y (.b false)=y.ev J:=rfl
def Kn7 (x y:E) (v:Bool):brE J x y (.b v)=if v=true then x.ev J else y.ev J:=by cases v<;>rfl
end
section
variable {fn:Fns} {N:Nat} {J:List PV}
def Cz {t t':T} (h:t=t'):∀(fn:Fns) (N:Nat) (J:List PV),T.ev fn N t J=T.ev fn N t' J:=by subst h;intro fn N J;exact Eq.refl _
def xc {t t':T} {q:Prop} (h:t=t') (r:q):(∀(fn:Fns) (N:Nat) (J:List PV),T.ev fn N t J=T.ev fn N t' J)∧q:=⟨Cz h,r⟩
def xd {a b:E} {q:Prop} (h:a=b) (r:q):(a=b)∧q:=⟨by subst h;exact Eq.refl _,r⟩
def xd0:(TAG=TAG)=True:=eq_self _
def Hy2 (x:E) (k:T):(T.w (.chk x) k).ev fn N J=(x.ev J).bind fun _=>k.ev fn N J:=by simp only[T.ev,W.ev];cases x.ev J<;>rfl
def Fn1 (fl:Bool) (f:Nat) (ar:List E) (m:Nat) (k:T):(T.w (.call none fl f ar m) k).ev fn N J=(((E.evs J ar).bind fun vs=>results fl m J (fn f vs.length vs))).bind (goT fn N k):=by simp only[T.ev,W.ev,G6];rfl
def Dq8 (g:E) (fl:Bool) (f:Nat) (ar:List E) (m:Nat) (k:T):(T.w (.call (some g) fl f ar m) k).ev fn N J=(W.ev fn J (.call (some g) fl f ar m)).bind (goT fn N k):=by simp only[T.ev];rfl
def Hy1 (g:Option E) (fl:Bool) (c:E) (ar:List E) (m:Nat) (k:T):(T.w (.clo g fl c ar m) k).ev fn N J=(W.ev fn J (.clo g fl c ar m)).bind (goT fn N k):=by simp only[T.ev];rfl
def Eg (f:Nat) (ar:List E) (k:T):(T.w (.mcall f ar) k).ev fn N J=((E.evs J ar).bind fun vs=>results false 1 J (fn f (vs.length+TAG) vs)).bind (goT fn N k):=by simp only[T.ev,W.ev];rfl
def Jr:TAG=1048576:=rfl
def Jh3 (k:T):goT fn N k J=k.ev fn N J:=rfl
def Hy0 (c:E) (t e:T):(T.ite c t e).ev fn N J=(c.ev J).bind (brT fn N t e J):=by simp only[T.ev];rfl
def Gg8 (t e:T):brT fn N t e J (.b true)=t.ev fn N J:=rfl
def Fz6 (t e:T):brT fn N t e J (.b false)=e.ev fn N J:=rfl
def Kn6 (t e:T) (v:Bool):brT fn N t e J (.b v)=if v=true then t.ev fn N J else e.ev fn N J:=by cases v<;>rfl
def Hx9 (es:List E):(T.ret es).ev fn N J=(E.evs J es).map .ret:=by simp only[T.ev]
def Hx8 (id:Nat) (es:List E):(T.yld id es).ev fn N J=(E.evs J es).map (.yld id):=by simp only[T.ev]
def Hy3 (id:Nat) (b k:T):(T.blk id b k).ev fn N J=(b.ev fn N J).bind (aft fn N id k J):=by simp only[T.ev];rfl
def Fd7 (id:Nat) (k:T) (vs:List PV):aft fn N id k J (.ret vs)=some (.ret vs):=rfl
def Iy4 (id j:Nat) (k:T) (vs:List PV):aft fn N id k J (.yld j vs)=if j=id then k.ev fn N (J++vs) else some (.yld j vs):=rfl
def Iy5 (id:Nat) (k:T) (p:Prop) [Decidable p] (x y:Out):aft fn N id k J (if p then x else y)=if p then aft fn N id k J x else aft fn N id k J y:=by split<;>rfl
def Dq3 (g:E) (fl:Bool) (f:Nat) (ar:List E) (m:Nat):W.ev fn J (.call (some g) fl f ar m)=(g.ev J).bind (Gg7 fn J fl f ar m):=by simp only[W.ev,G6];rfl
def Cn7 (fl:Bool) (f:Nat) (ar:List E) (m:Nat):Gg7 fn J fl f ar m (.b true)=(E.evs J ar).bind fun vs=>results fl m J (fn f vs.length vs):=rfl
def At7 (fl:Bool) (f:Nat) (ar:List E) (m:Nat):Gg7 fn J fl f ar m (.b false)=some (J++List.replicate m .u):=rfl
def Iw5 (fl:Bool) (f:Nat) (ar:List E) (m:Nat) (v:Bool):Gg7 fn J fl f ar m (.b v)=if v=true then((E.evs J ar).bind fun vs=>results fl m J (fn f vs.length vs)) else some (J++List.replicate m .u):=by cases v<;>rfl
def Hx4 (fl:Bool) (c:E) (ar:List E) (m:Nat):W.ev fn J (.clo none fl c ar m)=(c.ev J).bind fun q=>(E.evs J ar).bind fun vs=>match q with| .f f caps=>results fl m J (fn f vs.length (vs++caps))|_=>none:=by simp only[W.ev,G6];rfl
def Gb6 {D K:Type} (p:Prop) [Decidable p] (x y:Option D) (f:D->Option K):(if p then x else y).bind f=if p then x.bind f else y.bind f:=by split<;>rfl
def Gb5 (p:Prop) [Decidable p] (x y:PV):(if p then some x else some y)=some (if p then x else y):=by split<;>rfl
def Er8 (p:Prop) [Decidable p] (x y:Out):(if p then some x else some y)=some (if p then x else y):=by split<;>rfl
def Jh1 (p:Prop) [Decidable p] (x y:Bool):(if p then PV.b x else PV.b y)=PV.b (if p then x else y):=by split<;>rfl
def Jh0 (p:Prop) [Decidable p] (k:IntKind) (x y:Int):(if p then PV.i k x else PV.i k y)=PV.i k (if p then x else y):=by split<;>rfl
def Jg9 (p:Prop) [Decidable p] (x y:List UInt8):(if p then PV.s x else PV.s y)=PV.s (if p then x else y):=by split<;>rfl
def Out.goes (id:Nat):Out->Bool
 | .yld j _=>j==id
 |_=>false
def bw {step:List PV->Option Out} {id:Nat} {D:Type} (st:D->List PV) (res:D->Out) (I:D->Prop) (μ:D->Nat)
  (h:∀a,I a->(∃b,step (st a)=some (.yld id (st b))∧I b∧μ b<μ a∧res b=res a)∨(step (st a)=some (res a)∧(res a).goes id=false)):
  ∀(n:Nat) (a:D),I a->μ a<n->It step id n (st a)=some (res a)
 |0,a,_,hn=>by omega
 |n+1,a,ha,hn=>by
  simp only[It];rcases h a ha with⟨b,h1,h2,h3,h4⟩|⟨h1,h2⟩
  .rw[h1];simp only[B3,if_true];rw[bw st res I μ h n b h2 (by omega),h4]
  .rw[h1];simp only[B3];cases hr:res a with
   |ret vs=>rfl
   |yld j vs=>
    rw[hr] at h2;simp only[Out.goes,beq_eq_false_iff_ne,ne_eq] at h2;simp only[];rw[if_neg h2]
def I9 {id:Nat} {init:List E} {body:T} {D:Type} (st:D->List PV) (res:D->Out) (I:D->Prop) (μ:D->Nat) (a0:D)
  (h0:E.evs J init=some (st a0)) (hI:I a0) (hN:μ a0<N)
  (h:∀a,I a->(∃b,body.ev fn N (J++st a)=some (.yld id (st b))∧I b∧μ b<μ a∧res b=res a)∨(body.ev fn N (J++st a)=some (res a)∧(res a).goes id=false)):
  (T.loop id init body).ev fn N J=some (res a0):=by
 simp only[T.ev,h0,B3];exact bw st res I μ h N a0 hI hN
def Gq {id:Nat} {init:List E} {body:T} (n:Nat) (st:Nat->List PV) (res:Nat->Out)
  (h0:E.evs J init=some (st 0)) (hN:n<N)
  (h:∀i,i<n->(body.ev fn N (J++st i)=some (.yld id (st (i+1)))∧res (i+1)=res i)∨(body.ev fn N (J++st i)=some (res i)∧(res i).goes id=false))
  (hn:body.ev fn N (J++st n)=some (res n)∧(res n).goes id=false):
  (T.loop id init body).ev fn N J=some (res 0):=by
 refine I9 st res (fun i=>i<=n) (fun i=>n - i) 0 h0 (C3 _) (by omega) fun i hi=> ?_;by_cases hlt:i<n
 .rcases h i hlt with⟨h1,h2⟩|h1
  .exact .inl ⟨i+1,h1,by omega,by omega,h2⟩
  .exact .inr h1
 .have:i=n:=by omega
  subst this;exact .inr hn
end
def Dh {fn:Fns} {N:Nat} {J:List PV} {id:Nat} {init:List E} {body:T} {K γ:Type} (l:List K) (st:Nat->γ->List PV) (f:Nat->γ->List K->Out) (I:Nat->γ->Prop) (g0:γ)
  (h0:E.evs J init=some (st 0 g0)) (hI:I 0 g0) (hN:l.length<N)
  (step:∀i g c r,l.drop i=c::r->i<l.length->l[i]? =some c->I i g->
   (∃g',body.ev fn N (J++st i g)=some (.yld id (st (i+1) g'))∧I (i+1) g'∧f (i+1) g' r=f i g (c::r))∨(body.ev fn N (J++st i g)=some (f i g (c::r))∧(f i g (c::r)).goes id=false))
  (stop:∀g,I l.length g->body.ev fn N (J++st l.length g)=some (f l.length g [])∧(f l.length g []).goes id=false):
  (T.loop id init body).ev fn N J=some (f 0 g0 l):=by
 have:=I9 (fn:=fn) (N:=N) (J:=J) (id:=id) (init:=init) (body:=body) (D:=Nat×γ) (fun a=>st a.1 a.2) (fun a=>f a.1 a.2 (l.drop a.1)) (fun a=>a.1<=l.length∧I a.1 a.2) (fun a=>l.length - a.1) (0,g0) h0 ⟨C3 _,hI⟩ (by simpa using hN) ?_
 .simpa using this
 .rintro⟨i,g⟩ ⟨hi,hg⟩;simp only at hi hg ⊢;by_cases hlt:i<l.length
  .have hd:l.drop i=l[i]::l.drop (i+1):=Dd hlt;rcases step i g l[i] (l.drop (i+1)) hd hlt (Bt hlt) hg with⟨g',h1,h2,h3⟩|h1
   .exact .inl ⟨(i+1,g'),h1,⟨hlt,h2⟩,by simp only;omega,by simp only;rw[h3,hd]⟩
   .exact .inr (by rw[hd];exact h1)
  .have hi':i=l.length:=by omega
   subst hi';have hd:l.drop l.length=[]:=List.drop_length;exact .inr (by rw[hd];exact stop g hg)
def Et {fn:Fns} {N:Nat} {J:List PV} {id:Nat} {init:List E} {body:T} {K:Type} (l:List K) (st:Nat->List PV) (f:Nat->List K->Out)
  (h0:E.evs J init=some (st 0)) (hN:l.length<N)
  (step:∀i c r,l.drop i=c::r->i<l.length->l[i]? =some c->
   (body.ev fn N (J++st i)=some (.yld id (st (i+1)))∧f (i+1) r=f i (c::r))∨(body.ev fn N (J++st i)=some (f i (c::r))∧(f i (c::r)).goes id=false))
  (stop:body.ev fn N (J++st l.length)=some (f l.length [])∧(f l.length []).goes id=false):
  (T.loop id init body).ev fn N J=some (f 0 l):=
 Dh (γ:=Unit) l (fun i _=>st i) (fun i _ r=>f i r) (fun _ _=>True) () h0 trivial hN (fun i _ c r h1 h2 h3 _=>by
  rcases step i c r h1 h2 h3 with⟨a,b⟩|h
  .exact .inl ⟨(),a,trivial,b⟩
  .exact .inr h) (fun _ _=>stop)
def w64 {x:Int} (h1: -9223372036854775808<=x) (h2:x<=9223372036854775807):IntKind.i64.wrap x=x:=IntWalk.i64_in x ⟨h1,h2⟩
def w8 {x:Int} (h1:0<=x) (h2:x<=255):IntKind.u8.wrap x=x:=IntWalk.u8_in x ⟨h1,h2⟩
def Gn4 {x:Int} (h1:0<=x) (h2:x<=18446744073709551615):IntKind.u64.wrap x=x:=by simp[IntKind.wrap,IntKind.bits,IntKind.signed];omega
def Kn1 {p:Prop} [Decidable p] (h:p):decide p=true:=decide_eq_true h
def Kn2 {p:Prop} [Decidable p] (h:¬p):decide p=false:=decide_eq_false h
def Iy0 (k:IntKind) (x y:Int):X.bin .add (.i k x) (.i k y)=some (.i k (k.wrap (x+y))):=by simp[X.bin,Hp]
def Iw9 (k:IntKind) (x y:Int):X.bin .sub (.i k x) (.i k y)=some (.i k (k.wrap (x - y))):=by simp[X.bin,Hp]
def Ix4 (k:IntKind) (x y:Int):X.bin .mul (.i k x) (.i k y)=some (.i k (k.wrap (x*y))):=by simp[X.bin,Hp]
def Ix2 (k:IntKind) (x y:Int):X.bin .quo (.i k x) (.i k y)=if y=0 then none else some (.i k (k.wrap (x.tdiv y))):=by simp[X.bin,Hp]
def Ix1 (k:IntKind) (x y:Int):X.bin .rem (.i k x) (.i k y)=if y=0 then none else some (.i k (x.tmod y)):=by simp[X.bin,Hp]
def Jc5 (k:IntKind) (x y:Int) (h:0<=x) (h':0<y):X.bin .quo (.i k x) (.i k y)=some (.i k (k.wrap (x / y))):=by rw[Ix2,if_neg (by omega),Int.tdiv_eq_ediv_of_nonneg h]
def Jc4 (k:IntKind) (x y:Int) (h:0<=x) (h':0<y):X.bin .rem (.i k x) (.i k y)=some (.i k (x % y)):=by rw[Ix1,if_neg (by omega),Int.tmod_eq_emod_of_nonneg h]
def Qh (k:IntKind) (x y:Int):X.bin .and (.i k x) (.i k y)=some (.i k (k.wrap (BitVec.ofInt k.bits x &&& BitVec.ofInt k.bits y).toNat)):=by simp[X.bin,Hp]
def Hv5 (k:IntKind) (x y:Int):X.bin .or (.i k x) (.i k y)=some (.i k (k.wrap (BitVec.ofInt k.bits x|||BitVec.ofInt k.bits y).toNat)):=by simp[X.bin,Hp]
def Ej (k:IntKind) (x y:Int):X.bin .andNot (.i k x) (.i k y)=some (.i k (k.wrap (BitVec.ofInt k.bits x &&& ~~~ BitVec.ofInt k.bits y).toNat)):=by simp[X.bin,Hp]
def Ix9 (k:IntKind) (x y:Int):X.bin .eql (.i k x) (.i k y)=some (.b (decide (x=y))):=by simp[X.bin,Hp];rfl
def Ix3 (k:IntKind) (x y:Int):X.bin .neq (.i k x) (.i k y)=some (.b (decide (x≠y))):=by simp[X.bin,Hp];by_cases h:x=y<;>simp[h]
def Ix5 (k:IntKind) (x y:Int):X.bin .lss (.i k x) (.i k y)=some (.b (decide (x<y))):=by simp[X.bin,Hp]
def Ix6 (k:IntKind) (x y:Int):X.bin .leq (.i k x) (.i k y)=some (.b (decide (x<=y))):=by simp[X.bin,Hp]
def Ix7 (k:IntKind) (x y:Int):X.bin .gtr (.i k x) (.i k y)=some (.b (decide (y<x))):=by simp[X.bin,Hp]
def Ix8 (k:IntKind) (x y:Int):X.bin .geq (.i k x) (.i k y)=some (.b (decide (y<=x))):=by simp[X.bin,Hp]
def Bq6 (k k':IntKind) (x y:Int):X.bin .shl (.i k x) (.i k' y)=if y<0 then none else some (.i k (k.wrap (x*2 ^ (min y.toNat k.bits)))):=by simp[X.bin,Rs]
def Ix0 (k k':IntKind) (x y:Int):X.bin .shr (.i k x) (.i k' y)=if y<0 then none else some (.i k (x.fdiv (2 ^ (min y.toNat k.bits)))):=by simp[X.bin,Rs]
def Ag5 (k k':IntKind) (x:Int) (t:Nat) (h:t<k.bits):X.bin .shr (.i k x) (.i k' (t:Int))=some (.i k (x / 2 ^ t)):=by
 rw[Ix0,if_neg (by omega)];congr 2;have:min ((t:Int)).toNat k.bits=t:=by simp;omega
 rw[this,Int.fdiv_eq_ediv_of_nonneg];exact Int.le_of_lt (Int.pow_pos (by decide))
def Gh5 (x y:List UInt8) (h:x.length+y.length<=9223372036854775807):X.bin .add (.s x) (.s y)=some (.s (x++y)):=by simp only[X.bin,mc];rw[if_neg];simp[IntKind.max,IntKind.bits,IntKind.signed];omega
def Gh4 (x y:List UInt8):X.bin .eql (.s x) (.s y)=some (.b (decide (x=y))):=by simp only[X.bin,mc];by_cases h:x=y<;>simp[h]
def Gh1 (x y:List UInt8):X.bin .neq (.s x) (.s y)=some (.b (decide (x≠y))):=by simp only[X.bin,mc];by_cases h:x=y<;>simp[h]
def Gh2 (x y:List UInt8):X.bin .lss (.s x) (.s y)=some (.b (Op.bytesLess x y)):=rfl
def Gh3 (x y:List UInt8):X.bin .gtr (.s x) (.s y)=some (.b (!(Op.bytesLess x y||x==y))):=rfl
def Il5 (x:Bool):X.un .not (.b x)=some (.b (!x)):=rfl
def Hr4 (p:Prop) [Decidable p]:(!decide p)=decide (¬p):=by by_cases h:p<;>simp[h]
def Yn (sz:Nat) (xs:List PV) (k:IntKind) (z:Int) (h:0<=z):H3 sz (.l sz xs) (.i k z)=xs[z.toNat]? :=by simp[H3,h]
def Kl4 (sz:Nat) (xs:List PV):Hj (.l sz xs)=some (.i .i64 (xs.length:Int)):=rfl
def Im7 (x:List UInt8):jc (.s x)=some (.i .i64 (x.length:Int)):=rfl
def Im9 (x:List UInt8) (k:IntKind) (n:Int) (h:0<=n):yq (.s x) (.i k n)=(x[n.toNat]?).map fun c=> .i .u8 (c.toNat:Int):=by simp[yq,h]
def Im4 (x:List UInt8) (k k':IntKind) (a b:Int) (h1:0<=a) (h2:a<=b) (h3:b<=(x.length:Int)):Cx5 (.s x) (.i k a) (.i k' b)=some (.s ((x.take b.toNat).drop a.toNat)):=by simp[Cx5,h1,h2,h3]
def Ef2 (sz:Nat) (x:List PV) (k k':IntKind) (a b:Int) (h1:0<=a) (h2:a<=b) (h3:b<=(x.length:Int)):Jx sz (.l sz x) (.i k a) (.i k' b)=some (.l sz ((x.take b.toNat).drop a.toNat)):=by simp[Jx,h1,h2,h3]
def V5 (sz:Nat) (xs ys:List PV) (h:xs.length+ys.length<=1073741824):Jz sz (.l sz xs) (.l sz ys)=some (.l sz (xs++ys)):=by simp[Jz,LIM,h]
def Jr0 (sz:Nat) (xs:List PV) (y:PV) (h:xs.length+1<=1073741824):Jz sz (.l sz xs) (.l sz [y])=some (.l sz (xs++[y])):=V5 sz xs [y] h
def Ht2 (sz:Nat):L4 sz []=some (.l sz []):=rfl
def In4 (x:List UInt8):J8 (.s x)=some (.s x):=rfl
def In6 (k:IntKind) (x:Int):J8 (.i k x)=some (.i k x):=rfl
def In8 (x:Bool):J8 (.b x)=some (.b x):=rfl
def In5 (sz:Nat) (x:List PV):J8 (.l sz x)=some (.l sz x):=rfl
def Kl2 (x:List UInt8):L4 1 [.s x]=some (.l 1 [.s x]):=rfl
def Jc7 (x:List UInt8):Dj 0 (.s x)=some (.s x):=rfl
def Jc8 (k:IntKind) (x:Int):Dj 0 (.i k x)=some (.i k x):=rfl
def Jd0 (j:Nat) (cs:List PV):Dj j (.a cs)=cs[j]? :=rfl
def Kl0 (k:IntKind) (x y:Int) (h:x<=y):Gy2 (.i k x) (.i k y)=some (.i k x):=by simp only[Gy2,if_true];rw[if_neg (by omega)]
def Kl1 (k:IntKind) (x y:Int) (h:y<x):Gy2 (.i k x) (.i k y)=some (.i k y):=by simp only[Gy2,if_true];rw[if_pos h]
def Kh9 (k:IntKind) (x y:Int) (h:y<=x):Hs0 (.i k x) (.i k y)=some (.i k x):=by simp only[Hs0,if_true];rw[if_neg (by omega)]
def Kh8 (k:IntKind) (x y:Int) (h:x<y):Hs0 (.i k x) (.i k y)=some (.i k y):=by simp only[Hs0,if_true];rw[if_pos (by omega)]
def Jp3 (k k':IntKind) (x:Int):Bt7 k (.i k' x)=some (.i k (k.wrap x)):=rfl
def Il8 (n:Nat):((n:Int)).toNat=n:=Ef n
def Qm (x:List UInt8):Fc2 (.l 1 (Dl x))=some (.s x):=by
 have:∀x:List UInt8,(x.map fun c=>PV.i .u8 (c.toNat:Int)).mapM byteOf? =some x:=by
  intro x
  induction x with
  |nil=>rfl
  |cons c r ih=>
   have hc:=c.toNat_lt;have h1:byteOf? (PV.i .u8 (c.toNat:Int))=some c:=by simp only[byteOf?];rw[if_pos (by omega)];simp
   simp[Lt,h1,ih]
 simp[Fc2,Dl,this]
def Kg4 (x:List UInt8) (h:x.length<=1073741824):Dp7 (.s x)=some (.l 1 (Dl x)):=by simp[Dp7,LIM,h]
def Xn (x:List UInt8) (c:UInt8):Dl x++[.i .u8 (c.toNat:Int)]=Dl (x++[c]):=by simp[Dl]
def Qg (x:List UInt8):(Dl x).length=x.length:=by simp[Dl]
def Kl3 (k:IntKind) (x:Int):L4 1 [.i k x]=some (.l 1 [.i k x]):=rfl
def Jm9 (x y:Bool):Pq false false [.b] (.b x) (.b y)=some (.b (x==y)):=by simp[Pq,PV.scal,I3,Fh8]
def Jf9 (x y:Bool):Pq true false [.b] (.b x) (.b y)=some (.b (!(x==y))):=by simp[Pq,PV.scal,I3,Fh8]
def der_pt (cs:List PV):Cm6 (.pt cs)=some (.a cs):=by simp only[Cm6]
def scal_pt (cs:List PV):J8 (.pt cs)=some (.pt cs):=by simp[J8,PV.scal]
def Ij2 (x y:PV):W9 2 (.a [x,y])=some (.a [x,y]):=rfl
def Jh7 (x:Bool):PV.flat (.b x)=true:=rfl
def Jh6 (k:IntKind) (x:Int):PV.flat (.i k x)=true:=rfl
def Jh4 (x:List UInt8):PV.flat (.s x)=true:=rfl
def Jc3 (J:List PV) (x:PV):results false 1 J (some [x])=some (J++[x]):=rfl
def Jc2 (J:List PV) (x y:PV):results false 2 J (some [x,y])=some (J++[x,y]):=rfl
def Jc1 (J:List PV) (x y z:PV):results false 3 J (some [x,y,z])=some (J++[x,y,z]):=rfl
def Jc0 (J:List PV):results true 0 J (some [])=some (J++[]):=rfl
def Jb9 (J:List PV) (x:PV):results true 1 J (some [x])=if x.flat=true then some (J++[x]) else none:=by simp[results,PV.flat.flats]
def Jb8 (J:List PV) (x y:PV):results true 2 J (some [x,y])=if x.flat=true then(if y.flat=true then some (J++[x,y]) else none) else none:=by simp only[results,B3,PV.flat.flats];by_cases h:x.flat=true<;>by_cases h':y.flat=true<;>simp[h,h']
def Fm8 (c:UInt8) (k:Nat) (hk:k<256):((c.toNat:Int)=(k:Int))↔c=UInt8.ofNat k:=by
 constructor
 .intro h;have h':c.toNat=k:=by omega
  rw[<-h'];simp
 .rintro rfl;simp;omega
end Go.X
namespace Go.X
open Go
def Hm6 {o:Option T} {t:T} (h:o.map T.slim=some t):∃t0,o=some t0∧t0.slim=t:=B0.1 h
def FOK (P:Program) (sig:Nat->Option Nat) (f:Nat) (ft:FT):Prop:=
 ∃ func H, P.funcs[f]? = some func ∧ (func.name == "runtime.NumGoroutine") = false ∧ Cp2 sig f func = ft.np ∧ func.params.size < TAG ∧ func.nfree = ft.nf ∧ ∃ t, Fh1 P sig f func H = some t ∧ t.slim = ft.t
def Kp7 (P:Program) (sig:Nat->Option Nat) (f a b:Nat) (H:Hints):Option T:=
 match P.funcs[f]? with
 |none=>none
 | some fu => if (fu.name == "runtime.NumGoroutine") = false ∧ Cp2 sig f fu = a ∧ fu.params.size < TAG ∧ fu.nfree = b then (Fh1 P sig f fu H).map T.slim else none
def fok {P:Program} {sig:Nat->Option Nat} {f a b:Nat} {t:T} (H:Hints) (h:Kp7 P sig f a b H=some t:=by kernel_rfl):FOK P sig f ⟨a,b,t⟩:=by
 unfold Kp7 at h;split at h
 .exact nomatch h
 .next fu hf=>
  split at h
  .next hc=>
   obtain⟨t0,h1,h2⟩:=Hm6 h;exact⟨fu,H,hf,hc.1,hc.2.1,hc.2.2.1,hc.2.2.2,t0,h1,h2⟩
  .exact nomatch h
def lkF:List (Nat×FT)->Nat->Option FT
 |[],_=>none
 |(k,t)::r,f=>if k=f then some t else lkF r f
def ms (P:Program) (sig:Nat->Option Nat):List (Nat×FT)->Prop
 |[]=>True
 |p::r=>FOK P sig p.1 p.2∧ms P sig r
def Jr7 (P:Program):List (Nat×Nat)->Prop
 |[]=>True
 |p::r=>(match Fb3 (some p.2) with|some (T,k)=>Fh0 P p.1 T k|none=>True)∧Jr7 P r
def Fb2 {P:Program}:∀{l:List (Nat×Nat)},Jr7 P l->Jt7 P (Ef5 l)
 |[],_=>fun f T k h=>by simp[Ef5,Fb3] at h
 |p::r,hl=>fun f T k h=>by
  simp only[Ef5] at h;split at h
  .rename_i e;subst e;have:=hl.1;rw[h] at this;exact this
  .exact Fb2 hl.2 f T k h
def Gh0 {P:Program}:Jr7 P []:=trivial
def G0 {P:Program} {p:Nat×Nat} {r:List (Nat×Nat)} (h:Fb3 (some p.2)=none) (hr:Jr7 P r):Jr7 P (p::r):=⟨by rw[h];trivial,hr⟩
def Dq9 {P : Program} {sig : Nat → Option Nat} : ∀ (l : List (Nat × FT)), ms P sig l → ∀ f ft, lkF l f = some ft → ∃ func H, P.funcs[f]? = some func ∧ (func.name == "runtime.NumGoroutine") = false ∧ Cp2 sig f func = ft.np ∧ func.params.size < TAG ∧ func.nfree = ft.nf ∧ ∃ t, Fh1 P sig f func H = some t ∧ t.slim = ft.t
 |[],_=>fun f ft h=>by simp[lkF] at h
 |(k,t)::r,hl=>fun f ft h=>by
  simp only[lkF] at h;split at h
  .rename_i e;injection h with h;subst h;subst e;exact hl.1
  .exact Dq9 r hl.2 f ft h
def Im0 {P:Program} {sig:Nat->Option Nat} (l:List (Nat×FT)) (h:ms P sig l) (hB:Jt7 P sig):Tab P sig (lkF l):=⟨Dq9 l h,hB⟩
end Go.X
namespace Go.X
def Ah5 {D K:Type} (a:D) (f:D->Option K):(some a).bind f=f a:=by rw[B3]
def Ah6 {D K:Type} (f:D->Option K):(none:Option D).bind f=none:=by rw[Option.bind_none]
def Cz6 {D K:Type} (a:D) (f:D->K):(some a).map f=some (f a):=by rw[Cf]
def Cz7 {D K:Type} (f:D->K):(none:Option D).map f=none:=by rw[Option.map_none]
def o5 {D:Type} (a:D) (l m:List D):(a::l)++m=a::(l++m):=by rw[Dn]
def ym {D:Type} (m:List D):[]++m=m:=by rw[C8]
def Cb0 {D:Type} (a:D) (l:List D) (i:Nat):(a::l)[i+1]? =l[i]? :=by rw[Fg]
def Cz9 {D:Type} (a:D) (l:List D):(a::l)[0]? =some a:=by rw[D2]
def Cz8 {D:Type} (a:D) (l:List D):(a::l).length=l.length+1:=by rw[B9]
def Ds7 {D:Type}:([]:List D).length=0:=by rw[C1]
def Cz5 {D:Type} (a:D) (n:Nat):List.replicate (n+1) a=a::List.replicate n a:=by rw[List.replicate_succ]
def Cz4 {D:Type} (a:D):List.replicate 0 a=[]:=by rw[List.replicate_zero]
def Ds9 {D K:Type} (f:D->K) (l:List D) (i:Nat):(l.map f)[i]? =l[i]?.map f:=by rw[Dq]
def Ds8 {D K:Type} (f:D->K) (l:List D):(l.map f).length=l.length:=by rw[Dt]
set_option linter.defProp false
def EV:=(And.intro @Ah5 (And.intro @Cz6 (And.intro @Ah6 (And.intro @Cz7 (And.intro @o5 (And.intro @ym (And.intro @Cb0 (And.intro @Cz9 (And.intro @On (And.intro @Bool.not_false (And.intro @Cz8 (And.intro @Ds7 (And.intro @Cz5 (And.intro @Cz4 (And.intro @Ds9 (And.intro @Ds8 (And.intro @Bool.if_true_left (And.intro @Bool.if_false_right (And.intro @Bool.decide_eq_true (And.intro @Int.natCast_add (And.intro @Int.cast_ofNat_Int (And.intro @Gg (And.intro @decide_eq_true_eq (And.intro @B5 (And.intro @decide_true (And.intro @decide_false (And.intro @Kl8 (And.intro @Km2 (And.intro @Jm3 (And.intro @Kl9 (And.intro @Jl8 (And.intro @Ik4 (And.intro @Jl1 (And.intro @Jm6 (And.intro @Jm0 (And.intro @Ik3 (And.intro @Jl9 (And.intro @ev_len (And.intro @Ik1 (And.intro @Ik2 (And.intro @Jl2 (And.intro @Jl6 (And.intro @Jm5 (And.intro @Jl7 (And.intro @Jl5 (And.intro @Jl3 (And.intro @Ik7 (And.intro @Jm4 (And.intro @Jl4 (And.intro @Jm1 (And.intro @Jm2 (And.intro @Km1 (And.intro @Km0 (And.intro @Ik6 (And.intro @Ik5 (And.intro @Ar4 (And.intro @rq (And.intro @Gg9 (And.intro @Fz7 (And.intro @Kn7 (And.intro @Hy2 (And.intro @Fn1 (And.intro @Dq8 (And.intro @Dq3 (And.intro @Cn7 (And.intro @At7 (And.intro @Iw5 (And.intro @Hy1 (And.intro @Jh3 (And.intro @Hy0 (And.intro @Gg8 (And.intro @Fz6 (And.intro @Kn6 (And.intro @Hx9 (And.intro @Hx8 (And.intro @Hy3 (And.intro @Fd7 (And.intro @Iy5 (And.intro @Iy4 (And.intro @w64 (And.intro @w8 (And.intro @Gn4 (And.intro @Jc5 (And.intro @Jc4 (And.intro @Kn1 (And.intro @Kn2 (And.intro @Iy0 (And.intro @Iw9 (And.intro @Ix4 (And.intro @Ix9 (And.intro @Ix3 (And.intro @Ix5 (And.intro @Ix6 (And.intro @Ix7 (And.intro @Ix8 (And.intro @Gh5 (And.intro @Gh4 (And.intro @Gh1 (And.intro @Gh2 (And.intro @Gh3 (And.intro @Il5 (And.intro @Hr4 (And.intro @Yn (And.intro @Kl4 (And.intro @Im7 (And.intro @Im9 (And.intro @Im4 (And.intro @Ef2 (And.intro @Jr0 (And.intro @V5 (And.intro @Ht2 (And.intro @Kl2 (And.intro @Kl3 (And.intro @Qm (And.intro @Kg4 (And.intro @In4 (And.intro @In6 (And.intro @In8 (And.intro @In5 (And.intro @Jc7 (And.intro @Jc8 (And.intro @Jd0 (And.intro @Kl0 (And.intro @Kl1 (And.intro @Kh9 (And.intro @Kh8 (And.intro @Jm9 (And.intro @Jf9 (And.intro @Ij2 (And.intro @Jp3 (And.intro @Il8 (And.intro @Jh7 (And.intro @Jh6 (And.intro @Jh4 (And.intro @Jc3 (And.intro @Jc2 (And.intro @Jc1 (And.intro @Jc0 (And.intro @Jb9 (And.intro @Jb8 (And.intro @Gb6 (And.intro @Gb5 (And.intro @Er8 (And.intro @Jh1 (And.intro @Jh0 (And.intro @Jg9 (And.intro @if_true.{1} (And.intro @if_false.{1} (And.intro @ne_eq.{1} (And.intro @not_true (And.intro @not_false_eq_true @Bool.true_eq_false)))))))))))))))))))))))))))))))))))))))))))))))))))))))))))))))))))))))))))))))))))))))))))))))))))))))))))))))))))))))))))))))))))))))))))))))))))))))
end Go.X
namespace Go.X
def ch2 (a0 a1:Bool):(a0=false)∨(a0=true∧a1=false)∨(a0=true∧a1=true):=by cases a0<;>cases a1<;>simp
def ch3 (a0 a1 a2:Bool):(a0=false)∨(a0=true∧a1=false)∨(a0=true∧a1=true∧a2=false)∨(a0=true∧a1=true∧a2=true):=by cases a0<;>cases a1<;>cases a2<;>simp
def ch4 (a0 a1 a2 a3:Bool):(a0=false)∨(a0=true∧a1=false)∨(a0=true∧a1=true∧a2=false)∨(a0=true∧a1=true∧a2=true∧a3=false)∨(a0=true∧a1=true∧a2=true∧a3=true):=by cases a0<;>cases a1<;>cases a2<;>cases a3<;>simp
def ch5 (a0 a1 a2 a3 a4:Bool):(a0=false)∨(a0=true∧a1=false)∨(a0=true∧a1=true∧a2=false)∨(a0=true∧a1=true∧a2=true∧a3=false)∨(a0=true∧a1=true∧a2=true∧a3=true∧a4=false)∨(a0=true∧a1=true∧a2=true∧a3=true∧a4=true):=by cases a0<;>cases a1<;>cases a2<;>cases a3<;>cases a4<;>simp
def ch6 (a0 a1 a2 a3 a4 a5:Bool):(a0=false)∨(a0=true∧a1=false)∨(a0=true∧a1=true∧a2=false)∨(a0=true∧a1=true∧a2=true∧a3=false)∨(a0=true∧a1=true∧a2=true∧a3=true∧a4=false)∨(a0=true∧a1=true∧a2=true∧a3=true∧a4=true∧a5=false)∨(a0=true∧a1=true∧a2=true∧a3=true∧a4=true∧a5=true):=by
 cases a0
 .exact .inl rfl
 .rcases ch5 a1 a2 a3 a4 a5 with h|h|h|h|h|h
  .exact .inr (.inl ⟨rfl,h⟩)
  .exact .inr (.inr (.inl ⟨rfl,h⟩))
  .exact .inr (.inr (.inr (.inl ⟨rfl,h⟩)))
  .exact .inr (.inr (.inr (.inr (.inl ⟨rfl,h⟩))))
  .exact .inr (.inr (.inr (.inr (.inr (.inl ⟨rfl,h⟩)))))
  .exact .inr (.inr (.inr (.inr (.inr (.inr (⟨rfl,h⟩))))))
def ch7 (a0 a1 a2 a3 a4 a5 a6:Bool):(a0=false)∨(a0=true∧a1=false)∨(a0=true∧a1=true∧a2=false)∨(a0=true∧a1=true∧a2=true∧a3=false)∨(a0=true∧a1=true∧a2=true∧a3=true∧a4=false)∨(a0=true∧a1=true∧a2=true∧a3=true∧a4=true∧a5=false)∨(a0=true∧a1=true∧a2=true∧a3=true∧a4=true∧a5=true∧a6=false)∨(a0=true∧a1=true∧a2=true∧a3=true∧a4=true∧a5=true∧a6=true):=by
 cases a0
 .exact .inl rfl
 .rcases ch6 a1 a2 a3 a4 a5 a6 with h|h|h|h|h|h|h
  .exact .inr (.inl ⟨rfl,h⟩)
  .exact .inr (.inr (.inl ⟨rfl,h⟩))
  .exact .inr (.inr (.inr (.inl ⟨rfl,h⟩)))
  .exact .inr (.inr (.inr (.inr (.inl ⟨rfl,h⟩))))
  .exact .inr (.inr (.inr (.inr (.inr (.inl ⟨rfl,h⟩)))))
  .exact .inr (.inr (.inr (.inr (.inr (.inr (.inl ⟨rfl,h⟩))))))
  .exact .inr (.inr (.inr (.inr (.inr (.inr (.inr (⟨rfl,h⟩)))))))
def ch8 (a0 a1 a2 a3 a4 a5 a6 a7:Bool):(a0=false)∨(a0=true∧a1=false)∨(a0=true∧a1=true∧a2=false)∨(a0=true∧a1=true∧a2=true∧a3=false)∨(a0=true∧a1=true∧a2=true∧a3=true∧a4=false)∨(a0=true∧a1=true∧a2=true∧a3=true∧a4=true∧a5=false)∨(a0=true∧a1=true∧a2=true∧a3=true∧a4=true∧a5=true∧a6=false)∨(a0=true∧a1=true∧a2=true∧a3=true∧a4=true∧a5=true∧a6=true∧a7=false)∨(a0=true∧a1=true∧a2=true∧a3=true∧a4=true∧a5=true∧a6=true∧a7=true):=by
 cases a0
 .exact .inl rfl
 .rcases ch7 a1 a2 a3 a4 a5 a6 a7 with h|h|h|h|h|h|h|h
  .exact .inr (.inl ⟨rfl,h⟩)
  .exact .inr (.inr (.inl ⟨rfl,h⟩))
  .exact .inr (.inr (.inr (.inl ⟨rfl,h⟩)))
  .exact .inr (.inr (.inr (.inr (.inl ⟨rfl,h⟩))))
  .exact .inr (.inr (.inr (.inr (.inr (.inl ⟨rfl,h⟩)))))
  .exact .inr (.inr (.inr (.inr (.inr (.inr (.inl ⟨rfl,h⟩))))))
  .exact .inr (.inr (.inr (.inr (.inr (.inr (.inr (.inl ⟨rfl,h⟩)))))))
  .exact .inr (.inr (.inr (.inr (.inr (.inr (.inr (.inr (⟨rfl,h⟩))))))))
def ch9 (a0 a1 a2 a3 a4 a5 a6 a7 a8:Bool):(a0=false)∨(a0=true∧a1=false)∨(a0=true∧a1=true∧a2=false)∨(a0=true∧a1=true∧a2=true∧a3=false)∨(a0=true∧a1=true∧a2=true∧a3=true∧a4=false)∨(a0=true∧a1=true∧a2=true∧a3=true∧a4=true∧a5=false)∨(a0=true∧a1=true∧a2=true∧a3=true∧a4=true∧a5=true∧a6=false)∨(a0=true∧a1=true∧a2=true∧a3=true∧a4=true∧a5=true∧a6=true∧a7=false)∨(a0=true∧a1=true∧a2=true∧a3=true∧a4=true∧a5=true∧a6=true∧a7=true∧a8=false)∨(a0=true∧a1=true∧a2=true∧a3=true∧a4=true∧a5=true∧a6=true∧a7=true∧a8=true):=by
 cases a0
 .exact .inl rfl
 .rcases ch8 a1 a2 a3 a4 a5 a6 a7 a8 with h|h|h|h|h|h|h|h|h
  .exact .inr (.inl ⟨rfl,h⟩)
  .exact .inr (.inr (.inl ⟨rfl,h⟩))
  .exact .inr (.inr (.inr (.inl ⟨rfl,h⟩)))
  .exact .inr (.inr (.inr (.inr (.inl ⟨rfl,h⟩))))
  .exact .inr (.inr (.inr (.inr (.inr (.inl ⟨rfl,h⟩)))))
  .exact .inr (.inr (.inr (.inr (.inr (.inr (.inl ⟨rfl,h⟩))))))
  .exact .inr (.inr (.inr (.inr (.inr (.inr (.inr (.inl ⟨rfl,h⟩)))))))
  .exact .inr (.inr (.inr (.inr (.inr (.inr (.inr (.inr (.inl ⟨rfl,h⟩))))))))
  .exact .inr (.inr (.inr (.inr (.inr (.inr (.inr (.inr (.inr (⟨rfl,h⟩)))))))))
end Go.X
