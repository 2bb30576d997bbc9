/- What comes in: the readings of a row's arguments as plain values. -/
import Derived.Test.YtafdmaddhbcppaaGreatDoorProveDenialsG4
import GoSem.ClaimChange
import Derived.WideShapes
import Derived.ChangeShapes
import Derived.OpenShut
import Derived.Carry
import Derived.SizedLaws
import Derived.IntWalk
open Array renaming getElem?_toList→B8,length_toList→Dz
open Bool renaming and_eq_true→Br,false_eq_true→B5,not_true→Nm
open Int renaming toNat_natCast→Ec
open List renaming getElem?_eq_some_iff→Bp,getElem?_eq_getElem→Bs,length_append→B0,length_cons→Cj,length_nil→C2,getElem?_map→C3,getD_eq_getElem?_getD→C9,take_append_drop→Dq,nil_append→Dw,drop_eq_getElem_cons→Df,cons_append→Dl,getElem?_cons_zero→Dn,getElem?_range→D1,length_map→D2,drop_drop→Ew,getElem?_of_mem→E2,getElem?_cons_succ→E6,drop_eq_nil_of_le→Hh,mapM_cons→Lx,length_range→Ar2
open Nat renaming zero_le→Dy,add_mul→Ds,add_zero→Fj,mod_eq_of_lt→Fz,zero_add→F9,one_mul→Gp
open Option renaming bind_eq_some_iff→Bl,map_eq_some_iff→Bt,bind_some→B3,map_some→Cd,bind_eq_bind→W7,isSome_none→jk,pure_def→pk
open Option.some renaming injEq→Bn
set_option maxHeartbeats 1000000
set_option linter.defProp false
set_option linter.unusedVariables false
set_option linter.unusedSimpArgs false
namespace Go.X
open Go
inductive Sh where
 |b|i (k:IntKind)|s
 |l (e:Sh)
 |st (fs:List Sh)
 deriving Inhabited
mutual
def Sh.size:Sh→Nat
 | .st fs=>Sh.sizes fs
 |_=>1
def Sh.sizes:List Sh→Nat
 |[]=>0
 |f::fs=>f.size+Sh.sizes fs
end
def Sh.agg:Sh→Bool
 | .st _=>true
 |_=>false
mutual
def Sh.okC:Sh→List PV→Prop
 | .b,cs=>∃x,cs=[.b x]
 | .i k,cs=>∃n,cs=[.i k n]∧k.min≤n∧n≤k.max
 | .s,cs=>∃x,cs=[.s x]∧x.length≤maxLen
 | .l e,cs=>∃xs,cs=[.l e.size xs]∧xs.length≤maxLen∧∀x,x∈xs→if e.agg then∃ds,x= .a ds∧e.okC ds else x.scal=true∧e.okC [x]
 | .st fs,cs=>Sh.okCs fs cs
def Sh.okCs:List Sh→List PV→Prop
 |[],cs=>cs=[]
 |f::fs,cs=>∃a b,cs=a++b∧f.okC a∧Sh.okCs fs b
end
def Sh.ok (sh:Sh) (p:PV):Prop:=if sh.agg then∃ds,p= .a ds∧sh.okC ds else p.scal=true∧sh.okC [p]
mutual
def Sh.okC_len:∀(sh:Sh) (cs:List PV),sh.okC cs→cs.length=sh.size
 | .b,cs,h=>by simp only[Sh.okC] at h;obtain⟨x,rfl⟩:=h;rfl
 | .i k,cs,h=>by simp only[Sh.okC] at h;obtain⟨n,rfl,_⟩:=h;rfl
 | .s,cs,h=>by simp only[Sh.okC] at h;obtain⟨x,rfl,_⟩:=h;rfl
 | .l e,cs,h=>by simp only[Sh.okC] at h;obtain⟨x,rfl,_⟩:=h;rfl
 | .st fs,cs,h=>by simp only[Sh.okC] at h;simp only[Sh.size];exact Sh.okCs_len fs cs h
def Sh.okCs_len:∀(fs:List Sh) (cs:List PV),Sh.okCs fs cs→cs.length=Sh.sizes fs
 |[],cs,h=>by simp only[Sh.okCs] at h;subst h;rfl
 |f::fs,cs,h=>by simp only[Sh.okCs] at h;obtain⟨a,b,rfl,h1,h2⟩:=h;rw[B0,Sh.okC_len f a h1,Sh.okCs_len fs b h2];rfl
end
def Sr (P:Program) (f:TypeId→Option Sh):List Field→Nat→Option (List Sh)
 |[],_=>some []
 |x::fs,off=>if x.offset=off then match f x.type with
  |some sh=>if P.cellsOf x.type=sh.size then(Sr P f fs (off+sh.size)).map (sh::·) else none
  |none=>none
  else none
def Ct0 (P:Program):Nat→TypeId→Option Sh
 |0,_=>none
 |d+1,t=>match P.underlying t with
  |some .bool=>some .b
  |some (.int k)=>some (.i k)
  |some .string=>some .s
  |some (.slice e)=>match Ct0 P d e with
   |some sh=>if P.cellsOf e=sh.size then some (.l sh) else none
   |none=>none
  |some (.struct fs)=>match Sr P (Ct0 P d) fs.toList 0 with
   |some shs=>if P.cellsOf t=Sh.sizes shs then some (.st shs) else none
   |none=>none
  |some (.array n e)=>match Ct0 P d e with
   |some sh=>if P.cellsOf e=sh.size then(if P.cellsOf t=n*sh.size then some (.st (List.replicate n sh)) else none) else none
   |none=>none
  |_=>none
def l9 {α β:Type} {f:α→Option β}:∀{l:List α} {ys:List β},l.mapM f=some ys→ys.length=l.length∧∀(i:Nat) (x:α) (y:β),l[i]? =some x→ys[i]? =some y→f x=some y
 |[],ys,h=>by simp at h;subst h;exact⟨rfl,fun i x y hx=>by simp at hx⟩
 |x::l,ys,h=>by
  simp only[Lx,W7,Bl,pk,Bn] at h;obtain⟨y,hy,r,hr,rfl⟩:=h;obtain⟨h1,h2⟩:=l9 hr;refine⟨by simp[h1],fun i a b ha hb=> ?_⟩;cases i with
  |zero=>simp at ha hb;subst ha;subst hb;exact hy
  |succ i=>exact h2 i a b (by simpa using ha) (by simpa using hb)
def U5 (agg:Bool) (cs:List PV):PV:=if agg then .a cs else cs.headD .u
abbrev Z1:Nat→Option Nat:=fun _=>none
def z7 (M:Vw) (pcs:List PV) (cs:List Value):Prop:=pcs.length=cs.length∧∀(j:Nat) (p:PV) (v:Value),pcs[j]? =some p→cs[j]? =some v→One v∧Rep M p v
def z7.append {M:Vw} {p q:List PV} {c d:List Value} (h:z7 M p c) (h':z7 M q d):z7 M (p++q) (c++d):=by
 refine⟨by simp[h.1,h'.1],fun j x v hx hv=> ?_⟩;rw[List.getElem?_append] at hx hv;rw[h.1] at hx;split at hx
 ·rename_i hj;rw[if_pos hj] at hv;exact h.2 j x v hx hv
 ·rename_i hj;rw[if_neg hj] at hv;exact h'.2 _ x v hx hv
def z7.one {M:Vw} {p:PV} {v:Value} (h1:One v) (h:Rep M p v):z7 M [p] [v]:=
 ⟨rfl,fun j q u hq hu=>by cases j with
  |zero=>simp at hq hu;subst hq;subst hu;exact⟨h1,h⟩
  |succ j=>simp at hq⟩
def ln {e:Sh} (he:e.agg=false) {cs:List PV} (h:e.okC cs):∃p,cs=[p]∧p.scal=true:=by
 cases e with
 |b=>simp only[Sh.okC] at h;obtain⟨x,rfl⟩:=h;exact⟨_,rfl,rfl⟩
 |i k=>simp only[Sh.okC] at h;obtain⟨n,rfl,_⟩:=h;exact⟨_,rfl,rfl⟩
 |s=>simp only[Sh.okC] at h;obtain⟨n,rfl,_⟩:=h;exact⟨_,rfl,rfl⟩
 |l e=>simp only[Sh.okC] at h;obtain⟨n,rfl,_⟩:=h;exact⟨_,rfl,rfl⟩
 |st fs=>simp[Sh.agg] at he
def lp {e:Sh} {cs:List PV} (h:e.okC cs):(U5 e.agg cs).cells=cs:=by
 cases he:e.agg with
 |true=>rfl
 |false=>
  obtain⟨p,rfl,hp⟩:=ln he h;exact PV.scal_cells hp
def cells?_get {w:World} {base:Nat} {a:Addr} {n:Nat} {cs:List Value} (h:w.cells? base a n=some cs):cs.length=n∧∀j v,cs[j]? =some v→w.cell? (a.add j)=some v:=by
 unfold World.cells? at h;split at h
 ·obtain⟨h1,h2⟩:=l9 h;simp only[Ar2] at h1;refine⟨h1,fun j v hv=> ?_⟩;have hj:j<n:=by rw[←h1];exact(Bp.1 hv).1
  exact h2 j j v (D1 hj) hv
 ·cases h
def j6 {H:Type} {enc:TypeId×Value→H} {P:Program} {w:World} {base:Nat} {spare:Nat→Bool} {held:Bool}:∀(fuel d:Nat) (t:TypeId) (sh:Sh) (cs:List Value) (x:DataW H×List MemPlace),Ct0 P d t=some sh→DataW.trod enc P w base spare held fuel t cs=some x→
  ∃pcs,sh.okC pcs∧z7 (C6 w Z1) pcs cs
 |0,d,t,sh,cs,x,hs,h=>by simp[DataW.trod] at h
 |fuel+1,0,t,sh,cs,x,hs,h=>by simp[Ct0] at hs
 |fuel+1,d+1,t,sh,cs,x,hs,h=>by
  simp only[Ct0] at hs;split at hs
  ·rename_i hu;injection hs with hs;subst hs;simp only[DataW.trod,hu] at h;split at h<;>first|(rename_i heq;simp at heq;done)|(cases h;done)|skip
   exact⟨_,⟨_,rfl⟩,z7.one rfl (.b _)⟩
  ·rename_i k hu;injection hs with hs;subst hs;simp only[DataW.trod,hu] at h;split at h<;>first|(rename_i heq;simp at heq;done)|(cases h;done)|skip
   rename_i k1 k2 n heq;injection heq with heq;injection heq with heq;subst heq;split at h
   ·rename_i hc;obtain⟨rfl,hwf⟩:=hc;simp only[Lit.wf,Br,decide_eq_true_eq] at hwf;exact⟨_,⟨_,rfl,hwf⟩,z7.one rfl (.i _ _)⟩
   ·cases h
  ·rename_i hu;injection hs with hs;subst hs;simp only[DataW.trod,hu] at h;split at h<;>first|(rename_i heq;simp at heq;done)|(cases h;done)|skip
   rename_i s heq;split at h
   ·rename_i hc;refine⟨_,⟨s.data.toList,rfl,?_⟩,z7.one rfl (.s _ _ rfl)⟩;rw[Dz];exact hc
   ·cases h
  ·-- a slice
   rename_i e hu;split at hs
   ·rename_i she hse;split at hs
    ·rename_i hsz;injection hs with hs;subst hs;simp only[DataW.trod,hu] at h;split at h<;>first|(rename_i heq;simp at heq;done)|(cases h;done)|skip
     ·exact⟨_,⟨[],rfl,Dy _,fun x hx=>by simp at hx⟩,z7.one rfl (Rep.lnil _ _ _ _)⟩
     ·rename_i e' a len cap heq;injection heq with heq;injection heq with heq;subst heq;split at h
      ·rename_i hc;obtain⟨elems,hel,_⟩:=Bl.1 h;obtain⟨hl,hget⟩:=l9 hel;simp only[Ar2] at hl;have each:∀i,i<len→∃ecs pcs,w.cells? base (a.add (i*P.cellsOf e)) (P.cellsOf e)=some ecs∧she.okC pcs∧z7 (C6 w Z1) pcs ecs:=by intro i hi;have hx:elems[i]? =some (elems[i]'(by omega)):=Bs (by omega);have:=hget i i _ (D1 hi) hx;obtain⟨ecs,h1,h2⟩:=Bl.1 this;obtain⟨pcs,h3,h4⟩:=j6 fuel d e she ecs _ hse h2;exact⟨ecs,pcs,h1,h3,h4⟩
       have pick:∃f:Nat→List PV×List Value,∀i,i<len→w.cells? base (a.add (i*P.cellsOf e)) (P.cellsOf e)=some (f i).2∧she.okC (f i).1∧z7 (C6 w Z1) (f i).1 (f i).2:=by
        have:∀i,∃y:List PV×List Value,i<len→w.cells? base (a.add (i*P.cellsOf e)) (P.cellsOf e)=some y.2∧she.okC y.1∧z7 (C6 w Z1) y.1 y.2:=by
         intro i;by_cases hi:i<len
         ·obtain⟨ecs,pcs,h1,h2,h3⟩:=each i hi;exact⟨(pcs,ecs),fun _=>⟨h1,h2,h3⟩⟩
         ·exact⟨default,fun h=>absurd h hi⟩
        exact⟨fun i=>(this i).choose,fun i hi=>(this i).choose_spec hi⟩
       obtain⟨f,hf⟩:=pick;have hsz':P.cellsOf e=she.size:=hsz;have hxs:∀(i:Nat) (x:PV),((List.range len).map fun i=>U5 she.agg (f i).1)[i]? =some x→i<len∧x=U5 she.agg (f i).1∧x.cells=(f i).1:=by
        intro i x hx;simp only[C3,Bt] at hx;obtain⟨k,hk,rfl⟩:=hx;have hi:i<len:=by have:=(Bp.1 hk).1;simpa using this
        rw[D1 hi] at hk;injection hk with hk;subst hk;exact⟨hi,rfl,lp (hf i hi).2.1⟩
       have hlen:((List.range len).map fun i=>U5 she.agg (f i).1).length=len:=by simp
       refine⟨[.l she.size ((List.range len).map fun i=>U5 she.agg (f i).1)],⟨_,rfl,by rw[hlen];omega,fun x hx=> ?_⟩,z7.one rfl ?_⟩
       ·obtain⟨i,hi⟩:=E2 hx;obtain⟨h1,h2,h3⟩:=hxs i x hi;cases he:she.agg with
        |true=>
         simp only[if_true];exact⟨(f i).1,by rw[h2,he];rfl,(hf i h1).2.1⟩
        |false=>
         simp only[B5,if_false];obtain⟨p,hp,hps⟩:=ln he (hf i h1).2.1;have:x=p:=by rw[h2,he,hp];rfl
         subst this;exact⟨hps,by rw[←hp];exact(hf i h1).2.1⟩
       ·have:=Rep.l (M:=C6 w Z1) she.size ((List.range len).map fun i=>U5 she.agg (f i).1) (some a) cap a (fun i j=>(f i).2.getD j undef) (by rw[hlen];exact hc.2.1) (fun _=>rfl)
         (fun i x hx=>by obtain⟨h1,h2,h3⟩:=hxs i x hx;rw[h3];exact Sh.okC_len _ _ (hf i h1).2.1) ?_ ?_ ?_
        ·rw[hlen] at this;exact this
        all_goals
         intro i x j c hx hcj;obtain⟨h1,h2,h3⟩:=hxs i x hx;obtain⟨g1,g2,g3⟩:=hf i h1;rw[h3] at hcj;obtain⟨c1,c2⟩:=cells?_get g1;have hj:j<(f i).2.length:=by rw[←g3.1];exact(Bp.1 hcj).1
         have hv:(f i).2[j]? =some ((f i).2[j]):=Bs hj;have hd:(f i).2.getD j undef=(f i).2[j]:=by rw[C9,hv];rfl
        ·rw[hd];refine Gf ?_ (fun lim hl=>by cases hl);rw[←hsz',←Addr.add_add];exact c2 j _ hv
        ·rw[hd];exact(g3.2 j c _ hcj hv).1
        ·rw[hd];exact(g3.2 j c _ hcj hv).2
      ·cases h
    ·cases hs
   ·cases hs
  ·-- a struct
   rename_i fs hu;split at hs
   ·rename_i shs hshs;split at hs
    ·rename_i hsz;injection hs with hs;subst hs;have h':∃ys,cs.length=P.cellsOf t∧(fs.toList.mapM fun f=>DataW.trod enc P w base spare held fuel f.type ((cs.drop f.offset).take (P.cellsOf f.type)))=some ys:=by
      simp only[DataW.trod,hu] at h;by_cases hl:cs.length=P.cellsOf t
      ·rw[if_pos hl] at h;obtain⟨ys,hy,_⟩:=Bt.1 h;exact⟨ys,hl,hy⟩
      ·rw[if_neg hl] at h;cases h
     obtain⟨ys,hlen,hys⟩:=h';have go:∀(l:List Field) (off:Nat) (shs:List Sh) (ys:List (DataW H×List MemPlace)),Sr P (Ct0 P d) l off=some shs→(l.mapM fun f=>DataW.trod enc P w base spare held fuel f.type ((cs.drop f.offset).take (P.cellsOf f.type)))=some ys→cs.length=off+Sh.sizes shs→
       ∃pcs,Sh.okCs shs pcs∧z7 (C6 w Z1) pcs (cs.drop off):=by
      intro l
      induction l with
      |nil=>
       intro off shs ys h1 h2 h3;simp only[Sr,Bn] at h1;subst h1;refine⟨[],rfl,?_⟩;have:cs.drop off=[]:=Hh (by simp only[Sh.sizes] at h3;omega);rw[this];exact⟨rfl,fun j p v hp=>by simp at hp⟩
      |cons fl l ih=>
       intro off shs ys h1 h2 h3;simp only[Sr] at h1;split at h1
       ·rename_i hoff;subst hoff;split at h1
        ·rename_i sh hsh;split at h1
         ·rename_i hsize;obtain⟨rest,hrest,rfl⟩:=Bt.1 h1;simp only[Lx,W7,Bl,pk,Bn] at h2;obtain⟨y,hy,r,hr,rfl⟩:=h2;obtain⟨pcs,p1,p2⟩:=j6 fuel d fl.type sh _ _ hsh hy;simp only[Sh.sizes] at h3;obtain⟨qcs,q1,q2⟩:=ih (fl.offset+sh.size) rest r hrest hr (by omega);refine⟨pcs++qcs,⟨pcs,qcs,rfl,p1,q1⟩,?_⟩;have e:cs.drop fl.offset=(cs.drop fl.offset).take (P.cellsOf fl.type)++cs.drop (fl.offset+sh.size):=by rw[hsize,←Ew,Dq]
          rw[e];exact p2.append q2
         ·cases h1
        ·cases h1
       ·cases h1
     obtain⟨pcs,p1,p2⟩:=go fs.toList 0 shs ys hshs hys (by omega);exact⟨pcs,p1,by simpa using p2⟩
    ·cases hs
   ·cases hs
  ·-- an array
   rename_i n e hu;split at hs
   ·rename_i sh hse;split at hs
    ·rename_i hsz;split at hs
     ·rename_i hsz2;injection hs with hs;subst hs;have h':∃ys,cs.length=P.cellsOf t∧((List.range n).mapM fun i=>DataW.trod enc P w base spare held fuel e ((cs.drop (i*P.cellsOf e)).take (P.cellsOf e)))=some ys:=by
       simp only[DataW.trod,hu] at h;by_cases hl:cs.length=P.cellsOf t
       ·rw[if_pos hl] at h;obtain⟨ys,hy,_⟩:=Bt.1 h;exact⟨ys,hl,hy⟩
       ·rw[if_neg hl] at h;cases h
      obtain⟨ys,hlen,hys⟩:=h';have go:∀(m off:Nat) (ys:List (DataW H×List MemPlace)),((List.range' off m).mapM fun i=>DataW.trod enc P w base spare held fuel e ((cs.drop (i*P.cellsOf e)).take (P.cellsOf e)))=some ys→cs.length=off*sh.size+m*sh.size→
        ∃pcs,Sh.okCs (List.replicate m sh) pcs∧z7 (C6 w Z1) pcs (cs.drop (off*sh.size)):=by
       intro m
       induction m with
       |zero=>
        intro off ys h2 h3;refine⟨[],rfl,?_⟩;have:cs.drop (off*sh.size)=[]:=Hh (by omega);rw[this];exact⟨rfl,fun j p v hp=>by simp at hp⟩
       |succ m ih=>
        intro off ys h2 h3;simp only[List.range'_succ,Lx,W7,Bl,pk,Bn] at h2;obtain⟨y,hy,r,hr,rfl⟩:=h2;obtain⟨pcs,p1,p2⟩:=j6 fuel d e sh _ _ hse hy;have e1:(off+1)*sh.size=off*sh.size+sh.size:=by rw[Ds,Gp]
        have e2:(m+1)*sh.size=m*sh.size+sh.size:=by rw[Ds,Gp]
        obtain⟨qcs,q1,q2⟩:=ih (off+1) r hr (by omega);refine⟨pcs++qcs,⟨pcs,qcs,rfl,p1,q1⟩,?_⟩;rw[hsz] at p2;have e3:cs.drop (off*sh.size)=(cs.drop (off*sh.size)).take sh.size++cs.drop ((off+1)*sh.size):=by rw[e1,←Ew,Dq]
        rw[e3];exact p2.append q2
      rw[List.range_eq_range'] at hys;obtain⟨pcs,p1,p2⟩:=go n 0 ys hys (by omega);refine⟨pcs,?_,by simpa using p2⟩;simpa only[Sh.okC] using p1
     ·cases hs
    ·cases hs
   ·cases hs
  ·cases hs
end Go.X
/- A law's row: what its call comes to, said of readings. -/
namespace Go.X
open Go Go.RowKit Go.ChangeShapes Go.WideShapes
section
variable {H:Type} {enc:TypeId×Value→H} {P:Program} {sig:Nat→Option Nat} {tab:Nat→Option FT} {ext:Fns→Fns}
def Ct2 (hM:Kp ext) (hT:Tab P sig tab) (hE:∀fn,Contract P sig fn→Contract P sig (ext fn)) {f n:Nat} {ft:FT} {vs rs:List PV} (hf:tab f=some ft) (hmu:gz (sig f)=none) (hfa:yb (sig f)=none) (h:sem tab ext f n vs=some rs) {w:World} {O:Nat→Option Nat} {args:Array Value} (hg:Given w O n vs args):
  Calls P f args w fun e w'=>∃v,e= .returned v∧Ft1 P (sig f) w O rs v w':=by
 obtain⟨k,hk⟩:=(Rw hM).1 h;cases k with
 |zero=>simp[R5] at hk
 |succ k=>
  rw[R5] at hk;simp only[hf] at hk;split at hk
  ·rename_i hc;obtain⟨o,ho,hk⟩:=Bl.1 hk;split at hk
   ·injection hk with hk;subst hk;obtain⟨func,Hn,hfn,hn,hp,hlt,hnf,t0,hx,hs⟩:=hT.1 f ft hf;rw[←hs,Js] at ho;unfold Cf8 at hp;rw[hmu,hfa] at hp;simp only[jk,Bool.or_self,B5,if_false,Fj] at hp;exact Ak9 (Dj2 hT hE k) hmu hfn hx ho (by rw[hc.2,←hp,Fz hlt,hnf]) (by rw[hp,hc.1];exact hg) (fun e he=>by rw[hfa] at he;cases he)
   ·cases hk
  ·cases hk
def Oks:List Sh→List PV→Prop
 |[],[]=>True
 |sh::ss,p::ps=>sh.ok p∧Oks ss ps
 |_,_=>False
def Oks.len:∀{ss:List Sh} {ps:List PV},Oks ss ps→ps.length=ss.length
 |[],[],_=>rfl
 |_::_,_::_,h=>by simp[Oks.len h.2]
 |[],_::_,h=>h.elim
 |_::_,[],h=>h.elim
def rh (P:Program) (ts:List TypeId):Option (List Sh):=ts.mapM (Ct0 P 30)
def Fd5 {w:World} {base b0:Nat} {spare:Nat→Bool} {held:Bool} {t:TypeId} {v:Value} {d:DataW H} {ps:List MemPlace} {sh:Sh} {n:Nat} (hs:Ct0 P n t=some sh) (hok:Value.okWide P w .any base t v) (h:DataW.Trod enc P w b0 spare held t v d ps):
  ∃p,sh.ok p∧Rep (C6 w Z1) p v:=by
 obtain⟨fuel,hf⟩:=h;obtain⟨pcs,h1,h2⟩:=j6 fuel n t sh _ _ hs hf;have single:sh.agg=false→v.cells= #[v]→∃p,sh.ok p∧Rep (C6 w Z1) p v:=by intro ha hv;obtain⟨p,rfl,hp⟩:=ln ha h1;rw[hv] at h2;refine⟨p,?_,(h2.2 0 p v rfl rfl).2⟩;unfold Sh.ok;rw[ha];simp only[B5,if_false];exact⟨hp,h1⟩
 cases n with
 |zero=>simp[Ct0] at hs
 |succ n=>
  simp only[Ct0] at hs;split at hs
  ·rename_i hu;injection hs with hs;subst hs;obtain⟨b,rfl⟩:=okWide_bool hu hok;exact single rfl rfl
  ·rename_i k hu;injection hs with hs;subst hs;obtain⟨b,rfl⟩:=okWide_int hu hok;exact single rfl rfl
  ·rename_i hu;injection hs with hs;subst hs;obtain⟨b,rfl⟩:=okWide_string hu hok;exact single rfl rfl
  ·rename_i e hu;split at hs
   ·split at hs
    ·injection hs with hs;subst hs;obtain⟨a,l,c,rfl⟩:=okWide_slice hu hok;exact single rfl rfl
    ·cases hs
   ·cases hs
  ·rename_i fs hu;split at hs
   ·split at hs
    ·injection hs with hs;subst hs;simp only[Value.okWide,hu] at hok;obtain⟨cs,rfl,_,_⟩:=hok;refine⟨.a pcs,?_,?_⟩
     ·unfold Sh.ok;simp only[Sh.agg,if_true];exact⟨pcs,rfl,h1⟩
     ·have hl:pcs.length=cs.toList.length:=h2.1;refine Rep.a pcs cs (by rw[hl,Dz]) (fun u hu=> ?_) (fun j c u hc hu=>(h2.2 j c u hc (by show cs.toList[j]? =some u;rw[B8];exact hu)).2);obtain⟨j,hj⟩:=E2 hu;have hj1:=(Bp.1 hj).1;exact(h2.2 j _ u (Bs (by omega)) hj).1
    ·cases hs
   ·cases hs
  ·rename_i n e hu;split at hs
   ·split at hs
    ·split at hs
     ·injection hs with hs;subst hs;simp only[Value.okWide,hu] at hok;obtain⟨cs,rfl,_,_⟩:=hok;refine⟨.a pcs,?_,?_⟩
      ·unfold Sh.ok;simp only[Sh.agg,if_true];exact⟨pcs,rfl,h1⟩
      ·have hl:pcs.length=cs.toList.length:=h2.1;refine Rep.a pcs cs (by rw[hl,Dz]) (fun u hu=> ?_) (fun j c u hc hu=>(h2.2 j c u hc (by show cs.toList[j]? =some u;rw[B8];exact hu)).2);obtain⟨j,hj⟩:=E2 hu;have hj1:=(Bp.1 hj).1;exact(h2.2 j _ u (Bs (by omega)) hj).1
     ·cases hs
    ·cases hs
   ·cases hs
  ·cases hs
def Bc6 {w:World} {base b0:Nat} {spare:Nat→Bool} {held:Bool}:∀{ts:List TypeId} {shs:List Sh} {vs:List Value} {ds:List (DataW H)} {ps:List MemPlace},rh P ts=some shs→(∀(j:Nat) t v,ts[j]? =some t→vs[j]? =some v→Value.okWide P w .any base t v)→
  DataW.TrodAll enc P w b0 spare held ts vs ds ps→∃qs,Oks shs qs∧qs.length=vs.length∧∀(j:Nat) (p:PV) (v:Value),qs[j]? =some p→vs[j]? =some v→Rep (C6 w Z1) p v
 |[],shs,vs,ds,ps,hs,hok,h=>by simp only[rh,List.mapM_nil,pk,Bn] at hs;subst hs;obtain⟨rfl,rfl,rfl⟩:=trodAll_nil h;exact⟨[],trivial,rfl,fun j p v hp=>by simp at hp⟩
 |t::ts,shs,vs,ds,ps,hs,hok,h=>by
  simp only[rh,Lx,W7,Bl,pk,Bn] at hs;obtain⟨sh,hsh,rest,hrest,rfl⟩:=hs;obtain⟨v,vs',d,ds',p,q,rfl,rfl,rfl,h1,h2⟩:=trodAll_cons h;obtain⟨x,x1,x2⟩:=Fd5 hsh (hok 0 t v rfl rfl) h1;obtain⟨qs,q1,q2,q3⟩:=Bc6 hrest (fun j t' v' ht hv=>hok (j+1) t' v' (by simpa using ht) (by simpa using hv)) h2;refine⟨x::qs,⟨x1,q1⟩,by simp[q2],fun j p' v' hp hv=> ?_⟩;cases j with
  |zero=>simp at hp hv;subst hp;subst hv;exact x2
  |succ j=>exact q3 j p' v' (by simpa using hp) (by simpa using hv)
def Bn7 (hl:laidOutB P=true) {W W':World} (hb:Below W.heap.size W W'):∀{ts:List TypeId} {vs:List Value} {ds:List (DataW H)} {ps:List MemPlace},(ts.all fun t=>P.readableRec t && decide (t<P.types.size))=true→DataW.TrodAll enc P W 0 (fun _=>true) true ts vs ds ps→
  DataW.TrodAll enc P W' 0 (fun b=>decide (b<W.heap.size)) true ts vs ds ps
 |[],vs,ds,ps,_,h=>by obtain⟨rfl,rfl,rfl⟩:=trodAll_nil h;exact trodAll_mk0
 |t::ts,vs,ds,ps,hr,h=>by simp only[List.all_cons,Br,decide_eq_true_eq] at hr;obtain⟨v,vs',d,ds',p,q,rfl,rfl,rfl,h1,h2⟩:=trodAll_cons h;refine trodAll_cons_mk (Below.trod hl hr.1.1 hr.1.2 h1 hb ?_) (Bn7 hl hb (by simpa using hr.2) h2);obtain⟨m,hm⟩:=h1;exact DataW.trod_lt m _ _ _ hm
def law_calls (hM:Kp ext) (hT:Tab P sig tab) (hE:∀fn,Contract P sig fn→Contract P sig (ext fn)) {f:Nat} {ft:FT} (hf:tab f=some ft) (hsig:sig f=none) {ts:List TypeId} {shs:List Sh} (hs:rh P ts=some shs)
  (law:∀qs,Oks shs qs→sem tab ext f shs.length qs=some [.b true]) {W:World} {base b0:Nat} {spare:Nat→Bool} {held:Bool} {args:Array Value} {ds:List (DataW H)} {ps:List MemPlace}
  (hok:∀(j:Nat) t v,ts[j]? =some t→args[j]? =some v→Value.okWide P W .any base t v) (h:DataW.TrodAll enc P W b0 spare held ts args.toList ds ps):
  Calls P f args W fun e W'=>e= .returned (.bool true)∧Below W.heap.size W W':=by
 obtain⟨qs,q1,q2,q3⟩:=Bc6 hs (fun j t v ht hv=>hok j t v ht (by simpa using hv)) h;have hlen:=q1.len;refine(Ct2 hM hT hE hf (by rw[hsig];rfl) (by rw[hsig];rfl) (law qs q1) (O:=Z1) ⟨fun _ _=>rfl,by rw[q2,Dz],fun j p v _ hp hv=>q3 j p v hp (by simpa using hv),fun j p v hj hp _=> ?_⟩).mono fun e w' ⟨v,he,hb⟩=> ?_
 ·have:=(Bp.1 hp).1;omega
 ·subst he;rw[hsig] at hb;obtain⟨hbel,O',_,_,hres⟩:=hb;have hr:Rep (C6 w' O') (.b true) v:=hres;exact⟨by rw[hr.bool],hbel.to⟩
end
end Go.X
/- Residual programs, evaluated by rewriting. -/
namespace Go.X
open Go
def Dk (j:Nat) (p:PV):Option PV:=p.cells[j]?
def Lp (off n:Nat) (p:PV):Option PV:=if off+n≤p.cells.length then some (.a ((p.cells.drop off).take n)) else none
def Vv (n:Nat):PV→Option PV
 | .a cs=>if cs.length=n then some (.a cs) else none
 |_=>none
def Kj (p:PV):Option PV:=if p.scal then some p else none
def brE (η:List PV) (x y:E):PV→Option PV
 | .b true=>x.ev η
 | .b false=>y.ev η
 |_=>none
def brT (fn:Fns) (N:Nat) (t e:T) (η:List PV):PV→Option Out
 | .b true=>t.ev fn N η
 | .b false=>e.ev fn N η
 |_=>none
def goT (fn:Fns) (N:Nat) (k:T) (η:List PV):Option Out:=k.ev fn N η
def aft (fn:Fns) (N:Nat) (id:Nat) (k:T) (η:List PV):Out→Option Out
 | .yld j vs=>if j=id then k.ev fn N (η++vs) else some (.yld j vs)
 | .ret vs=>some (.ret vs)
def Fp9 (fn:Fns) (η:List PV) (fl:Bool) (f:Nat) (ar:List E) (m:Nat):PV→Option (List PV)
 | .b true=>(E.evs η ar).bind fun vs=>results fl m η (fn f vs.length vs)
 | .b false=>some (η++List.replicate m .u)
 |_=>none
section
variable {η:List PV}
def Kb7 (n:Nat):(E.v n).ev η=η[n]? :=by simp only[E.ev]
def Kc1 (x:PV):(E.c x).ev η=some x:=by simp only[E.ev]
def Is6 (op:BinOp) (x y:E):(E.bin op x y).ev η=(x.ev η).bind fun p=>(y.ev η).bind fun q=>X.bin op p q:=by simp only[E.ev]
def Kb8 (op:UnOp) (x:E):(E.un op x).ev η=(x.ev η).bind (X.un op):=by simp only[E.ev]
def Is1 (g x y:E):(E.ite g x y).ev η=(g.ev η).bind (brE η x y):=by simp only[E.ev];rfl
def Hk0 (j:Nat) (x:E):(E.proj j x).ev η=(x.ev η).bind (Dk j):=by simp only[E.ev];rfl
def Ir4 (o n:Nat) (x:E):(E.sub o n x).ev η=(x.ev η).bind (Lp o n):=by simp only[E.ev];rfl
def Is9 (xs:List E):(E.agg xs).ev η=(E.evs η xs).map .a:=by simp only[E.ev]
def Is3 (n:Nat) (x:E):(E.fit n x).ev η=(x.ev η).bind (Vv n):=by simp only[E.ev];congr 1;funext p;cases p<;>rfl
def Hj9 (x:E):(E.scal x).ev η=(x.ev η).bind Kj:=by simp only[E.ev];rfl
def Is2 (sz:Nat) (x i:E):(E.idx sz x i).ev η=(x.ev η).bind fun p=>(i.ev η).bind fun q=>I7 sz p q:=by simp only[E.ev]
def ev_len (x:E):(E.len x).ev η=(x.ev η).bind Hc:=by simp only[E.ev]
def Hj7 (x:E):(E.slen x).ev η=(x.ev η).bind V7:=by simp only[E.ev]
def Hj8 (x i:E):(E.sidx x i).ev η=(x.ev η).bind fun p=>(i.ev η).bind fun q=>Yy p q:=by simp only[E.ev]
def Ir5 (x lo hi:E):(E.ssl x lo hi).ev η=(x.ev η).bind fun p=>(lo.ev η).bind fun q=>(hi.ev η).bind fun r=>Bs8 p q r:=by simp only[E.ev]
def Ir9 (sz:Nat) (x lo hi:E):(E.lsl sz x lo hi).ev η=(x.ev η).bind fun p=>(lo.ev η).bind fun q=>(hi.ev η).bind fun r=>Jv sz p q r:=by simp only[E.ev]
def Is8 (sz:Nat) (x y:E):(E.app sz x y).ev η=(x.ev η).bind fun p=>(y.ev η).bind fun q=>Jn sz p q:=by simp only[E.ev]
def Is0 (sz:Nat) (xs:List E):(E.lit sz xs).ev η=(E.evs η xs).bind (K4 sz):=by simp only[E.ev]
def Ir8 (sz:Nat) (n z:E):(E.rep sz n z).ev η=(n.ev η).bind fun p=>(z.ev η).bind fun q=>N4 sz p q:=by simp only[E.ev]
def Ir6 (sz:Nat) (x i:E) (o:Nat) (vs:List E):(E.set sz x i o vs).ev η=(x.ev η).bind fun p=>(i.ev η).bind fun q=>(E.evs η vs).bind fun r=>Lr sz o r p q:=by simp only[E.ev]
def Hk3 (k:IntKind) (x:E):(E.conv k x).ev η=(x.ev η).bind (Bh9 k):=by simp only[E.ev]
def Is7 (x:E):(E.b2s x).ev η=(x.ev η).bind Am2:=by simp only[E.ev]
def Ir7 (x:E):(E.s2b x).ev η=(x.ev η).bind Bt3:=by simp only[E.ev]
def Is4 (n g:Bool) (ts:List Sc) (x y:E):(E.eqs n g ts x y).ev η=(x.ev η).bind fun p=>(y.ev η).bind fun q=>N7 n g ts p q:=by simp only[E.ev]
def Is5 (g:Nat) (xs:List E):(E.clo g xs).ev η=(E.evs η xs).map (.f g):=by simp only[E.ev]
def Kc0 (x y:E):(E.mn x y).ev η=(x.ev η).bind fun p=>(y.ev η).bind fun q=>Ff7 p q:=by simp only[E.ev]
def Kb9 (x y:E):(E.mx x y).ev η=(x.ev η).bind fun p=>(y.ev η).bind fun q=>Gr2 p q:=by simp only[E.ev]
def Hk2 (x k z:E):(E.mget x k z).ev η=(x.ev η).bind fun p=>(k.ev η).bind fun q=>(z.ev η).bind fun r=>xk p q r:=by simp only[E.ev]
def Hk1 (x k v:E):(E.mset x k v).ev η=(x.ev η).bind fun p=>(k.ev η).bind fun q=>(v.ev η).bind fun r=>w7 p q r:=by simp only[E.ev]
def Kz (x:E):(E.der x).ev η=(x.ev η).bind Cd2:=by simp only[E.ev]
def Ky (o:Nat) (x:E):(E.mkp o x).ev η=(x.ev η).bind (Cy3 o):=by simp only[E.ev]
def Ad2:E.evs η []=some []:=by simp only[E.evs]
def mr (x:E) (xs:List E):E.evs η (x::xs)=(x.ev η).bind fun p=>(E.evs η xs).map fun ps=>p::ps:=by simp only[E.evs]
def Fr1 (x y:E):brE η x y (.b true)=x.ev η:=rfl
def Eb3 (x y:E):brE η x y (.b false)=y.ev η:=rfl
def Kd6 (x y:E) (v:Bool):brE η x y (.b v)=if v=true then x.ev η else y.ev η:=by cases v<;>rfl
end
section
variable {fn:Fns} {N:Nat} {η:List PV}
def Cb {t t':T} (h:t=t'):∀(fn:Fns) (N:Nat) (η:List PV),T.ev fn N t η=T.ev fn N t' η:=by subst h;intro fn N η;exact Eq.refl _
def xc {t t':T} {q:Prop} (h:t=t') (r:q):(∀(fn:Fns) (N:Nat) (η:List PV),T.ev fn N t η=T.ev fn N t' η)∧q:=⟨Cb h,r⟩
def xd {a b:E} {q:Prop} (h:a=b) (r:q):(a=b)∧q:=⟨by subst h;exact Eq.refl _,r⟩
def xd0:(TAG=TAG)=True:=eq_self _
def Gh1 (x:E) (k:T):(T.w (.chk x) k).ev fn N η=(x.ev η).bind fun _=>k.ev fn N η:=by simp only[T.ev,W.ev];cases x.ev η<;>rfl
def Ep5 (fl:Bool) (f:Nat) (ar:List E) (m:Nat) (k:T):(T.w (.call none fl f ar m) k).ev fn N η=(((E.evs η ar).bind fun vs=>results fl m η (fn f vs.length vs))).bind (goT fn N k):=by simp only[T.ev,W.ev,G3];rfl
def Cr1 (g:E) (fl:Bool) (f:Nat) (ar:List E) (m:Nat) (k:T):(T.w (.call (some g) fl f ar m) k).ev fn N η=(W.ev fn η (.call (some g) fl f ar m)).bind (goT fn N k):=by simp only[T.ev];rfl
def Gh0 (g:Option E) (fl:Bool) (c:E) (ar:List E) (m:Nat) (k:T):(T.w (.clo g fl c ar m) k).ev fn N η=(W.ev fn η (.clo g fl c ar m)).bind (goT fn N k):=by simp only[T.ev];rfl
def Fx (f:Nat) (ar:List E) (k:T):(T.w (.mcall f ar) k).ev fn N η=((E.evs η ar).bind fun vs=>results false 1 η (fn f (vs.length+TAG) vs)).bind (goT fn N k):=by simp only[T.ev,W.ev];rfl
def Ln:TAG=1048576:=rfl
def Ip6 (k:T):goT fn N k η=k.ev fn N η:=rfl
def Gg9 (c:E) (t e:T):(T.ite c t e).ev fn N η=(c.ev η).bind (brT fn N t e η):=by simp only[T.ev];rfl
def Fr0 (t e:T):brT fn N t e η (.b true)=t.ev fn N η:=rfl
def Eb2 (t e:T):brT fn N t e η (.b false)=e.ev fn N η:=rfl
def Kd5 (t e:T) (v:Bool):brT fn N t e η (.b v)=if v=true then t.ev fn N η else e.ev fn N η:=by cases v<;>rfl
def Gg8 (es:List E):(T.ret es).ev fn N η=(E.evs η es).map .ret:=by simp only[T.ev]
def Gg7 (id:Nat) (es:List E):(T.yld id es).ev fn N η=(E.evs η es).map (.yld id):=by simp only[T.ev]
def Gh2 (id:Nat) (b k:T):(T.blk id b k).ev fn N η=(b.ev fn N η).bind (aft fn N id k η):=by simp only[T.ev];rfl
def Ef7 (id:Nat) (k:T) (vs:List PV):aft fn N id k η (.ret vs)=some (.ret vs):=rfl
def Hx7 (id j:Nat) (k:T) (vs:List PV):aft fn N id k η (.yld j vs)=if j=id then k.ev fn N (η++vs) else some (.yld j vs):=rfl
def Hx8 (id:Nat) (k:T) (p:Prop) [Decidable p] (x y:Out):aft fn N id k η (if p then x else y)=if p then aft fn N id k η x else aft fn N id k η y:=by split<;>rfl
def Cp6 (g:E) (fl:Bool) (f:Nat) (ar:List E) (m:Nat):W.ev fn η (.call (some g) fl f ar m)=(g.ev η).bind (Fp9 fn η fl f ar m):=by simp only[W.ev,G3];rfl
def Cf3 (fl:Bool) (f:Nat) (ar:List E) (m:Nat):Fp9 fn η fl f ar m (.b true)=(E.evs η ar).bind fun vs=>results fl m η (fn f vs.length vs):=rfl
def Ag4 (fl:Bool) (f:Nat) (ar:List E) (m:Nat):Fp9 fn η fl f ar m (.b false)=some (η++List.replicate m .u):=rfl
def Hv7 (fl:Bool) (f:Nat) (ar:List E) (m:Nat) (v:Bool):Fp9 fn η fl f ar m (.b v)=if v=true then((E.evs η ar).bind fun vs=>results fl m η (fn f vs.length vs)) else some (η++List.replicate m .u):=by cases v<;>rfl
def Gg4 (fl:Bool) (c:E) (ar:List E) (m:Nat):W.ev fn η (.clo none fl c ar m)=(c.ev η).bind fun q=>(E.evs η ar).bind fun vs=>match q with| .f f caps=>results fl m η (fn f vs.length (vs++caps))|_=>none:=by simp only[W.ev,G3];rfl
def Fh8 {α β:Type} (p:Prop) [Decidable p] (x y:Option α) (f:α→Option β):(if p then x else y).bind f=if p then x.bind f else y.bind f:=by split<;>rfl
def Fh7 (p:Prop) [Decidable p] (x y:PV):(if p then some x else some y)=some (if p then x else y):=by split<;>rfl
def Ej4 (p:Prop) [Decidable p] (x y:Out):(if p then some x else some y)=some (if p then x else y):=by split<;>rfl
def Ip4 (p:Prop) [Decidable p] (x y:Bool):(if p then PV.b x else PV.b y)=PV.b (if p then x else y):=by split<;>rfl
def Ip3 (p:Prop) [Decidable p] (k:IntKind) (x y:Int):(if p then PV.i k x else PV.i k y)=PV.i k (if p then x else y):=by split<;>rfl
def Ip2 (p:Prop) [Decidable p] (x y:List UInt8):(if p then PV.s x else PV.s y)=PV.s (if p then x else y):=by split<;>rfl
def Out.goes (id:Nat):Out→Bool
 | .yld j _=>j==id
 |_=>false
def Yc {step:List PV→Option Out} {id:Nat} {α:Type} (st:α→List PV) (res:α→Out) (I:α→Prop) (μ:α→Nat)
  (h:∀a,I a→(∃b,step (st a)=some (.yld id (st b))∧I b∧μ b<μ a∧res b=res a)∨(step (st a)=some (res a)∧(res a).goes id=false)):
  ∀(n:Nat) (a:α),I a→μ a<n→If step id n (st a)=some (res a)
 |0,a,_,hn=>by omega
 |n+1,a,ha,hn=>by
  simp only[If];rcases h a ha with⟨b,h1,h2,h3,h4⟩|⟨h1,h2⟩
  ·rw[h1];simp only[B3,if_true];rw[Yc st res I μ h n b h2 (by omega),h4]
  ·rw[h1];simp only[B3];cases hr:res a with
   |ret vs=>rfl
   |yld j vs=>
    rw[hr] at h2;simp only[Out.goes,beq_eq_false_iff_ne,ne_eq] at h2;simp only[];rw[if_neg h2]
def Kq {id:Nat} {init:List E} {body:T} {α:Type} (st:α→List PV) (res:α→Out) (I:α→Prop) (μ:α→Nat) (a0:α)
  (h0:E.evs η init=some (st a0)) (hI:I a0) (hN:μ a0<N)
  (h:∀a,I a→(∃b,body.ev fn N (η++st a)=some (.yld id (st b))∧I b∧μ b<μ a∧res b=res a)∨(body.ev fn N (η++st a)=some (res a)∧(res a).goes id=false)):
  (T.loop id init body).ev fn N η=some (res a0):=by
 simp only[T.ev,h0,B3];exact Yc st res I μ h N a0 hI hN
def Gk {id:Nat} {init:List E} {body:T} (n:Nat) (st:Nat→List PV) (res:Nat→Out)
  (h0:E.evs η init=some (st 0)) (hN:n<N)
  (h:∀i,i<n→(body.ev fn N (η++st i)=some (.yld id (st (i+1)))∧res (i+1)=res i)∨(body.ev fn N (η++st i)=some (res i)∧(res i).goes id=false))
  (hn:body.ev fn N (η++st n)=some (res n)∧(res n).goes id=false):
  (T.loop id init body).ev fn N η=some (res 0):=by
 refine Kq st res (fun i=>i≤n) (fun i=>n - i) 0 h0 (Dy _) (by omega) fun i hi=> ?_;by_cases hlt:i<n
 ·rcases h i hlt with⟨h1,h2⟩|h1
  ·exact .inl ⟨i+1,h1,by omega,by omega,h2⟩
  ·exact .inr h1
 ·have:i=n:=by omega
  subst this;exact .inr hn
end
def D7 {fn:Fns} {N:Nat} {η:List PV} {id:Nat} {init:List E} {body:T} {β γ:Type} (l:List β) (st:Nat→γ→List PV) (f:Nat→γ→List β→Out) (I:Nat→γ→Prop) (g0:γ)
  (h0:E.evs η init=some (st 0 g0)) (hI:I 0 g0) (hN:l.length<N)
  (step:∀i g c r,l.drop i=c::r→i<l.length→l[i]? =some c→I i g→
   (∃g',body.ev fn N (η++st i g)=some (.yld id (st (i+1) g'))∧I (i+1) g'∧f (i+1) g' r=f i g (c::r))∨(body.ev fn N (η++st i g)=some (f i g (c::r))∧(f i g (c::r)).goes id=false))
  (stop:∀g,I l.length g→body.ev fn N (η++st l.length g)=some (f l.length g [])∧(f l.length g []).goes id=false):
  (T.loop id init body).ev fn N η=some (f 0 g0 l):=by
 have:=Kq (fn:=fn) (N:=N) (η:=η) (id:=id) (init:=init) (body:=body) (α:=Nat×γ) (fun a=>st a.1 a.2) (fun a=>f a.1 a.2 (l.drop a.1)) (fun a=>a.1≤l.length∧I a.1 a.2) (fun a=>l.length - a.1) (0,g0) h0 ⟨Dy _,hI⟩ (by simpa using hN) ?_
 ·simpa using this
 ·rintro⟨i,g⟩ ⟨hi,hg⟩;simp only at hi hg ⊢;by_cases hlt:i<l.length
  ·have hd:l.drop i=l[i]::l.drop (i+1):=Df hlt;rcases step i g l[i] (l.drop (i+1)) hd hlt (Bs hlt) hg with⟨g',h1,h2,h3⟩|h1
   ·exact .inl ⟨(i+1,g'),h1,⟨hlt,h2⟩,by simp only;omega,by simp only;rw[h3,hd]⟩
   ·exact .inr (by rw[hd];exact h1)
  ·have hi':i=l.length:=by omega
   subst hi';have hd:l.drop l.length=[]:=List.drop_length;exact .inr (by rw[hd];exact stop g hg)
def Es {fn:Fns} {N:Nat} {η:List PV} {id:Nat} {init:List E} {body:T} {β:Type} (l:List β) (st:Nat→List PV) (f:Nat→List β→Out)
  (h0:E.evs η init=some (st 0)) (hN:l.length<N)
  (step:∀i c r,l.drop i=c::r→i<l.length→l[i]? =some c→
   (body.ev fn N (η++st i)=some (.yld id (st (i+1)))∧f (i+1) r=f i (c::r))∨(body.ev fn N (η++st i)=some (f i (c::r))∧(f i (c::r)).goes id=false))
  (stop:body.ev fn N (η++st l.length)=some (f l.length [])∧(f l.length []).goes id=false):
  (T.loop id init body).ev fn N η=some (f 0 l):=
 D7 (γ:=Unit) l (fun i _=>st i) (fun i _ r=>f i r) (fun _ _=>True) () h0 trivial hN (fun i _ c r h1 h2 h3 _=>by
  rcases step i c r h1 h2 h3 with⟨a,b⟩|h
  ·exact .inl ⟨(),a,trivial,b⟩
  ·exact .inr h) (fun _ _=>stop)
def w64 {x:Int} (h1: -9223372036854775808≤x) (h2:x≤9223372036854775807):IntKind.i64.wrap x=x:=IntWalk.i64_in x ⟨h1,h2⟩
def w8 {x:Int} (h1:0≤x) (h2:x≤255):IntKind.u8.wrap x=x:=IntWalk.u8_in x ⟨h1,h2⟩
def Gj9 {x:Int} (h1:0≤x) (h2:x≤18446744073709551615):IntKind.u64.wrap x=x:=by simp[IntKind.wrap,IntKind.bits,IntKind.signed];omega
def Kd0 {p:Prop} [Decidable p] (h:p):decide p=true:=decide_eq_true h
def Kd1 {p:Prop} [Decidable p] (h:¬p):decide p=false:=decide_eq_false h
def Hx3 (k:IntKind) (x y:Int):X.bin .add (.i k x) (.i k y)=some (.i k (k.wrap (x+y))):=by simp[X.bin,Hg]
def Hw2 (k:IntKind) (x y:Int):X.bin .sub (.i k x) (.i k y)=some (.i k (k.wrap (x - y))):=by simp[X.bin,Hg]
def Hw7 (k:IntKind) (x y:Int):X.bin .mul (.i k x) (.i k y)=some (.i k (k.wrap (x*y))):=by simp[X.bin,Hg]
def Hw5 (k:IntKind) (x y:Int):X.bin .quo (.i k x) (.i k y)=if y=0 then none else some (.i k (k.wrap (x.tdiv y))):=by simp[X.bin,Hg]
def Hw4 (k:IntKind) (x y:Int):X.bin .rem (.i k x) (.i k y)=if y=0 then none else some (.i k (x.tmod y)):=by simp[X.bin,Hg]
def Iw1 (k:IntKind) (x y:Int) (h:0≤x) (h':0<y):X.bin .quo (.i k x) (.i k y)=some (.i k (k.wrap (x / y))):=by rw[Hw5,if_neg (by omega),Int.tdiv_eq_ediv_of_nonneg h]
def Iw0 (k:IntKind) (x y:Int) (h:0≤x) (h':0<y):X.bin .rem (.i k x) (.i k y)=some (.i k (x % y)):=by rw[Hw4,if_neg (by omega),Int.tmod_eq_emod_of_nonneg h]
def Py (k:IntKind) (x y:Int):X.bin .and (.i k x) (.i k y)=some (.i k (k.wrap (BitVec.ofInt k.bits x &&& BitVec.ofInt k.bits y).toNat)):=by simp[X.bin,Hg]
def Gd3 (k:IntKind) (x y:Int):X.bin .or (.i k x) (.i k y)=some (.i k (k.wrap (BitVec.ofInt k.bits x|||BitVec.ofInt k.bits y).toNat)):=by simp[X.bin,Hg]
def D8 (k:IntKind) (x y:Int):X.bin .andNot (.i k x) (.i k y)=some (.i k (k.wrap (BitVec.ofInt k.bits x &&& ~~~ BitVec.ofInt k.bits y).toNat)):=by simp[X.bin,Hg]
def Hx2 (k:IntKind) (x y:Int):X.bin .eql (.i k x) (.i k y)=some (.b (decide (x=y))):=by simp[X.bin,Hg];rfl
def Hw6 (k:IntKind) (x y:Int):X.bin .neq (.i k x) (.i k y)=some (.b (decide (x≠y))):=by simp[X.bin,Hg];by_cases h:x=y<;>simp[h]
def Hw8 (k:IntKind) (x y:Int):X.bin .lss (.i k x) (.i k y)=some (.b (decide (x<y))):=by simp[X.bin,Hg]
def Hw9 (k:IntKind) (x y:Int):X.bin .leq (.i k x) (.i k y)=some (.b (decide (x≤y))):=by simp[X.bin,Hg]
def Hx0 (k:IntKind) (x y:Int):X.bin .gtr (.i k x) (.i k y)=some (.b (decide (y<x))):=by simp[X.bin,Hg]
def Hx1 (k:IntKind) (x y:Int):X.bin .geq (.i k x) (.i k y)=some (.b (decide (y≤x))):=by simp[X.bin,Hg]
def Am0 (k k':IntKind) (x y:Int):X.bin .shl (.i k x) (.i k' y)=if y<0 then none else some (.i k (k.wrap (x*2 ^ (min y.toNat k.bits)))):=by simp[X.bin,Qy]
def Hw3 (k k':IntKind) (x y:Int):X.bin .shr (.i k x) (.i k' y)=if y<0 then none else some (.i k (x.fdiv (2 ^ (min y.toNat k.bits)))):=by simp[X.bin,Qy]
def Aw3 (k k':IntKind) (x:Int) (t:Nat) (h:t<k.bits):X.bin .shr (.i k x) (.i k' (t:Int))=some (.i k (x / 2 ^ t)):=by
 rw[Hw3,if_neg (by omega)];congr 2;have:min ((t:Int)).toNat k.bits=t:=by simp;omega
 rw[this,Int.fdiv_eq_ediv_of_nonneg];exact Int.le_of_lt (Int.pow_pos (by decide))
def Fr7 (x y:List UInt8) (h:x.length+y.length≤9223372036854775807):X.bin .add (.s x) (.s y)=some (.s (x++y)):=by simp only[X.bin,im];rw[if_neg];simp[IntKind.max,IntKind.bits,IntKind.signed];omega
def Fr6 (x y:List UInt8):X.bin .eql (.s x) (.s y)=some (.b (decide (x=y))):=by simp only[X.bin,im];by_cases h:x=y<;>simp[h]
def Fr3 (x y:List UInt8):X.bin .neq (.s x) (.s y)=some (.b (decide (x≠y))):=by simp only[X.bin,im];by_cases h:x=y<;>simp[h]
def Fr4 (x y:List UInt8):X.bin .lss (.s x) (.s y)=some (.b (Op.bytesLess x y)):=rfl
def Fr5 (x y:List UInt8):X.bin .gtr (.s x) (.s y)=some (.b (!(Op.bytesLess x y||x==y))):=rfl
def Hg8 (x:Bool):X.un .not (.b x)=some (.b (!x)):=rfl
def Gp7 (p:Prop) [Decidable p]:(!decide p)=decide (¬p):=by by_cases h:p<;>simp[h]
def Zp (sz:Nat) (xs:List PV) (k:IntKind) (z:Int) (h:0≤z):I7 sz (.l sz xs) (.i k z)=xs[z.toNat]? :=by simp[I7,h]
def Jt4 (sz:Nat) (xs:List PV):Hc (.l sz xs)=some (.i .i64 (xs.length:Int)):=rfl
def Hl1 (x:List UInt8):V7 (.s x)=some (.i .i64 (x.length:Int)):=rfl
def Hl3 (x:List UInt8) (k:IntKind) (n:Int) (h:0≤n):Yy (.s x) (.i k n)=(x[n.toNat]?).map fun c=> .i .u8 (c.toNat:Int):=by simp[Yy,h]
def Hh8 (x:List UInt8) (k k':IntKind) (a b:Int) (h1:0≤a) (h2:a≤b) (h3:b≤(x.length:Int)):Bs8 (.s x) (.i k a) (.i k' b)=some (.s ((x.take b.toNat).drop a.toNat)):=by simp[Bs8,h1,h2,h3]
def Dm7 (sz:Nat) (x:List PV) (k k':IntKind) (a b:Int) (h1:0≤a) (h2:a≤b) (h3:b≤(x.length:Int)):Jv sz (.l sz x) (.i k a) (.i k' b)=some (.l sz ((x.take b.toNat).drop a.toNat)):=by simp[Jv,h1,h2,h3]
def Vr (sz:Nat) (xs ys:List PV) (h:xs.length+ys.length≤1073741824):Jn sz (.l sz xs) (.l sz ys)=some (.l sz (xs++ys)):=by simp[Jn,LIM,h]
def Jk1 (sz:Nat) (xs:List PV) (y:PV) (h:xs.length+1≤1073741824):Jn sz (.l sz xs) (.l sz [y])=some (.l sz (xs++[y])):=Vr sz xs [y] h
def Gs6 (sz:Nat):K4 sz []=some (.l sz []):=rfl
def Hl7 (x:List UInt8):Kj (.s x)=some (.s x):=rfl
def Hl9 (k:IntKind) (x:Int):Kj (.i k x)=some (.i k x):=rfl
def Hm1 (x:Bool):Kj (.b x)=some (.b x):=rfl
def Hl8 (sz:Nat) (x:List PV):Kj (.l sz x)=some (.l sz x):=rfl
def Jt2 (x:List UInt8):K4 1 [.s x]=some (.l 1 [.s x]):=rfl
def Iw3 (x:List UInt8):Dk 0 (.s x)=some (.s x):=rfl
def Iw4 (k:IntKind) (x:Int):Dk 0 (.i k x)=some (.i k x):=rfl
def Iw6 (j:Nat) (cs:List PV):Dk j (.a cs)=cs[j]? :=rfl
def Jt0 (k:IntKind) (x y:Int) (h:x≤y):Ff7 (.i k x) (.i k y)=some (.i k x):=by simp only[Ff7,if_true];rw[if_neg (by omega)]
def Jt1 (k:IntKind) (x y:Int) (h:y<x):Ff7 (.i k x) (.i k y)=some (.i k y):=by simp only[Ff7,if_true];rw[if_pos h]
def Js9 (k:IntKind) (x y:Int) (h:y≤x):Gr2 (.i k x) (.i k y)=some (.i k x):=by simp only[Gr2,if_true];rw[if_neg (by omega)]
def Js8 (k:IntKind) (x y:Int) (h:x<y):Gr2 (.i k x) (.i k y)=some (.i k y):=by simp only[Gr2,if_true];rw[if_pos (by omega)]
def Jj4 (k k':IntKind) (x:Int):Bh9 k (.i k' x)=some (.i k (k.wrap x)):=rfl
def Hh1 (n:Nat):((n:Int)).toNat=n:=Ec n
def Pb (x:List UInt8):Am2 (.l 1 (Db x))=some (.s x):=by
 have:∀x:List UInt8,(x.map fun c=>PV.i .u8 (c.toNat:Int)).mapM byteOf? =some x:=by
  intro x
  induction x with
  |nil=>rfl
  |cons c r ih=>
   have hc:=c.toNat_lt;have h1:byteOf? (PV.i .u8 (c.toNat:Int))=some c:=by simp only[byteOf?];rw[if_pos (by omega)];simp
   simp[Lx,h1,ih]
 simp[Am2,Db,this]
def Jr4 (x:List UInt8) (h:x.length≤1073741824):Bt3 (.s x)=some (.l 1 (Db x)):=by simp[Bt3,LIM,h]
def Vn (x:List UInt8) (c:UInt8):Db x++[.i .u8 (c.toNat:Int)]=Db (x++[c]):=by simp[Db]
def Px (x:List UInt8):(Db x).length=x.length:=by simp[Db]
def Jt3 (k:IntKind) (x:Int):K4 1 [.i k x]=some (.l 1 [.i k x]):=rfl
def Kc3 (x y:Bool):N7 false false [.b] (.b x) (.b y)=some (.b (x==y)):=by simp[N7,PV.scal,Ir,El9]
def Iy7 (x y:Bool):N7 true false [.b] (.b x) (.b y)=some (.b (!(x==y))):=by simp[N7,PV.scal,Ir,El9]
def der_pt (cs:List PV):Cd2 (.pt cs)=some (.a cs):=by simp only[Cd2]
def scal_pt (cs:List PV):Kj (.pt cs)=some (.pt cs):=by simp[Kj,PV.scal]
def Gt6 (x y:PV):Vv 2 (.a [x,y])=some (.a [x,y]):=rfl
def Ir0 (x:Bool):PV.flat (.b x)=true:=rfl
def Ip9 (k:IntKind) (x:Int):PV.flat (.i k x)=true:=rfl
def Ip7 (x:List UInt8):PV.flat (.s x)=true:=rfl
def Iv9 (η:List PV) (x:PV):results false 1 η (some [x])=some (η++[x]):=rfl
def Iv8 (η:List PV) (x y:PV):results false 2 η (some [x,y])=some (η++[x,y]):=rfl
def Iv7 (η:List PV) (x y z:PV):results false 3 η (some [x,y,z])=some (η++[x,y,z]):=rfl
def Iv6 (η:List PV):results true 0 η (some [])=some (η++[]):=rfl
def Iv5 (η:List PV) (x:PV):results true 1 η (some [x])=if x.flat=true then some (η++[x]) else none:=by simp[results,PV.flat.flats]
def Iv4 (η:List PV) (x y:PV):results true 2 η (some [x,y])=if x.flat=true then(if y.flat=true then some (η++[x,y]) else none) else none:=by simp only[results,B3,PV.flat.flats];by_cases h:x.flat=true<;>by_cases h':y.flat=true<;>simp[h,h']
def Ep1 (c:UInt8) (k:Nat) (hk:k<256):((c.toNat:Int)=(k:Int))↔c=UInt8.ofNat k:=by
 constructor
 ·intro h;have h':c.toNat=k:=by omega
  rw[←h'];simp
 ·rintro rfl;simp;omega
end Go.X
namespace Go.X
open Go
def Gm1 {o:Option T} {t:T} (h:o.map T.slim=some t):∃t0,o=some t0∧t0.slim=t:=Bt.1 h
def FOK (P:Program) (sig:Nat→Option Nat) (f:Nat) (ft:FT):Prop:=
 ∃ func H, P.funcs[f]? = some func ∧ (func.name == "runtime.NumGoroutine") = false ∧ Cf8 sig f func = ft.np ∧ func.params.size < TAG ∧ func.nfree = ft.nf ∧ ∃ t, El2 P sig f func H = some t ∧ t.slim = ft.t
def Kf4 (P:Program) (sig:Nat→Option Nat) (f a b:Nat) (H:Hints):Option T:=
 match P.funcs[f]? with
 |none=>none
 | some fu => if (fu.name == "runtime.NumGoroutine") = false ∧ Cf8 sig f fu = a ∧ fu.params.size < TAG ∧ fu.nfree = b then (El2 P sig f fu H).map T.slim else none
def fok {P:Program} {sig:Nat→Option Nat} {f a b:Nat} {t:T} (H:Hints) (h:Kf4 P sig f a b H=some t:=by kernel_rfl):FOK P sig f ⟨a,b,t⟩:=by
 unfold Kf4 at h;split at h
 ·exact nomatch h
 ·next fu hf=>
  split at h
  ·next hc=>
   obtain⟨t0,h1,h2⟩:=Gm1 h;exact⟨fu,H,hf,hc.1,hc.2.1,hc.2.2.1,hc.2.2.2,t0,h1,h2⟩
  ·exact nomatch h
def lkF:List (Nat×FT)→Nat→Option FT
 |[],_=>none
 |(k,t)::r,f=>if k=f then some t else lkF r f
def Kd7 (P:Program) (sig:Nat→Option Nat):List (Nat×FT)→Prop
 |[]=>True
 |p::r=>FOK P sig p.1 p.2∧Kd7 P sig r
def Jk8 (P:Program):List (Nat×Nat)→Prop
 |[]=>True
 |p::r=>(match Cf4 (some p.2) with|some (T,k)=>El1 P p.1 T k|none=>True)∧Jk8 P r
def Eb8 {P:Program}:∀{l:List (Nat×Nat)},Jk8 P l→Jw3 P (Dn0 l)
 |[],_=>fun f T k h=>by simp[Dn0,Cf4] at h
 |p::r,hl=>fun f T k h=>by
  simp only[Dn0] at h;split at h
  ·rename_i e;subst e;have:=hl.1;rw[h] at this;exact this
  ·exact Eb8 hl.2 f T k h
def Fr2 {P:Program}:Jk8 P []:=trivial
def Hm {P:Program} {p:Nat×Nat} {r:List (Nat×Nat)} (h:Cf4 (some p.2)=none) (hr:Jk8 P r):Jk8 P (p::r):=⟨by rw[h];trivial,hr⟩
def Cr2 {P : Program} {sig : Nat → Option Nat} : ∀ (l : List (Nat × FT)), Kd7 P sig l → ∀ f ft, lkF l f = some ft → ∃ func H, P.funcs[f]? = some func ∧ (func.name == "runtime.NumGoroutine") = false ∧ Cf8 sig f func = ft.np ∧ func.params.size < TAG ∧ func.nfree = ft.nf ∧ ∃ t, El2 P sig f func H = some t ∧ t.slim = ft.t
 |[],_=>fun f ft h=>by simp[lkF] at h
 |(k,t)::r,hl=>fun f ft h=>by
  simp only[lkF] at h;split at h
  ·rename_i e;injection h with h;subst h;subst e;exact hl.1
  ·exact Cr2 r hl.2 f ft h
def Hh3 {P:Program} {sig:Nat→Option Nat} (l:List (Nat×FT)) (h:Kd7 P sig l) (hB:Jw3 P sig):Tab P sig (lkF l):=⟨Cr2 l h,hB⟩
end Go.X
namespace Go.X
def Ax3 {α β:Type} (a:α) (f:α→Option β):(some a).bind f=f a:=by rw[B3]
def Ax4 {α β:Type} (f:α→Option β):(none:Option α).bind f=none:=by rw[Option.bind_none]
def Cj7 {α β:Type} (a:α) (f:α→β):(some a).map f=some (f a):=by rw[Cd]
def Cj8 {α β:Type} (f:α→β):(none:Option α).map f=none:=by rw[Option.map_none]
def kg {α:Type} (a:α) (l m:List α):(a::l)++m=a::(l++m):=by rw[Dl]
def s8 {α:Type} (m:List α):[]++m=m:=by rw[Dw]
def Ck1 {α:Type} (a:α) (l:List α) (i:Nat):(a::l)[i+1]? =l[i]? :=by rw[E6]
def Ck0 {α:Type} (a:α) (l:List α):(a::l)[0]? =some a:=by rw[Dn]
def Cj9 {α:Type} (a:α) (l:List α):(a::l).length=l.length+1:=by rw[Cj]
def Dk7 {α:Type}:([]:List α).length=0:=by rw[C2]
def Cj6 {α:Type} (a:α) (n:Nat):List.replicate (n+1) a=a::List.replicate n a:=by rw[List.replicate_succ]
def Cj5 {α:Type} (a:α):List.replicate 0 a=[]:=by rw[List.replicate_zero]
def Dk9 {α β:Type} (f:α→β) (l:List α) (i:Nat):(l.map f)[i]? =l[i]?.map f:=by rw[C3]
def Dk8 {α β:Type} (f:α→β) (l:List α):(l.map f).length=l.length:=by rw[D2]
set_option linter.defProp false
def EV:=(And.intro @Ax3 (And.intro @Cj7 (And.intro @Ax4 (And.intro @Cj8 (And.intro @kg (And.intro @s8 (And.intro @Ck1 (And.intro @Ck0 (And.intro @Nm (And.intro @Bool.not_false (And.intro @Cj9 (And.intro @Dk7 (And.intro @Cj6 (And.intro @Cj5 (And.intro @Dk9 (And.intro @Dk8 (And.intro @Bool.if_true_left (And.intro @Bool.if_false_right (And.intro @Bool.decide_eq_true (And.intro @Int.natCast_add (And.intro @Int.cast_ofNat_Int (And.intro @F9 (And.intro @decide_eq_true_eq (And.intro @B5 (And.intro @decide_true (And.intro @decide_false (And.intro @Kb7 (And.intro @Kc1 (And.intro @Is6 (And.intro @Kb8 (And.intro @Is1 (And.intro @Hk0 (And.intro @Ir4 (And.intro @Is9 (And.intro @Is3 (And.intro @Hj9 (And.intro @Is2 (And.intro @ev_len (And.intro @Hj7 (And.intro @Hj8 (And.intro @Ir5 (And.intro @Ir9 (And.intro @Is8 (And.intro @Is0 (And.intro @Ir8 (And.intro @Ir6 (And.intro @Hk3 (And.intro @Is7 (And.intro @Ir7 (And.intro @Is4 (And.intro @Is5 (And.intro @Kc0 (And.intro @Kb9 (And.intro @Hk2 (And.intro @Hk1 (And.intro @Ad2 (And.intro @mr (And.intro @Fr1 (And.intro @Eb3 (And.intro @Kd6 (And.intro @Gh1 (And.intro @Ep5 (And.intro @Cr1 (And.intro @Cp6 (And.intro @Cf3 (And.intro @Ag4 (And.intro @Hv7 (And.intro @Gh0 (And.intro @Ip6 (And.intro @Gg9 (And.intro @Fr0 (And.intro @Eb2 (And.intro @Kd5 (And.intro @Gg8 (And.intro @Gg7 (And.intro @Gh2 (And.intro @Ef7 (And.intro @Hx8 (And.intro @Hx7 (And.intro @w64 (And.intro @w8 (And.intro @Gj9 (And.intro @Iw1 (And.intro @Iw0 (And.intro @Kd0 (And.intro @Kd1 (And.intro @Hx3 (And.intro @Hw2 (And.intro @Hw7 (And.intro @Hx2 (And.intro @Hw6 (And.intro @Hw8 (And.intro @Hw9 (And.intro @Hx0 (And.intro @Hx1 (And.intro @Fr7 (And.intro @Fr6 (And.intro @Fr3 (And.intro @Fr4 (And.intro @Fr5 (And.intro @Hg8 (And.intro @Gp7 (And.intro @Zp (And.intro @Jt4 (And.intro @Hl1 (And.intro @Hl3 (And.intro @Hh8 (And.intro @Dm7 (And.intro @Jk1 (And.intro @Vr (And.intro @Gs6 (And.intro @Jt2 (And.intro @Jt3 (And.intro @Pb (And.intro @Jr4 (And.intro @Hl7 (And.intro @Hl9 (And.intro @Hm1 (And.intro @Hl8 (And.intro @Iw3 (And.intro @Iw4 (And.intro @Iw6 (And.intro @Jt0 (And.intro @Jt1 (And.intro @Js9 (And.intro @Js8 (And.intro @Kc3 (And.intro @Iy7 (And.intro @Gt6 (And.intro @Jj4 (And.intro @Hh1 (And.intro @Ir0 (And.intro @Ip9 (And.intro @Ip7 (And.intro @Iv9 (And.intro @Iv8 (And.intro @Iv7 (And.intro @Iv6 (And.intro @Iv5 (And.intro @Iv4 (And.intro @Fh8 (And.intro @Fh7 (And.intro @Ej4 (And.intro @Ip4 (And.intro @Ip3 (And.intro @Ip2 (And.intro @if_true.{1} (And.intro @if_false.{1} (And.intro @ne_eq.{1} (And.intro @not_true (And.intro @not_false_eq_true @Bool.true_eq_false)))))))))))))))))))))))))))))))))))))))))))))))))))))))))))))))))))))))))))))))))))))))))))))))))))))))))))))))))))))))))))))))))))))))))))))))))))))))
end Go.X
namespace Go.X
def ch2 (a0 a1:Bool):(a0=false)∨(a0=true∧a1=false)∨(a0=true∧a1=true):=by cases a0<;>cases a1<;>simp
def ch3 (a0 a1 a2:Bool):(a0=false)∨(a0=true∧a1=false)∨(a0=true∧a1=true∧a2=false)∨(a0=true∧a1=true∧a2=true):=by cases a0<;>cases a1<;>cases a2<;>simp
def ch4 (a0 a1 a2 a3:Bool):(a0=false)∨(a0=true∧a1=false)∨(a0=true∧a1=true∧a2=false)∨(a0=true∧a1=true∧a2=true∧a3=false)∨(a0=true∧a1=true∧a2=true∧a3=true):=by cases a0<;>cases a1<;>cases a2<;>cases a3<;>simp
def ch5 (a0 a1 a2 a3 a4:Bool):(a0=false)∨(a0=true∧a1=false)∨(a0=true∧a1=true∧a2=false)∨(a0=true∧a1=true∧a2=true∧a3=false)∨(a0=true∧a1=true∧a2=true∧a3=true∧a4=false)∨(a0=true∧a1=true∧a2=true∧a3=true∧a4=true):=by cases a0<;>cases a1<;>cases a2<;>cases a3<;>cases a4<;>simp
def ch6 (a0 a1 a2 a3 a4 a5:Bool):(a0=false)∨(a0=true∧a1=false)∨(a0=true∧a1=true∧a2=false)∨(a0=true∧a1=true∧a2=true∧a3=false)∨(a0=true∧a1=true∧a2=true∧a3=true∧a4=false)∨(a0=true∧a1=true∧a2=true∧a3=true∧a4=true∧a5=false)∨(a0=true∧a1=true∧a2=true∧a3=true∧a4=true∧a5=true):=by
 cases a0
 ·exact .inl rfl
 ·rcases ch5 a1 a2 a3 a4 a5 with h|h|h|h|h|h
  ·exact .inr (.inl ⟨rfl,h⟩)
  ·exact .inr (.inr (.inl ⟨rfl,h⟩))
  ·exact .inr (.inr (.inr (.inl ⟨rfl,h⟩)))
  ·exact .inr (.inr (.inr (.inr (.inl ⟨rfl,h⟩))))
  ·exact .inr (.inr (.inr (.inr (.inr (.inl ⟨rfl,h⟩)))))
  ·exact .inr (.inr (.inr (.inr (.inr (.inr (⟨rfl,h⟩))))))
def ch7 (a0 a1 a2 a3 a4 a5 a6:Bool):(a0=false)∨(a0=true∧a1=false)∨(a0=true∧a1=true∧a2=false)∨(a0=true∧a1=true∧a2=true∧a3=false)∨(a0=true∧a1=true∧a2=true∧a3=true∧a4=false)∨(a0=true∧a1=true∧a2=true∧a3=true∧a4=true∧a5=false)∨(a0=true∧a1=true∧a2=true∧a3=true∧a4=true∧a5=true∧a6=false)∨(a0=true∧a1=true∧a2=true∧a3=true∧a4=true∧a5=true∧a6=true):=by
 cases a0
 ·exact .inl rfl
 ·rcases ch6 a1 a2 a3 a4 a5 a6 with h|h|h|h|h|h|h
  ·exact .inr (.inl ⟨rfl,h⟩)
  ·exact .inr (.inr (.inl ⟨rfl,h⟩))
  ·exact .inr (.inr (.inr (.inl ⟨rfl,h⟩)))
  ·exact .inr (.inr (.inr (.inr (.inl ⟨rfl,h⟩))))
  ·exact .inr (.inr (.inr (.inr (.inr (.inl ⟨rfl,h⟩)))))
  ·exact .inr (.inr (.inr (.inr (.inr (.inr (.inl ⟨rfl,h⟩))))))
  ·exact .inr (.inr (.inr (.inr (.inr (.inr (.inr (⟨rfl,h⟩)))))))
def ch8 (a0 a1 a2 a3 a4 a5 a6 a7:Bool):(a0=false)∨(a0=true∧a1=false)∨(a0=true∧a1=true∧a2=false)∨(a0=true∧a1=true∧a2=true∧a3=false)∨(a0=true∧a1=true∧a2=true∧a3=true∧a4=false)∨(a0=true∧a1=true∧a2=true∧a3=true∧a4=true∧a5=false)∨(a0=true∧a1=true∧a2=true∧a3=true∧a4=true∧a5=true∧a6=false)∨(a0=true∧a1=true∧a2=true∧a3=true∧a4=true∧a5=true∧a6=true∧a7=false)∨(a0=true∧a1=true∧a2=true∧a3=true∧a4=true∧a5=true∧a6=true∧a7=true):=by
 cases a0
 ·exact .inl rfl
 ·rcases ch7 a1 a2 a3 a4 a5 a6 a7 with h|h|h|h|h|h|h|h
  ·exact .inr (.inl ⟨rfl,h⟩)
  ·exact .inr (.inr (.inl ⟨rfl,h⟩))
  ·exact .inr (.inr (.inr (.inl ⟨rfl,h⟩)))
  ·exact .inr (.inr (.inr (.inr (.inl ⟨rfl,h⟩))))
  ·exact .inr (.inr (.inr (.inr (.inr (.inl ⟨rfl,h⟩)))))
  ·exact .inr (.inr (.inr (.inr (.inr (.inr (.inl ⟨rfl,h⟩))))))
  ·exact .inr (.inr (.inr (.inr (.inr (.inr (.inr (.inl ⟨rfl,h⟩)))))))
  ·exact .inr (.inr (.inr (.inr (.inr (.inr (.inr (.inr (⟨rfl,h⟩))))))))
def ch9 (a0 a1 a2 a3 a4 a5 a6 a7 a8:Bool):(a0=false)∨(a0=true∧a1=false)∨(a0=true∧a1=true∧a2=false)∨(a0=true∧a1=true∧a2=true∧a3=false)∨(a0=true∧a1=true∧a2=true∧a3=true∧a4=false)∨(a0=true∧a1=true∧a2=true∧a3=true∧a4=true∧a5=false)∨(a0=true∧a1=true∧a2=true∧a3=true∧a4=true∧a5=true∧a6=false)∨(a0=true∧a1=true∧a2=true∧a3=true∧a4=true∧a5=true∧a6=true∧a7=false)∨(a0=true∧a1=true∧a2=true∧a3=true∧a4=true∧a5=true∧a6=true∧a7=true∧a8=false)∨(a0=true∧a1=true∧a2=true∧a3=true∧a4=true∧a5=true∧a6=true∧a7=true∧a8=true):=by
 cases a0
 ·exact .inl rfl
 ·rcases ch8 a1 a2 a3 a4 a5 a6 a7 a8 with h|h|h|h|h|h|h|h|h
  ·exact .inr (.inl ⟨rfl,h⟩)
  ·exact .inr (.inr (.inl ⟨rfl,h⟩))
  ·exact .inr (.inr (.inr (.inl ⟨rfl,h⟩)))
  ·exact .inr (.inr (.inr (.inr (.inl ⟨rfl,h⟩))))
  ·exact .inr (.inr (.inr (.inr (.inr (.inl ⟨rfl,h⟩)))))
  ·exact .inr (.inr (.inr (.inr (.inr (.inr (.inl ⟨rfl,h⟩))))))
  ·exact .inr (.inr (.inr (.inr (.inr (.inr (.inr (.inl ⟨rfl,h⟩)))))))
  ·exact .inr (.inr (.inr (.inr (.inr (.inr (.inr (.inr (.inl ⟨rfl,h⟩))))))))
  ·exact .inr (.inr (.inr (.inr (.inr (.inr (.inr (.inr (.inr (⟨rfl,h⟩)))))))))
end Go.X
