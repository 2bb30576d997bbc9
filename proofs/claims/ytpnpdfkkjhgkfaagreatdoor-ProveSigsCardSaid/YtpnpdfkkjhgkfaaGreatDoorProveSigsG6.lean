/- What comes in: the readings of a row's arguments as plain values. -/
import Derived.Test.YtpnpdfkkjhgkfaaGreatDoorProveSigsG4
import GoSem.ClaimChange
import Derived.WideShapes
import Derived.ChangeShapes
import Derived.OpenShut
import Derived.Carry
import Derived.SizedLaws
import Derived.IntWalk
open Array renaming getElem?_toList→Ah,length_toList→Bm
open Bool renaming and_eq_true→Ay,false_eq_true→Ad,not_true→d8
open Int renaming toNat_natCast→Es
open List renaming getElem?_eq_some_iff→Av,getElem?_eq_getElem→Az,length_append→Ab,length_cons→A5,length_nil→Bz,getElem?_map→Bc,getD_eq_getElem?_getD→Bg,take_append_drop→Bs,cons_append→B0,getElem?_cons_zero→B3,getElem?_range→B8,nil_append→Cj,drop_eq_getElem_cons→Cf,drop_drop→Cm,getElem?_cons_succ→C5,length_map→Dr,getElem?_of_mem→Dt,drop_eq_nil_of_le→Fz,mapM_cons→Iz,length_range→lp
open Nat renaming add_mul→B7,zero_le→B9,add_zero→C9,mod_eq_of_lt→Dn,zero_add→D3,one_mul→E7
open Option renaming bind_eq_some_iff→Aj,map_eq_some_iff→Aw,bind_some→Ax,map_some→A4,bind_eq_bind→Qw,isSome_none→Vr,pure_def→Yd
open Option.some renaming injEq→Ak
set_option maxHeartbeats 1000000
set_option linter.defProp false
set_option linter.unusedVariables false
set_option linter.unusedSimpArgs false
namespace Go.X
open Go
inductive Sh where
 |b|i (k:IntKind)|s
 |l (e:Sh)
 |st (fs:List Sh)
 deriving Inhabited
mutual
def Sh.size:Sh→Nat
 | .st fs=>Sh.sizes fs
 |_=>1
def Sh.sizes:List Sh→Nat
 |[]=>0
 |f::fs=>f.size+Sh.sizes fs
end
def Sh.agg:Sh→Bool
 | .st _=>true
 |_=>false
mutual
def Sh.okC:Sh→List PV→Prop
 | .b,cs=>∃x,cs=[.b x]
 | .i k,cs=>∃n,cs=[.i k n]∧k.min≤n∧n≤k.max
 | .s,cs=>∃x,cs=[.s x]∧x.length≤maxLen
 | .l e,cs=>∃xs,cs=[.l e.size xs]∧xs.length≤maxLen∧∀x,x∈xs→if e.agg then∃ds,x= .a ds∧e.okC ds else x.scal=true∧e.okC [x]
 | .st fs,cs=>Sh.okCs fs cs
def Sh.okCs:List Sh→List PV→Prop
 |[],cs=>cs=[]
 |f::fs,cs=>∃a b,cs=a++b∧f.okC a∧Sh.okCs fs b
end
def Sh.ok (sh:Sh) (p:PV):Prop:=if sh.agg then∃ds,p= .a ds∧sh.okC ds else p.scal=true∧sh.okC [p]
mutual
def Sh.okC_len:∀(sh:Sh) (cs:List PV),sh.okC cs→cs.length=sh.size
 | .b,cs,h=>by simp only [Sh.okC] at h;obtain ⟨x,rfl⟩:=h;rfl
 | .i k,cs,h=>by simp only [Sh.okC] at h;obtain ⟨n,rfl,_⟩:=h;rfl
 | .s,cs,h=>by simp only [Sh.okC] at h;obtain ⟨x,rfl,_⟩:=h;rfl
 | .l e,cs,h=>by simp only [Sh.okC] at h;obtain ⟨x,rfl,_⟩:=h;rfl
 | .st fs,cs,h=>by simp only [Sh.okC] at h;simp only [Sh.size];exact Sh.okCs_len fs cs h
def Sh.okCs_len:∀(fs:List Sh) (cs:List PV),Sh.okCs fs cs→cs.length=Sh.sizes fs
 |[],cs,h=>by simp only [Sh.okCs] at h;subst h;rfl
 |f::fs,cs,h=>by simp only [Sh.okCs] at h;obtain ⟨a,b,rfl,h1,h2⟩:=h;rw [Ab,Sh.okC_len f a h1,Sh.okCs_len fs b h2];rfl
end
def Nx (P:Program) (f:TypeId→Option Sh):List Field→Nat→Option (List Sh)
 |[],_=>some []
 |x::fs,off=>if x.offset=off then match f x.type with
  |some sh=>if P.cellsOf x.type=sh.size then (Nx P f fs (off+sh.size)).map (sh::·) else none
  |none=>none
  else none
def Ac7 (P:Program):Nat→TypeId→Option Sh
 |0,_=>none
 |d+1,t=>match P.underlying t with
  |some .bool=>some .b
  |some (.int k)=>some (.i k)
  |some .string=>some .s
  |some (.slice e)=>match Ac7 P d e with
   |some sh=>if P.cellsOf e=sh.size then some (.l sh) else none
   |none=>none
  |some (.struct fs)=>match Nx P (Ac7 P d) fs.toList 0 with
   |some shs=>if P.cellsOf t=Sh.sizes shs then some (.st shs) else none
   |none=>none
  |some (.array n e)=>match Ac7 P d e with
   |some sh=>if P.cellsOf e=sh.size then (if P.cellsOf t=n*sh.size then some (.st (List.replicate n sh)) else none) else none
   |none=>none
  |_=>none
def Xx {α β:Type} {f:α→Option β}:∀{l:List α} {ys:List β},l.mapM f=some ys→ys.length=l.length∧∀(i:Nat) (x:α) (y:β),l[i]? =some x→ys[i]? =some y→f x=some y
 |[],ys,h=>by simp at h;subst h;exact ⟨rfl,fun i x y hx=>by simp at hx⟩
 |x::l,ys,h=>by
  simp only [Iz,Qw,Aj,Yd,Ak] at h;obtain ⟨y,hy,r,hr,rfl⟩:=h;obtain ⟨h1,h2⟩:=Xx hr;refine ⟨by simp [h1],fun i a b ha hb=> ?_⟩;cases i with
  |zero=>simp at ha hb;subst ha;subst hb;exact hy
  |succ i=>exact h2 i a b (by simpa using ha) (by simpa using hb)
def O5 (agg:Bool) (cs:List PV):PV:=if agg then .a cs else cs.headD .u
abbrev S1:Nat→Option Nat:=fun _=>none
def dr (M:Vw) (pcs:List PV) (cs:List Value):Prop:=pcs.length=cs.length∧∀(j:Nat) (p:PV) (v:Value),pcs[j]? =some p→cs[j]? =some v→One v∧Rep M p v
def dr.append {M:Vw} {p q:List PV} {c d:List Value} (h:dr M p c) (h':dr M q d):dr M (p++q) (c++d):=by
 refine ⟨by simp [h.1,h'.1],fun j x v hx hv=> ?_⟩;rw [List.getElem?_append] at hx hv;rw [h.1] at hx;split at hx
 ·rename_i hj;rw [if_pos hj] at hv;exact h.2 j x v hx hv
 ·rename_i hj;rw [if_neg hj] at hv;exact h'.2 _ x v hx hv
def dr.one {M:Vw} {p:PV} {v:Value} (h1:One v) (h:Rep M p v):dr M [p] [v]:=
 ⟨rfl,fun j q u hq hu=>by cases j with
  |zero=>simp at hq hu;subst hq;subst hu;exact ⟨h1,h⟩
  |succ j=>simp at hq⟩
def W6 {e:Sh} (he:e.agg=false) {cs:List PV} (h:e.okC cs):∃p,cs=[p]∧p.scal=true:=by
 cases e with
 |b=>simp only [Sh.okC] at h;obtain ⟨x,rfl⟩:=h;exact ⟨_,rfl,rfl⟩
 |i k=>simp only [Sh.okC] at h;obtain ⟨n,rfl,_⟩:=h;exact ⟨_,rfl,rfl⟩
 |s=>simp only [Sh.okC] at h;obtain ⟨n,rfl,_⟩:=h;exact ⟨_,rfl,rfl⟩
 |l e=>simp only [Sh.okC] at h;obtain ⟨n,rfl,_⟩:=h;exact ⟨_,rfl,rfl⟩
 |st fs=>simp [Sh.agg] at he
def W7 {e:Sh} {cs:List PV} (h:e.okC cs):(O5 e.agg cs).cells=cs:=by
 cases he:e.agg with
 |true=>rfl
 |false=>
  obtain ⟨p,rfl,hp⟩:=W6 he h;exact PV.scal_cells hp
def cells?_get {w:World} {base:Nat} {a:Addr} {n:Nat} {cs:List Value} (h:w.cells? base a n=some cs):cs.length=n∧∀j v,cs[j]? =some v→w.cell? (a.add j)=some v:=by
 unfold World.cells? at h;split at h
 ·obtain ⟨h1,h2⟩:=Xx h;simp only [lp] at h1;refine ⟨h1,fun j v hv=> ?_⟩;have hj:j<n:=by rw [←h1];exact (Av.1 hv).1
  exact h2 j j v (B8 hj) hv
 ·cases h
def Wv {H:Type} {enc:TypeId×Value→H} {P:Program} {w:World} {base:Nat} {spare:Nat→Bool} {held:Bool}:∀(fuel d:Nat) (t:TypeId) (sh:Sh) (cs:List Value) (x:DataW H×List MemPlace),Ac7 P d t=some sh→DataW.trod enc P w base spare held fuel t cs=some x→
  ∃pcs,sh.okC pcs∧dr (Bd w S1) pcs cs
 |0,d,t,sh,cs,x,hs,h=>by simp [DataW.trod] at h
 |fuel+1,0,t,sh,cs,x,hs,h=>by simp [Ac7] at hs
 |fuel+1,d+1,t,sh,cs,x,hs,h=>by
  simp only [Ac7] at hs;split at hs
  ·rename_i hu;injection hs with hs;subst hs;simp only [DataW.trod,hu] at h;split at h<;>first|(rename_i heq;simp at heq;done)|(cases h;done)|skip
   exact ⟨_,⟨_,rfl⟩,dr.one rfl (.b _)⟩
  ·rename_i k hu;injection hs with hs;subst hs;simp only [DataW.trod,hu] at h;split at h<;>first|(rename_i heq;simp at heq;done)|(cases h;done)|skip
   rename_i k1 k2 n heq;injection heq with heq;injection heq with heq;subst heq;split at h
   ·rename_i hc;obtain ⟨rfl,hwf⟩:=hc;simp only [Lit.wf,Ay,decide_eq_true_eq] at hwf;exact ⟨_,⟨_,rfl,hwf⟩,dr.one rfl (.i _ _)⟩
   ·cases h
  ·rename_i hu;injection hs with hs;subst hs;simp only [DataW.trod,hu] at h;split at h<;>first|(rename_i heq;simp at heq;done)|(cases h;done)|skip
   rename_i s heq;split at h
   ·rename_i hc;refine ⟨_,⟨s.data.toList,rfl,?_⟩,dr.one rfl (.s _ _ rfl)⟩;rw [Bm];exact hc
   ·cases h
  ·-- a slice
   rename_i e hu;split at hs
   ·rename_i she hse;split at hs
    ·rename_i hsz;injection hs with hs;subst hs;simp only [DataW.trod,hu] at h;split at h<;>first|(rename_i heq;simp at heq;done)|(cases h;done)|skip
     ·exact ⟨_,⟨[],rfl,B9 _,fun x hx=>by simp at hx⟩,dr.one rfl (Rep.lnil _ _ _ _)⟩
     ·rename_i e' a len cap heq;injection heq with heq;injection heq with heq;subst heq;split at h
      ·rename_i hc;obtain ⟨elems,hel,_⟩:=Aj.1 h;obtain ⟨hl,hget⟩:=Xx hel;simp only [lp] at hl;have each:∀i,i<len→∃ecs pcs,w.cells? base (a.add (i*P.cellsOf e)) (P.cellsOf e)=some ecs∧she.okC pcs∧dr (Bd w S1) pcs ecs:=by intro i hi;have hx:elems[i]? =some (elems[i]'(by omega)):=Az (by omega);have:=hget i i _ (B8 hi) hx;obtain ⟨ecs,h1,h2⟩:=Aj.1 this;obtain ⟨pcs,h3,h4⟩:=Wv fuel d e she ecs _ hse h2;exact ⟨ecs,pcs,h1,h3,h4⟩
       have pick:∃f:Nat→List PV×List Value,∀i,i<len→w.cells? base (a.add (i*P.cellsOf e)) (P.cellsOf e)=some (f i).2∧she.okC (f i).1∧dr (Bd w S1) (f i).1 (f i).2:=by
        have:∀i,∃y:List PV×List Value,i<len→w.cells? base (a.add (i*P.cellsOf e)) (P.cellsOf e)=some y.2∧she.okC y.1∧dr (Bd w S1) y.1 y.2:=by
         intro i;by_cases hi:i<len
         ·obtain ⟨ecs,pcs,h1,h2,h3⟩:=each i hi;exact ⟨(pcs,ecs),fun _=>⟨h1,h2,h3⟩⟩
         ·exact ⟨default,fun h=>absurd h hi⟩
        exact ⟨fun i=>(this i).choose,fun i hi=>(this i).choose_spec hi⟩
       obtain ⟨f,hf⟩:=pick;have hsz':P.cellsOf e=she.size:=hsz;have hxs:∀(i:Nat) (x:PV),((List.range len).map fun i=>O5 she.agg (f i).1)[i]? =some x→i<len∧x=O5 she.agg (f i).1∧x.cells=(f i).1:=by
        intro i x hx;simp only [Bc,Aw] at hx;obtain ⟨k,hk,rfl⟩:=hx;have hi:i<len:=by have:=(Av.1 hk).1;simpa using this
        rw [B8 hi] at hk;injection hk with hk;subst hk;exact ⟨hi,rfl,W7 (hf i hi).2.1⟩
       have hlen:((List.range len).map fun i=>O5 she.agg (f i).1).length=len:=by simp
       refine ⟨[.l she.size ((List.range len).map fun i=>O5 she.agg (f i).1)],⟨_,rfl,by rw [hlen];omega,fun x hx=> ?_⟩,dr.one rfl ?_⟩
       ·obtain ⟨i,hi⟩:=Dt hx;obtain ⟨h1,h2,h3⟩:=hxs i x hi;cases he:she.agg with
        |true=>
         simp only [if_true];exact ⟨(f i).1,by rw [h2,he];rfl,(hf i h1).2.1⟩
        |false=>
         simp only [Ad,if_false];obtain ⟨p,hp,hps⟩:=W6 he (hf i h1).2.1;have:x=p:=by rw [h2,he,hp];rfl
         subst this;exact ⟨hps,by rw [←hp];exact (hf i h1).2.1⟩
       ·have:=Rep.l (M:=Bd w S1) she.size ((List.range len).map fun i=>O5 she.agg (f i).1) (some a) cap a (fun i j=>(f i).2.getD j undef) (by rw [hlen];exact hc.2.1) (fun _=>rfl)
         (fun i x hx=>by obtain ⟨h1,h2,h3⟩:=hxs i x hx;rw [h3];exact Sh.okC_len _ _ (hf i h1).2.1) ?_ ?_ ?_
        ·rw [hlen] at this;exact this
        all_goals
         intro i x j c hx hcj;obtain ⟨h1,h2,h3⟩:=hxs i x hx;obtain ⟨g1,g2,g3⟩:=hf i h1;rw [h3] at hcj;obtain ⟨c1,c2⟩:=cells?_get g1;have hj:j<(f i).2.length:=by rw [←g3.1];exact (Av.1 hcj).1
         have hv:(f i).2[j]? =some ((f i).2[j]):=Az hj;have hd:(f i).2.getD j undef=(f i).2[j]:=by rw [Bg,hv];rfl
        ·rw [hd];refine Ec ?_ (fun lim hl=>by cases hl);rw [←hsz',←Addr.add_add];exact c2 j _ hv
        ·rw [hd];exact (g3.2 j c _ hcj hv).1
        ·rw [hd];exact (g3.2 j c _ hcj hv).2
      ·cases h
    ·cases hs
   ·cases hs
  ·-- a struct
   rename_i fs hu;split at hs
   ·rename_i shs hshs;split at hs
    ·rename_i hsz;injection hs with hs;subst hs;have h':∃ys,cs.length=P.cellsOf t∧(fs.toList.mapM fun f=>DataW.trod enc P w base spare held fuel f.type ((cs.drop f.offset).take (P.cellsOf f.type)))=some ys:=by
      simp only [DataW.trod,hu] at h;by_cases hl:cs.length=P.cellsOf t
      ·rw [if_pos hl] at h;obtain ⟨ys,hy,_⟩:=Aw.1 h;exact ⟨ys,hl,hy⟩
      ·rw [if_neg hl] at h;cases h
     obtain ⟨ys,hlen,hys⟩:=h';have go:∀(l:List Field) (off:Nat) (shs:List Sh) (ys:List (DataW H×List MemPlace)),Nx P (Ac7 P d) l off=some shs→(l.mapM fun f=>DataW.trod enc P w base spare held fuel f.type ((cs.drop f.offset).take (P.cellsOf f.type)))=some ys→cs.length=off+Sh.sizes shs→
       ∃pcs,Sh.okCs shs pcs∧dr (Bd w S1) pcs (cs.drop off):=by
      intro l
      induction l with
      |nil=>
       intro off shs ys h1 h2 h3;simp only [Nx,Ak] at h1;subst h1;refine ⟨[],rfl,?_⟩;have:cs.drop off=[]:=Fz (by simp only [Sh.sizes] at h3;omega);rw [this];exact ⟨rfl,fun j p v hp=>by simp at hp⟩
      |cons fl l ih=>
       intro off shs ys h1 h2 h3;simp only [Nx] at h1;split at h1
       ·rename_i hoff;subst hoff;split at h1
        ·rename_i sh hsh;split at h1
         ·rename_i hsize;obtain ⟨rest,hrest,rfl⟩:=Aw.1 h1;simp only [Iz,Qw,Aj,Yd,Ak] at h2;obtain ⟨y,hy,r,hr,rfl⟩:=h2;obtain ⟨pcs,p1,p2⟩:=Wv fuel d fl.type sh _ _ hsh hy;simp only [Sh.sizes] at h3;obtain ⟨qcs,q1,q2⟩:=ih (fl.offset+sh.size) rest r hrest hr (by omega);refine ⟨pcs++qcs,⟨pcs,qcs,rfl,p1,q1⟩,?_⟩;have e:cs.drop fl.offset=(cs.drop fl.offset).take (P.cellsOf fl.type)++cs.drop (fl.offset+sh.size):=by rw [hsize,←Cm,Bs]
          rw [e];exact p2.append q2
         ·cases h1
        ·cases h1
       ·cases h1
     obtain ⟨pcs,p1,p2⟩:=go fs.toList 0 shs ys hshs hys (by omega);exact ⟨pcs,p1,by simpa using p2⟩
    ·cases hs
   ·cases hs
  ·-- an array
   rename_i n e hu;split at hs
   ·rename_i sh hse;split at hs
    ·rename_i hsz;split at hs
     ·rename_i hsz2;injection hs with hs;subst hs;have h':∃ys,cs.length=P.cellsOf t∧((List.range n).mapM fun i=>DataW.trod enc P w base spare held fuel e ((cs.drop (i*P.cellsOf e)).take (P.cellsOf e)))=some ys:=by
       simp only [DataW.trod,hu] at h;by_cases hl:cs.length=P.cellsOf t
       ·rw [if_pos hl] at h;obtain ⟨ys,hy,_⟩:=Aw.1 h;exact ⟨ys,hl,hy⟩
       ·rw [if_neg hl] at h;cases h
      obtain ⟨ys,hlen,hys⟩:=h';have go:∀(m off:Nat) (ys:List (DataW H×List MemPlace)),((List.range' off m).mapM fun i=>DataW.trod enc P w base spare held fuel e ((cs.drop (i*P.cellsOf e)).take (P.cellsOf e)))=some ys→cs.length=off*sh.size+m*sh.size→
        ∃pcs,Sh.okCs (List.replicate m sh) pcs∧dr (Bd w S1) pcs (cs.drop (off*sh.size)):=by
       intro m
       induction m with
       |zero=>
        intro off ys h2 h3;refine ⟨[],rfl,?_⟩;have:cs.drop (off*sh.size)=[]:=Fz (by omega);rw [this];exact ⟨rfl,fun j p v hp=>by simp at hp⟩
       |succ m ih=>
        intro off ys h2 h3;simp only [List.range'_succ,Iz,Qw,Aj,Yd,Ak] at h2;obtain ⟨y,hy,r,hr,rfl⟩:=h2;obtain ⟨pcs,p1,p2⟩:=Wv fuel d e sh _ _ hse hy;have e1:(off+1)*sh.size=off*sh.size+sh.size:=by rw [B7,E7]
        have e2:(m+1)*sh.size=m*sh.size+sh.size:=by rw [B7,E7]
        obtain ⟨qcs,q1,q2⟩:=ih (off+1) r hr (by omega);refine ⟨pcs++qcs,⟨pcs,qcs,rfl,p1,q1⟩,?_⟩;rw [hsz] at p2;have e3:cs.drop (off*sh.size)=(cs.drop (off*sh.size)).take sh.size++cs.drop ((off+1)*sh.size):=by rw [e1,←Cm,Bs]
        rw [e3];exact p2.append q2
      rw [List.range_eq_range'] at hys;obtain ⟨pcs,p1,p2⟩:=go n 0 ys hys (by omega);refine ⟨pcs,?_,by simpa using p2⟩;simpa only [Sh.okC] using p1
     ·cases hs
    ·cases hs
   ·cases hs
  ·cases hs
end Go.X
/- A law's row: what its call comes to, said of readings. -/
namespace Go.X
open Go Go.RowKit Go.ChangeShapes Go.WideShapes
section
variable {H:Type} {enc:TypeId×Value→H} {P:Program} {sig:Nat→Option Nat} {tab:Nat→Option FT} {ext:Fns→Fns}
def Ac9 (hM:H1 ext) (hT:Tab P sig tab) (hE:∀fn,Contract P sig fn→Contract P sig (ext fn)) {f n:Nat} {ft:FT} {vs rs:List PV} (hf:tab f=some ft) (hmu:U3 (sig f)=none) (hfa:c5 (sig f)=none) (h:sem tab ext f n vs=some rs) {w:World} {O:Nat→Option Nat} {args:Array Value} (hg:Given w O n vs args):
  Calls P f args w fun e w'=>∃v,e= .returned v∧Dk0 P (sig f) w O rs v w':=by
 obtain ⟨k,hk⟩:=(Mg hM).1 h;cases k with
 |zero=>simp [Ms] at hk
 |succ k=>
  rw [Ms] at hk;simp only [hf] at hk;split at hk
  ·rename_i hc;obtain ⟨o,ho,hk⟩:=Aj.1 hk;split at hk
   ·injection hk with hk;subst hk;obtain ⟨func,Hn,hfn,hn,hp,hlt,hnf,t0,hx,hs⟩:=hT.1 f ft hf;rw [←hs,G7] at ho;unfold Av4 at hp;rw [hmu,hfa] at hp;simp only [Vr,Bool.or_self,Ad,if_false,C9] at hp;exact fx (Ad6 hT hE k) hmu hfn hx ho (by rw [hc.2,←hp,Dn hlt,hnf]) (by rw [hp,hc.1];exact hg) (fun e he=>by rw [hfa] at he;cases he)
   ·cases hk
  ·cases hk
def Oks:List Sh→List PV→Prop
 |[],[]=>True
 |sh::ss,p::ps=>sh.ok p∧Oks ss ps
 |_,_=>False
def Oks.len:∀{ss:List Sh} {ps:List PV},Oks ss ps→ps.length=ss.length
 |[],[],_=>rfl
 |_::_,_::_,h=>by simp [Oks.len h.2]
 |[],_::_,h=>h.elim
 |_::_,[],h=>h.elim
def Zc (P:Program) (ts:List TypeId):Option (List Sh):=ts.mapM (Ac7 P 30)
def Ch4 {w:World} {base b0:Nat} {spare:Nat→Bool} {held:Bool} {t:TypeId} {v:Value} {d:DataW H} {ps:List MemPlace} {sh:Sh} {n:Nat} (hs:Ac7 P n t=some sh) (hok:Value.okWide P w .any base t v) (h:DataW.Trod enc P w b0 spare held t v d ps):
  ∃p,sh.ok p∧Rep (Bd w S1) p v:=by
 obtain ⟨fuel,hf⟩:=h;obtain ⟨pcs,h1,h2⟩:=Wv fuel n t sh _ _ hs hf;have single:sh.agg=false→v.cells= #[v]→∃p,sh.ok p∧Rep (Bd w S1) p v:=by intro ha hv;obtain ⟨p,rfl,hp⟩:=W6 ha h1;rw [hv] at h2;refine ⟨p,?_,(h2.2 0 p v rfl rfl).2⟩;unfold Sh.ok;rw [ha];simp only [Ad,if_false];exact ⟨hp,h1⟩
 cases n with
 |zero=>simp [Ac7] at hs
 |succ n=>
  simp only [Ac7] at hs;split at hs
  ·rename_i hu;injection hs with hs;subst hs;obtain ⟨b,rfl⟩:=okWide_bool hu hok;exact single rfl rfl
  ·rename_i k hu;injection hs with hs;subst hs;obtain ⟨b,rfl⟩:=okWide_int hu hok;exact single rfl rfl
  ·rename_i hu;injection hs with hs;subst hs;obtain ⟨b,rfl⟩:=okWide_string hu hok;exact single rfl rfl
  ·rename_i e hu;split at hs
   ·split at hs
    ·injection hs with hs;subst hs;obtain ⟨a,l,c,rfl⟩:=okWide_slice hu hok;exact single rfl rfl
    ·cases hs
   ·cases hs
  ·rename_i fs hu;split at hs
   ·split at hs
    ·injection hs with hs;subst hs;simp only [Value.okWide,hu] at hok;obtain ⟨cs,rfl,_,_⟩:=hok;refine ⟨.a pcs,?_,?_⟩
     ·unfold Sh.ok;simp only [Sh.agg,if_true];exact ⟨pcs,rfl,h1⟩
     ·have hl:pcs.length=cs.toList.length:=h2.1;refine Rep.a pcs cs (by rw [hl,Bm]) (fun u hu=> ?_) (fun j c u hc hu=>(h2.2 j c u hc (by show cs.toList[j]? =some u;rw [Ah];exact hu)).2);obtain ⟨j,hj⟩:=Dt hu;have hj1:=(Av.1 hj).1;exact (h2.2 j _ u (Az (by omega)) hj).1
    ·cases hs
   ·cases hs
  ·rename_i n e hu;split at hs
   ·split at hs
    ·split at hs
     ·injection hs with hs;subst hs;simp only [Value.okWide,hu] at hok;obtain ⟨cs,rfl,_,_⟩:=hok;refine ⟨.a pcs,?_,?_⟩
      ·unfold Sh.ok;simp only [Sh.agg,if_true];exact ⟨pcs,rfl,h1⟩
      ·have hl:pcs.length=cs.toList.length:=h2.1;refine Rep.a pcs cs (by rw [hl,Bm]) (fun u hu=> ?_) (fun j c u hc hu=>(h2.2 j c u hc (by show cs.toList[j]? =some u;rw [Ah];exact hu)).2);obtain ⟨j,hj⟩:=Dt hu;have hj1:=(Av.1 hj).1;exact (h2.2 j _ u (Az (by omega)) hj).1
     ·cases hs
    ·cases hs
   ·cases hs
  ·cases hs
def o8 {w:World} {base b0:Nat} {spare:Nat→Bool} {held:Bool}:∀{ts:List TypeId} {shs:List Sh} {vs:List Value} {ds:List (DataW H)} {ps:List MemPlace},Zc P ts=some shs→(∀(j:Nat) t v,ts[j]? =some t→vs[j]? =some v→Value.okWide P w .any base t v)→
  DataW.TrodAll enc P w b0 spare held ts vs ds ps→∃qs,Oks shs qs∧qs.length=vs.length∧∀(j:Nat) (p:PV) (v:Value),qs[j]? =some p→vs[j]? =some v→Rep (Bd w S1) p v
 |[],shs,vs,ds,ps,hs,hok,h=>by simp only [Zc,List.mapM_nil,Yd,Ak] at hs;subst hs;obtain ⟨rfl,rfl,rfl⟩:=trodAll_nil h;exact ⟨[],trivial,rfl,fun j p v hp=>by simp at hp⟩
 |t::ts,shs,vs,ds,ps,hs,hok,h=>by
  simp only [Zc,Iz,Qw,Aj,Yd,Ak] at hs;obtain ⟨sh,hsh,rest,hrest,rfl⟩:=hs;obtain ⟨v,vs',d,ds',p,q,rfl,rfl,rfl,h1,h2⟩:=trodAll_cons h;obtain ⟨x,x1,x2⟩:=Ch4 hsh (hok 0 t v rfl rfl) h1;obtain ⟨qs,q1,q2,q3⟩:=o8 hrest (fun j t' v' ht hv=>hok (j+1) t' v' (by simpa using ht) (by simpa using hv)) h2;refine ⟨x::qs,⟨x1,q1⟩,by simp [q2],fun j p' v' hp hv=> ?_⟩;cases j with
  |zero=>simp at hp hv;subst hp;subst hv;exact x2
  |succ j=>exact q3 j p' v' (by simpa using hp) (by simpa using hv)
def tj (hl:laidOutB P=true) {W W':World} (hb:Below W.heap.size W W'):∀{ts:List TypeId} {vs:List Value} {ds:List (DataW H)} {ps:List MemPlace},(ts.all fun t=>P.readableRec t && decide (t<P.types.size))=true→DataW.TrodAll enc P W 0 (fun _=>true) true ts vs ds ps→
  DataW.TrodAll enc P W' 0 (fun b=>decide (b<W.heap.size)) true ts vs ds ps
 |[],vs,ds,ps,_,h=>by obtain ⟨rfl,rfl,rfl⟩:=trodAll_nil h;exact trodAll_mk0
 |t::ts,vs,ds,ps,hr,h=>by simp only [List.all_cons,Ay,decide_eq_true_eq] at hr;obtain ⟨v,vs',d,ds',p,q,rfl,rfl,rfl,h1,h2⟩:=trodAll_cons h;refine trodAll_cons_mk (Below.trod hl hr.1.1 hr.1.2 h1 hb ?_) (tj hl hb (by simpa using hr.2) h2);obtain ⟨m,hm⟩:=h1;exact DataW.trod_lt m _ _ _ hm
def law_calls (hM:H1 ext) (hT:Tab P sig tab) (hE:∀fn,Contract P sig fn→Contract P sig (ext fn)) {f:Nat} {ft:FT} (hf:tab f=some ft) (hsig:sig f=none) {ts:List TypeId} {shs:List Sh} (hs:Zc P ts=some shs)
  (law:∀qs,Oks shs qs→sem tab ext f shs.length qs=some [.b true]) {W:World} {base b0:Nat} {spare:Nat→Bool} {held:Bool} {args:Array Value} {ds:List (DataW H)} {ps:List MemPlace}
  (hok:∀(j:Nat) t v,ts[j]? =some t→args[j]? =some v→Value.okWide P W .any base t v) (h:DataW.TrodAll enc P W b0 spare held ts args.toList ds ps):
  Calls P f args W fun e W'=>e= .returned (.bool true)∧Below W.heap.size W W':=by
 obtain ⟨qs,q1,q2,q3⟩:=o8 hs (fun j t v ht hv=>hok j t v ht (by simpa using hv)) h;have hlen:=q1.len;refine (Ac9 hM hT hE hf (by rw [hsig];rfl) (by rw [hsig];rfl) (law qs q1) (O:=S1) ⟨fun _ _=>rfl,by rw [q2,Bm],fun j p v _ hp hv=>q3 j p v hp (by simpa using hv),fun j p v hj hp _=> ?_⟩).mono fun e w' ⟨v,he,hb⟩=> ?_
 ·have:=(Av.1 hp).1;omega
 ·subst he;rw [hsig] at hb;obtain ⟨hbel,O',_,_,hres⟩:=hb;have hr:Rep (Bd w' O') (.b true) v:=hres;exact ⟨by rw [hr.bool],hbel.to⟩
end
end Go.X
/- Residual programs, evaluated by rewriting. -/
namespace Go.X
open Go
def Bh (j:Nat) (p:PV):Option PV:=p.cells[j]?
def Jn (off n:Nat) (p:PV):Option PV:=if off+n≤p.cells.length then some (.a ((p.cells.drop off).take n)) else none
def P4 (n:Nat):PV→Option PV
 | .a cs=>if cs.length=n then some (.a cs) else none
 |_=>none
def H3 (p:PV):Option PV:=if p.scal then some p else none
def brE (η:List PV) (x y:E):PV→Option PV
 | .b true=>x.ev η
 | .b false=>y.ev η
 |_=>none
def brT (fn:Fns) (N:Nat) (t e:T) (η:List PV):PV→Option Out
 | .b true=>t.ev fn N η
 | .b false=>e.ev fn N η
 |_=>none
def goT (fn:Fns) (N:Nat) (k:T) (η:List PV):Option Out:=k.ev fn N η
def aft (fn:Fns) (N:Nat) (id:Nat) (k:T) (η:List PV):Out→Option Out
 | .yld j vs=>if j=id then k.ev fn N (η++vs) else some (.yld j vs)
 | .ret vs=>some (.ret vs)
def Ct1 (fn:Fns) (η:List PV) (fl:Bool) (f:Nat) (ar:List E) (m:Nat):PV→Option (List PV)
 | .b true=>(E.evs η ar).bind fun vs=>results fl m η (fn f vs.length vs)
 | .b false=>some (η++List.replicate m .u)
 |_=>none
section
variable {η:List PV}
def Gm0 (n:Nat):(E.v n).ev η=η[n]? :=by simp only [E.ev]
def Gm4 (x:PV):(E.c x).ev η=some x:=by simp only [E.ev]
def Fx0 (op:BinOp) (x y:E):(E.bin op x y).ev η=(x.ev η).bind fun p=>(y.ev η).bind fun q=>X.bin op p q:=by simp only [E.ev]
def Gm1 (op:UnOp) (x:E):(E.un op x).ev η=(x.ev η).bind (X.un op):=by simp only [E.ev]
def Fw5 (g x y:E):(E.ite g x y).ev η=(g.ev η).bind (brE η x y):=by simp only [E.ev];rfl
def Dt3 (j:Nat) (x:E):(E.proj j x).ev η=(x.ev η).bind (Bh j):=by simp only [E.ev];rfl
def Fv8 (o n:Nat) (x:E):(E.sub o n x).ev η=(x.ev η).bind (Jn o n):=by simp only [E.ev];rfl
def Fx3 (xs:List E):(E.agg xs).ev η=(E.evs η xs).map .a:=by simp only [E.ev]
def Fw7 (n:Nat) (x:E):(E.fit n x).ev η=(x.ev η).bind (P4 n):=by simp only [E.ev];congr 1;funext p;cases p<;>rfl
def Dt2 (x:E):(E.scal x).ev η=(x.ev η).bind H3:=by simp only [E.ev];rfl
def Fw6 (sz:Nat) (x i:E):(E.idx sz x i).ev η=(x.ev η).bind fun p=>(i.ev η).bind fun q=>Ht sz p q:=by simp only [E.ev]
def ev_len (x:E):(E.len x).ev η=(x.ev η).bind Gd:=by simp only [E.ev]
def Dt0 (x:E):(E.slen x).ev η=(x.ev η).bind Pz:=by simp only [E.ev]
def Dt1 (x i:E):(E.sidx x i).ev η=(x.ev η).bind fun p=>(i.ev η).bind fun q=>Rx p q:=by simp only [E.ev]
def Fv9 (x lo hi:E):(E.ssl x lo hi).ev η=(x.ev η).bind fun p=>(lo.ev η).bind fun q=>(hi.ev η).bind fun r=>Ac1 p q r:=by simp only [E.ev]
def Fw3 (sz:Nat) (x lo hi:E):(E.lsl sz x lo hi).ev η=(x.ev η).bind fun p=>(lo.ev η).bind fun q=>(hi.ev η).bind fun r=>G4 sz p q r:=by simp only [E.ev]
def Fx2 (sz:Nat) (x y:E):(E.app sz x y).ev η=(x.ev η).bind fun p=>(y.ev η).bind fun q=>Ij sz p q:=by simp only [E.ev]
def Fw4 (sz:Nat) (xs:List E):(E.lit sz xs).ev η=(E.evs η xs).bind (L6 sz):=by simp only [E.ev]
def Fw2 (sz:Nat) (n z:E):(E.rep sz n z).ev η=(n.ev η).bind fun p=>(z.ev η).bind fun q=>L5 sz p q:=by simp only [E.ev]
def Fw0 (sz:Nat) (x i:E) (o:Nat) (vs:List E):(E.set sz x i o vs).ev η=(x.ev η).bind fun p=>(i.ev η).bind fun q=>(E.evs η vs).bind fun r=>Kv sz o r p q:=by simp only [E.ev]
def Dt6 (k:IntKind) (x:E):(E.conv k x).ev η=(x.ev η).bind (rl k):=by simp only [E.ev]
def Fx1 (x:E):(E.b2s x).ev η=(x.ev η).bind kd:=by simp only [E.ev]
def Fw1 (x:E):(E.s2b x).ev η=(x.ev η).bind vw:=by simp only [E.ev]
def Fw8 (n g:Bool) (ts:List Sc) (x y:E):(E.eqs n g ts x y).ev η=(x.ev η).bind fun p=>(y.ev η).bind fun q=>K4 n g ts p q:=by simp only [E.ev]
def Fw9 (g:Nat) (xs:List E):(E.clo g xs).ev η=(E.evs η xs).map (.f g):=by simp only [E.ev]
def Gm3 (x y:E):(E.mn x y).ev η=(x.ev η).bind fun p=>(y.ev η).bind fun q=>Cl8 p q:=by simp only [E.ev]
def Gm2 (x y:E):(E.mx x y).ev η=(x.ev η).bind fun p=>(y.ev η).bind fun q=>Dp0 p q:=by simp only [E.ev]
def Dt5 (x k z:E):(E.mget x k z).ev η=(x.ev η).bind fun p=>(k.ev η).bind fun q=>(z.ev η).bind fun r=>bd p q r:=by simp only [E.ev]
def Dt4 (x k v:E):(E.mset x k v).ev η=(x.ev η).bind fun p=>(k.ev η).bind fun q=>(v.ev η).bind fun r=>bz p q r:=by simp only [E.ev]
def Hl (x:E):(E.der x).ev η=(x.ev η).bind Aq4:=by simp only [E.ev]
def Hh (o:Nat) (x:E):(E.mkp o x).ev η=(x.ev η).bind (zd o):=by simp only [E.ev]
def jc:E.evs η []=some []:=by simp only [E.evs]
def Xh (x:E) (xs:List E):E.evs η (x::xs)=(x.ev η).bind fun p=>(E.evs η xs).map fun ps=>p::ps:=by simp only [E.evs]
def Ct3 (x y:E):brE η x y (.b true)=x.ev η:=rfl
def Bh2 (x y:E):brE η x y (.b false)=y.ev η:=rfl
def Gp0 (x y:E) (v:Bool):brE η x y (.b v)=if v=true then x.ev η else y.ev η:=by cases v<;>rfl
end
section
variable {fn:Fns} {N:Nat} {η:List PV}
def Bb {t t':T} (h:t=t'):∀(fn:Fns) (N:Nat) (η:List PV),T.ev fn N t η=T.ev fn N t' η:=by subst h;intro fn N η;exact Eq.refl _
def xc {t t':T} {q:Prop} (h:t=t') (r:q):(∀(fn:Fns) (N:Nat) (η:List PV),T.ev fn N t η=T.ev fn N t' η)∧q:=⟨Bb h,r⟩
def xd {a b:E} {q:Prop} (h:a=b) (r:q):(a=b)∧q:=⟨by subst h;exact Eq.refl _,r⟩
def xd0:(TAG=TAG)=True:=eq_self _
def Dg8 (x:E) (k:T):(T.w (.chk x) k).ev fn N η=(x.ev η).bind fun _=>k.ev fn N η:=by simp only [T.ev,W.ev];cases x.ev η<;>rfl
def Bt7 (fl:Bool) (f:Nat) (ar:List E) (m:Nat) (k:T):(T.w (.call none fl f ar m) k).ev fn N η=(((E.evs η ar).bind fun vs=>results fl m η (fn f vs.length vs))).bind (goT fn N k):=by simp only [T.ev,W.ev,E3];rfl
def Ab0 (g:E) (fl:Bool) (f:Nat) (ar:List E) (m:Nat) (k:T):(T.w (.call (some g) fl f ar m) k).ev fn N η=(W.ev fn η (.call (some g) fl f ar m)).bind (goT fn N k):=by simp only [T.ev];rfl
def Dg7 (g:Option E) (fl:Bool) (c:E) (ar:List E) (m:Nat) (k:T):(T.w (.clo g fl c ar m) k).ev fn N η=(W.ev fn η (.clo g fl c ar m)).bind (goT fn N k):=by simp only [T.ev];rfl
def Ex (f:Nat) (ar:List E) (k:T):(T.w (.mcall f ar) k).ev fn N η=((E.evs η ar).bind fun vs=>results false 1 η (fn f (vs.length+TAG) vs)).bind (goT fn N k):=by simp only [T.ev,W.ev];rfl
def L4:TAG=1048576:=rfl
def Fq9 (k:T):goT fn N k η=k.ev fn N η:=rfl
def Dg6 (c:E) (t e:T):(T.ite c t e).ev fn N η=(c.ev η).bind (brT fn N t e η):=by simp only [T.ev];rfl
def Ct2 (t e:T):brT fn N t e η (.b true)=t.ev fn N η:=rfl
def Bh1 (t e:T):brT fn N t e η (.b false)=e.ev fn N η:=rfl
def Gn9 (t e:T) (v:Bool):brT fn N t e η (.b v)=if v=true then t.ev fn N η else e.ev fn N η:=by cases v<;>rfl
def Dg5 (es:List E):(T.ret es).ev fn N η=(E.evs η es).map .ret:=by simp only [T.ev]
def Dg4 (id:Nat) (es:List E):(T.yld id es).ev fn N η=(E.evs η es).map (.yld id):=by simp only [T.ev]
def Dg9 (id:Nat) (b k:T):(T.blk id b k).ev fn N η=(b.ev fn N η).bind (aft fn N id k η):=by simp only [T.ev];rfl
def Bp1 (id:Nat) (k:T) (vs:List PV):aft fn N id k η (.ret vs)=some (.ret vs):=rfl
def Ew4 (id j:Nat) (k:T) (vs:List PV):aft fn N id k η (.yld j vs)=if j=id then k.ev fn N (η++vs) else some (.yld j vs):=rfl
def Ew5 (id:Nat) (k:T) (p:Prop) [Decidable p] (x y:Out):aft fn N id k η (if p then x else y)=if p then aft fn N id k η x else aft fn N id k η y:=by split<;>rfl
def Az6 (g:E) (fl:Bool) (f:Nat) (ar:List E) (m:Nat):W.ev fn η (.call (some g) fl f ar m)=(g.ev η).bind (Ct1 fn η fl f ar m):=by simp only [W.ev,E3];rfl
def Aq9 (fl:Bool) (f:Nat) (ar:List E) (m:Nat):Ct1 fn η fl f ar m (.b true)=(E.evs η ar).bind fun vs=>results fl m η (fn f vs.length vs):=rfl
def kw (fl:Bool) (f:Nat) (ar:List E) (m:Nat):Ct1 fn η fl f ar m (.b false)=some (η++List.replicate m .u):=rfl
def Eq4 (fl:Bool) (f:Nat) (ar:List E) (m:Nat) (v:Bool):Ct1 fn η fl f ar m (.b v)=if v=true then ((E.evs η ar).bind fun vs=>results fl m η (fn f vs.length vs)) else some (η++List.replicate m .u):=by cases v<;>rfl
def Dg1 (fl:Bool) (c:E) (ar:List E) (m:Nat):W.ev fn η (.clo none fl c ar m)=(c.ev η).bind fun q=>(E.evs η ar).bind fun vs=>match q with| .f f caps=>results fl m η (fn f vs.length (vs++caps))|_=>none:=by simp only [W.ev,E3];rfl
def Cn5 {α β:Type} (p:Prop) [Decidable p] (x y:Option α) (f:α→Option β):(if p then x else y).bind f=if p then x.bind f else y.bind f:=by split<;>rfl
def Cn4 (p:Prop) [Decidable p] (x y:PV):(if p then some x else some y)=some (if p then x else y):=by split<;>rfl
def Bz8 (p:Prop) [Decidable p] (x y:Out):(if p then some x else some y)=some (if p then x else y):=by split<;>rfl
def Fq8 (p:Prop) [Decidable p] (x y:Bool):(if p then PV.b x else PV.b y)=PV.b (if p then x else y):=by split<;>rfl
def Fq7 (p:Prop) [Decidable p] (k:IntKind) (x y:Int):(if p then PV.i k x else PV.i k y)=PV.i k (if p then x else y):=by split<;>rfl
def Fq6 (p:Prop) [Decidable p] (x y:List UInt8):(if p then PV.s x else PV.s y)=PV.s (if p then x else y):=by split<;>rfl
def Out.goes (id:Nat):Out→Bool
 | .yld j _=>j==id
 |_=>false
def Rb {step:List PV→Option Out} {id:Nat} {α:Type} (st:α→List PV) (res:α→Out) (I:α→Prop) (μ:α→Nat)
  (h:∀a,I a→(∃b,step (st a)=some (.yld id (st b))∧I b∧μ b<μ a∧res b=res a)∨(step (st a)=some (res a)∧(res a).goes id=false)):
  ∀(n:Nat) (a:α),I a→μ a<n→F7 step id n (st a)=some (res a)
 |0,a,_,hn=>by omega
 |n+1,a,ha,hn=>by
  simp only [F7];rcases h a ha with ⟨b,h1,h2,h3,h4⟩|⟨h1,h2⟩
  ·rw [h1];simp only [Ax,if_true];rw [Rb st res I μ h n b h2 (by omega),h4]
  ·rw [h1];simp only [Ax];cases hr:res a with
   |ret vs=>rfl
   |yld j vs=>
    rw [hr] at h2;simp only [Out.goes,beq_eq_false_iff_ne,ne_eq] at h2;simp only [];rw [if_neg h2]
def Hd {id:Nat} {init:List E} {body:T} {α:Type} (st:α→List PV) (res:α→Out) (I:α→Prop) (μ:α→Nat) (a0:α)
  (h0:E.evs η init=some (st a0)) (hI:I a0) (hN:μ a0<N)
  (h:∀a,I a→(∃b,body.ev fn N (η++st a)=some (.yld id (st b))∧I b∧μ b<μ a∧res b=res a)∨(body.ev fn N (η++st a)=some (res a)∧(res a).goes id=false)):
  (T.loop id init body).ev fn N η=some (res a0):=by
 simp only [T.ev,h0,Ax];exact Rb st res I μ h N a0 hI hN
def E2 {id:Nat} {init:List E} {body:T} (n:Nat) (st:Nat→List PV) (res:Nat→Out)
  (h0:E.evs η init=some (st 0)) (hN:n<N)
  (h:∀i,i<n→(body.ev fn N (η++st i)=some (.yld id (st (i+1)))∧res (i+1)=res i)∨(body.ev fn N (η++st i)=some (res i)∧(res i).goes id=false))
  (hn:body.ev fn N (η++st n)=some (res n)∧(res n).goes id=false):
  (T.loop id init body).ev fn N η=some (res 0):=by
 refine Hd st res (fun i=>i≤n) (fun i=>n - i) 0 h0 (B9 _) (by omega) fun i hi=> ?_;by_cases hlt:i<n
 ·rcases h i hlt with ⟨h1,h2⟩|h1
  ·exact .inl ⟨i+1,h1,by omega,by omega,h2⟩
  ·exact .inr h1
 ·have:i=n:=by omega
  subst this;exact .inr hn
end
def D5 {fn:Fns} {N:Nat} {η:List PV} {id:Nat} {init:List E} {body:T} {β γ:Type} (l:List β) (st:Nat→γ→List PV) (f:Nat→γ→List β→Out) (I:Nat→γ→Prop) (g0:γ)
  (h0:E.evs η init=some (st 0 g0)) (hI:I 0 g0) (hN:l.length<N)
  (step:∀i g c r,l.drop i=c::r→i<l.length→l[i]? =some c→I i g→
   (∃g',body.ev fn N (η++st i g)=some (.yld id (st (i+1) g'))∧I (i+1) g'∧f (i+1) g' r=f i g (c::r))∨(body.ev fn N (η++st i g)=some (f i g (c::r))∧(f i g (c::r)).goes id=false))
  (stop:∀g,I l.length g→body.ev fn N (η++st l.length g)=some (f l.length g [])∧(f l.length g []).goes id=false):
  (T.loop id init body).ev fn N η=some (f 0 g0 l):=by
 have:=Hd (fn:=fn) (N:=N) (η:=η) (id:=id) (init:=init) (body:=body) (α:=Nat×γ) (fun a=>st a.1 a.2) (fun a=>f a.1 a.2 (l.drop a.1)) (fun a=>a.1≤l.length∧I a.1 a.2) (fun a=>l.length - a.1) (0,g0) h0 ⟨B9 _,hI⟩ (by simpa using hN) ?_
 ·simpa using this
 ·rintro ⟨i,g⟩ ⟨hi,hg⟩;simp only at hi hg ⊢;by_cases hlt:i<l.length
  ·have hd:l.drop i=l[i]::l.drop (i+1):=Cf hlt;rcases step i g l[i] (l.drop (i+1)) hd hlt (Az hlt) hg with ⟨g',h1,h2,h3⟩|h1
   ·exact .inl ⟨(i+1,g'),h1,⟨hlt,h2⟩,by simp only;omega,by simp only;rw [h3,hd]⟩
   ·exact .inr (by rw [hd];exact h1)
  ·have hi':i=l.length:=by omega
   subst hi';have hd:l.drop l.length=[]:=List.drop_length;exact .inr (by rw [hd];exact stop g hg)
def Dh {fn:Fns} {N:Nat} {η:List PV} {id:Nat} {init:List E} {body:T} {β:Type} (l:List β) (st:Nat→List PV) (f:Nat→List β→Out)
  (h0:E.evs η init=some (st 0)) (hN:l.length<N)
  (step:∀i c r,l.drop i=c::r→i<l.length→l[i]? =some c→
   (body.ev fn N (η++st i)=some (.yld id (st (i+1)))∧f (i+1) r=f i (c::r))∨(body.ev fn N (η++st i)=some (f i (c::r))∧(f i (c::r)).goes id=false))
  (stop:body.ev fn N (η++st l.length)=some (f l.length [])∧(f l.length []).goes id=false):
  (T.loop id init body).ev fn N η=some (f 0 l):=
 D5 (γ:=Unit) l (fun i _=>st i) (fun i _ r=>f i r) (fun _ _=>True) () h0 trivial hN (fun i _ c r h1 h2 h3 _=>by
  rcases step i c r h1 h2 h3 with ⟨a,b⟩|h
  ·exact .inl ⟨(),a,trivial,b⟩
  ·exact .inr h) (fun _ _=>stop)
def w64 {x:Int} (h1: -9223372036854775808≤x) (h2:x≤9223372036854775807):IntKind.i64.wrap x=x:=IntWalk.i64_in x ⟨h1,h2⟩
def w8 {x:Int} (h1:0≤x) (h2:x≤255):IntKind.u8.wrap x=x:=IntWalk.u8_in x ⟨h1,h2⟩
def Fh8 {x:Int} (h1:0≤x) (h2:x≤18446744073709551615):IntKind.u64.wrap x=x:=by simp [IntKind.wrap,IntKind.bits,IntKind.signed];omega
def Gn5 {p:Prop} [Decidable p] (h:p):decide p=true:=decide_eq_true h
def Gn6 {p:Prop} [Decidable p] (h:¬p):decide p=false:=decide_eq_false h
def Ew1 (k:IntKind) (x y:Int):X.bin .add (.i k x) (.i k y)=some (.i k (k.wrap (x+y))):=by simp [X.bin,Ff]
def Eq9 (k:IntKind) (x y:Int):X.bin .sub (.i k x) (.i k y)=some (.i k (k.wrap (x - y))):=by simp [X.bin,Ff]
def Ev5 (k:IntKind) (x y:Int):X.bin .mul (.i k x) (.i k y)=some (.i k (k.wrap (x*y))):=by simp [X.bin,Ff]
def Ev3 (k:IntKind) (x y:Int):X.bin .quo (.i k x) (.i k y)=if y=0 then none else some (.i k (k.wrap (x.tdiv y))):=by simp [X.bin,Ff]
def Ev2 (k:IntKind) (x y:Int):X.bin .rem (.i k x) (.i k y)=if y=0 then none else some (.i k (x.tmod y)):=by simp [X.bin,Ff]
def En2 (k:IntKind) (x y:Int) (h:0≤x) (h':0<y):X.bin .quo (.i k x) (.i k y)=some (.i k (k.wrap (x / y))):=by rw [Ev3,if_neg (by omega),Int.tdiv_eq_ediv_of_nonneg h]
def En1 (k:IntKind) (x y:Int) (h:0≤x) (h':0<y):X.bin .rem (.i k x) (.i k y)=some (.i k (x % y)):=by rw [Ev2,if_neg (by omega),Int.tmod_eq_emod_of_nonneg h]
def Tx (k:IntKind) (x y:Int):X.bin .and (.i k x) (.i k y)=some (.i k (k.wrap (BitVec.ofInt k.bits x &&& BitVec.ofInt k.bits y).toNat)):=by simp [X.bin,Ff]
def Cd (k:IntKind) (x y:Int):X.bin .andNot (.i k x) (.i k y)=some (.i k (k.wrap (BitVec.ofInt k.bits x &&& ~~~ BitVec.ofInt k.bits y).toNat)):=by simp [X.bin,Ff]
def Ew0 (k:IntKind) (x y:Int):X.bin .eql (.i k x) (.i k y)=some (.b (decide (x=y))):=by simp [X.bin,Ff];rfl
def Ev4 (k:IntKind) (x y:Int):X.bin .neq (.i k x) (.i k y)=some (.b (decide (x≠y))):=by simp [X.bin,Ff];by_cases h:x=y<;>simp [h]
def Ev6 (k:IntKind) (x y:Int):X.bin .lss (.i k x) (.i k y)=some (.b (decide (x<y))):=by simp [X.bin,Ff]
def Ev7 (k:IntKind) (x y:Int):X.bin .leq (.i k x) (.i k y)=some (.b (decide (x≤y))):=by simp [X.bin,Ff]
def Ev8 (k:IntKind) (x y:Int):X.bin .gtr (.i k x) (.i k y)=some (.b (decide (y<x))):=by simp [X.bin,Ff]
def Ev9 (k:IntKind) (x y:Int):X.bin .geq (.i k x) (.i k y)=some (.b (decide (y≤x))):=by simp [X.bin,Ff]
def Ev1 (k k':IntKind) (x y:Int):X.bin .shr (.i k x) (.i k' y)=if y<0 then none else some (.i k (x.fdiv (2 ^ (min y.toNat k.bits)))):=by simp [X.bin,Oj]
def vv (k k':IntKind) (x:Int) (t:Nat) (h:t<k.bits):X.bin .shr (.i k x) (.i k' (t:Int))=some (.i k (x / 2 ^ t)):=by
 rw [Ev1,if_neg (by omega)];congr 2;have:min ((t:Int)).toNat k.bits=t:=by simp;omega
 rw [this,Int.fdiv_eq_ediv_of_nonneg];exact Int.le_of_lt (Int.pow_pos (by decide))
def Ct9 (x y:List UInt8) (h:x.length+y.length≤9223372036854775807):X.bin .add (.s x) (.s y)=some (.s (x++y)):=by simp only [X.bin,Vl];rw [if_neg];simp [IntKind.max,IntKind.bits,IntKind.signed];omega
def Ct8 (x y:List UInt8):X.bin .eql (.s x) (.s y)=some (.b (decide (x=y))):=by simp only [X.bin,Vl];by_cases h:x=y<;>simp [h]
def Ct5 (x y:List UInt8):X.bin .neq (.s x) (.s y)=some (.b (decide (x≠y))):=by simp only [X.bin,Vl];by_cases h:x=y<;>simp [h]
def Ct6 (x y:List UInt8):X.bin .lss (.s x) (.s y)=some (.b (Op.bytesLess x y)):=rfl
def Ct7 (x y:List UInt8):X.bin .gtr (.s x) (.s y)=some (.b (!(Op.bytesLess x y||x==y))):=rfl
def Ec8 (x:Bool):X.un .not (.b x)=some (.b (!x)):=rfl
def Dn4 (p:Prop) [Decidable p]:(!decide p)=decide (¬p):=by by_cases h:p<;>simp [h]
def jj (sz:Nat) (xs:List PV) (k:IntKind) (z:Int) (h:0≤z):Ht sz (.l sz xs) (.i k z)=xs[z.toNat]? :=by simp [Ht,h]
def Gx9 (sz:Nat) (xs:List PV):Gd (.l sz xs)=some (.i .i64 (xs.length:Int)):=rfl
def Ed9 (x:List UInt8):Pz (.s x)=some (.i .i64 (x.length:Int)):=rfl
def Ef1 (x:List UInt8) (k:IntKind) (n:Int) (h:0≤n):Rx (.s x) (.i k n)=(x[n.toNat]?).map fun c=> .i .u8 (c.toNat:Int):=by simp [Rx,h]
def Fm9 (x:List UInt8) (k k':IntKind) (a b:Int) (h1:0≤a) (h2:a≤b) (h3:b≤(x.length:Int)):Ac1 (.s x) (.i k a) (.i k' b)=some (.s ((x.take b.toNat).drop a.toNat)):=by simp [Ac1,h1,h2,h3]
def Bw5 (sz:Nat) (x:List PV) (k k':IntKind) (a b:Int) (h1:0≤a) (h2:a≤b) (h3:b≤(x.length:Int)):G4 sz (.l sz x) (.i k a) (.i k' b)=some (.l sz ((x.take b.toNat).drop a.toNat)):=by simp [G4,h1,h2,h3]
def T9 (sz:Nat) (xs ys:List PV) (h:xs.length+ys.length≤1073741824):Ij sz (.l sz xs) (.l sz ys)=some (.l sz (xs++ys)):=by simp [Ij,LIM,h]
def Fz0 (sz:Nat) (xs:List PV) (y:PV) (h:xs.length+1≤1073741824):Ij sz (.l sz xs) (.l sz [y])=some (.l sz (xs++[y])):=T9 sz xs [y] h
def Dr2 (sz:Nat):L6 sz []=some (.l sz []):=rfl
def Ef4 (x:List UInt8):H3 (.s x)=some (.s x):=rfl
def Ef6 (k:IntKind) (x:Int):H3 (.i k x)=some (.i k x):=rfl
def Ef8 (x:Bool):H3 (.b x)=some (.b x):=rfl
def Ef5 (sz:Nat) (x:List PV):H3 (.l sz x)=some (.l sz x):=rfl
def Gx7 (x:List UInt8):L6 1 [.s x]=some (.l 1 [.s x]):=rfl
def En4 (x:List UInt8):Bh 0 (.s x)=some (.s x):=rfl
def En5 (k:IntKind) (x:Int):Bh 0 (.i k x)=some (.i k x):=rfl
def En7 (j:Nat) (cs:List PV):Bh j (.a cs)=cs[j]? :=rfl
def Gx5 (k:IntKind) (x y:Int) (h:x≤y):Cl8 (.i k x) (.i k y)=some (.i k x):=by simp only [Cl8,if_true];rw [if_neg (by omega)]
def Gx6 (k:IntKind) (x y:Int) (h:y<x):Cl8 (.i k x) (.i k y)=some (.i k y):=by simp only [Cl8,if_true];rw [if_pos h]
def Gx4 (k:IntKind) (x y:Int) (h:y≤x):Dp0 (.i k x) (.i k y)=some (.i k x):=by simp only [Dp0,if_true];rw [if_neg (by omega)]
def Gx3 (k:IntKind) (x y:Int) (h:x<y):Dp0 (.i k x) (.i k y)=some (.i k y):=by simp only [Dp0,if_true];rw [if_pos (by omega)]
def Fy5 (k k':IntKind) (x:Int):rl k (.i k' x)=some (.i k (k.wrap x)):=rfl
def Ed0 (n:Nat):((n:Int)).toNat=n:=Es n
def Lj (x:List UInt8):kd (.l 1 (Bp x))=some (.s x):=by
 have:∀x:List UInt8,(x.map fun c=>PV.i .u8 (c.toNat:Int)).mapM byteOf? =some x:=by
  intro x
  induction x with
  |nil=>rfl
  |cons c r ih=>
   have hc:=c.toNat_lt;have h1:byteOf? (PV.i .u8 (c.toNat:Int))=some c:=by simp only [byteOf?];rw [if_pos (by omega)];simp
   simp [Iz,h1,ih]
 simp [kd,Bp,this]
def Gw3 (x:List UInt8) (h:x.length≤1073741824):vw (.s x)=some (.l 1 (Bp x)):=by simp [vw,LIM,h]
def Pq (x:List UInt8) (c:UInt8):Bp x++[.i .u8 (c.toNat:Int)]=Bp (x++[c]):=by simp [Bp]
def K9 (x:List UInt8):(Bp x).length=x.length:=by simp [Bp]
def Gx8 (k:IntKind) (x:Int):L6 1 [.i k x]=some (.l 1 [.i k x]):=rfl
def Gm6 (x y:Bool):K4 false false [.b] (.b x) (.b y)=some (.b (x==y)):=by simp [K4,PV.scal,Gq,Br8]
def Er4 (x y:Bool):K4 true false [.b] (.b x) (.b y)=some (.b (!(x==y))):=by simp [K4,PV.scal,Gq,Br8]
def der_pt (cs:List PV):Aq4 (.pt cs)=some (.a cs):=by simp only [Aq4]
def scal_pt (cs:List PV):H3 (.pt cs)=some (.pt cs):=by simp [H3,PV.scal]
def Ds2 (x y:PV):P4 2 (.a [x,y])=some (.a [x,y]):=rfl
def Fv4 (x:Bool):PV.flat (.b x)=true:=rfl
def Fv3 (k:IntKind) (x:Int):PV.flat (.i k x)=true:=rfl
def Fv1 (x:List UInt8):PV.flat (.s x)=true:=rfl
def En0 (η:List PV) (x:PV):results false 1 η (some [x])=some (η++[x]):=rfl
def Em9 (η:List PV) (x y:PV):results false 2 η (some [x,y])=some (η++[x,y]):=rfl
def Em8 (η:List PV) (x y z:PV):results false 3 η (some [x,y,z])=some (η++[x,y,z]):=rfl
def Em7 (η:List PV):results true 0 η (some [])=some (η++[]):=rfl
def Em6 (η:List PV) (x:PV):results true 1 η (some [x])=if x.flat=true then some (η++[x]) else none:=by simp [results,PV.flat.flats]
def Em5 (η:List PV) (x y:PV):results true 2 η (some [x,y])=if x.flat=true then (if y.flat=true then some (η++[x,y]) else none) else none:=by simp only [results,Ax,PV.flat.flats];by_cases h:x.flat=true<;>by_cases h':y.flat=true<;>simp [h,h']
def Bt6 (c:UInt8) (k:Nat) (hk:k<256):((c.toNat:Int)=(k:Int))↔c=UInt8.ofNat k:=by
 constructor
 ·intro h;have h':c.toNat=k:=by omega
  rw [←h'];simp
 ·rintro rfl;simp;omega
end Go.X
namespace Go.X
open Go
def Dl4 {o:Option T} {t:T} (h:o.map T.slim=some t):∃t0,o=some t0∧t0.slim=t:=Aw.1 h
def FOK (P:Program) (sig:Nat→Option Nat) (f:Nat) (ft:FT):Prop:=
 ∃ func H, P.funcs[f]? = some func ∧ (func.name == "runtime.NumGoroutine") = false ∧ Av4 sig f func = ft.np ∧ func.params.size < TAG ∧ func.nfree = ft.nf ∧ ∃ t, Br6 P sig f func H = some t ∧ t.slim = ft.t
def Gp9 (P:Program) (sig:Nat→Option Nat) (f a b:Nat) (H:Hints):Option T:=
 match P.funcs[f]? with
 |none=>none
 | some fu => if (fu.name == "runtime.NumGoroutine") = false ∧ Av4 sig f fu = a ∧ fu.params.size < TAG ∧ fu.nfree = b then (Br6 P sig f fu H).map T.slim else none
def fok {P:Program} {sig:Nat→Option Nat} {f a b:Nat} {t:T} (H:Hints) (h:Gp9 P sig f a b H=some t:=by kernel_rfl):FOK P sig f ⟨a,b,t⟩:=by
 unfold Gp9 at h;split at h
 ·exact nomatch h
 ·next fu hf=>
  split at h
  ·next hc=>
   obtain ⟨t0,h1,h2⟩:=Dl4 h;exact ⟨fu,H,hf,hc.1,hc.2.1,hc.2.2.1,hc.2.2.2,t0,h1,h2⟩
  ·exact nomatch h
def lkF:List (Nat×FT)→Nat→Option FT
 |[],_=>none
 |(k,t)::r,f=>if k=f then some t else lkF r f
def Gp1 (P:Program) (sig:Nat→Option Nat):List (Nat×FT)→Prop
 |[]=>True
 |p::r=>FOK P sig p.1 p.2∧Gp1 P sig r
def Fz8 (P:Program):List (Nat×Nat)→Prop
 |[]=>True
 |p::r=>(match Av0 (some p.2) with|some (T,k)=>Br5 P p.1 T k|none=>True)∧Fz8 P r
def Bh7 {P:Program}:∀{l:List (Nat×Nat)},Fz8 P l→Fd2 P (Bw7 l)
 |[],_=>fun f T k h=>by simp [Bw7,Av0] at h
 |p::r,hl=>fun f T k h=>by
  simp only [Bw7] at h;split at h
  ·rename_i e;subst e;have:=hl.1;rw [h] at this;exact this
  ·exact Bh7 hl.2 f T k h
def Ct4 {P:Program}:Fz8 P []:=trivial
def G2 {P:Program} {p:Nat×Nat} {r:List (Nat×Nat)} (h:Av0 (some p.2)=none) (hr:Fz8 P r):Fz8 P (p::r):=⟨by rw [h];trivial,hr⟩
def Ab1 {P : Program} {sig : Nat → Option Nat} : ∀ (l : List (Nat × FT)), Gp1 P sig l → ∀ f ft, lkF l f = some ft → ∃ func H, P.funcs[f]? = some func ∧ (func.name == "runtime.NumGoroutine") = false ∧ Av4 sig f func = ft.np ∧ func.params.size < TAG ∧ func.nfree = ft.nf ∧ ∃ t, Br6 P sig f func H = some t ∧ t.slim = ft.t
 |[],_=>fun f ft h=>by simp [lkF] at h
 |(k,t)::r,hl=>fun f ft h=>by
  simp only [lkF] at h;split at h
  ·rename_i e;injection h with h;subst h;subst e;exact hl.1
  ·exact Ab1 r hl.2 f ft h
def Ed2 {P:Program} {sig:Nat→Option Nat} (l:List (Nat×FT)) (h:Gp1 P sig l) (hB:Fd2 P sig):Tab P sig (lkF l):=⟨Ab1 l h,hB⟩
end Go.X
namespace Go.X
def gh {α β:Type} (a:α) (f:α→Option β):(some a).bind f=f a:=by rw [Ax]
def gm {α β:Type} (f:α→Option β):(none:Option α).bind f=none:=by rw [Option.bind_none]
def wx {α β:Type} (a:α) (f:α→β):(some a).map f=some (f a):=by rw [A4]
def wz {α β:Type} (f:α→β):(none:Option α).map f=none:=by rw [Option.map_none]
def Wm {α:Type} (a:α) (l m:List α):(a::l)++m=a::(l++m):=by rw [B0]
def Zt {α:Type} (m:List α):[]++m=m:=by rw [Cj]
def wg {α:Type} (a:α) (l:List α) (i:Nat):(a::l)[i+1]? =l[i]? :=by rw [C5]
def wd {α:Type} (a:α) (l:List α):(a::l)[0]? =some a:=by rw [B3]
def wb {α:Type} (a:α) (l:List α):(a::l).length=l.length+1:=by rw [A5]
def Af8 {α:Type}:([]:List α).length=0:=by rw [Bz]
def ww {α:Type} (a:α) (n:Nat):List.replicate (n+1) a=a::List.replicate n a:=by rw [List.replicate_succ]
def wv {α:Type} (a:α):List.replicate 0 a=[]:=by rw [List.replicate_zero]
def Ag0 {α β:Type} (f:α→β) (l:List α) (i:Nat):(l.map f)[i]? =l[i]?.map f:=by rw [Bc]
def Af9 {α β:Type} (f:α→β) (l:List α):(l.map f).length=l.length:=by rw [Dr]
set_option linter.defProp false
def EV:=(And.intro @gh (And.intro @wx (And.intro @gm (And.intro @wz (And.intro @Wm (And.intro @Zt (And.intro @wg (And.intro @wd (And.intro @d8 (And.intro @Bool.not_false (And.intro @wb (And.intro @Af8 (And.intro @ww (And.intro @wv (And.intro @Ag0 (And.intro @Af9 (And.intro @Bool.if_true_left (And.intro @Bool.if_false_right (And.intro @Bool.decide_eq_true (And.intro @Int.natCast_add (And.intro @Int.cast_ofNat_Int (And.intro @D3 (And.intro @decide_eq_true_eq (And.intro @Ad (And.intro @decide_true (And.intro @decide_false (And.intro @Gm0 (And.intro @Gm4 (And.intro @Fx0 (And.intro @Gm1 (And.intro @Fw5 (And.intro @Dt3 (And.intro @Fv8 (And.intro @Fx3 (And.intro @Fw7 (And.intro @Dt2 (And.intro @Fw6 (And.intro @ev_len (And.intro @Dt0 (And.intro @Dt1 (And.intro @Fv9 (And.intro @Fw3 (And.intro @Fx2 (And.intro @Fw4 (And.intro @Fw2 (And.intro @Fw0 (And.intro @Dt6 (And.intro @Fx1 (And.intro @Fw1 (And.intro @Fw8 (And.intro @Fw9 (And.intro @Gm3 (And.intro @Gm2 (And.intro @Dt5 (And.intro @Dt4 (And.intro @jc (And.intro @Xh (And.intro @Ct3 (And.intro @Bh2 (And.intro @Gp0 (And.intro @Dg8 (And.intro @Bt7 (And.intro @Ab0 (And.intro @Az6 (And.intro @Aq9 (And.intro @kw (And.intro @Eq4 (And.intro @Dg7 (And.intro @Fq9 (And.intro @Dg6 (And.intro @Ct2 (And.intro @Bh1 (And.intro @Gn9 (And.intro @Dg5 (And.intro @Dg4 (And.intro @Dg9 (And.intro @Bp1 (And.intro @Ew5 (And.intro @Ew4 (And.intro @w64 (And.intro @w8 (And.intro @Fh8 (And.intro @En2 (And.intro @En1 (And.intro @Gn5 (And.intro @Gn6 (And.intro @Ew1 (And.intro @Eq9 (And.intro @Ev5 (And.intro @Ew0 (And.intro @Ev4 (And.intro @Ev6 (And.intro @Ev7 (And.intro @Ev8 (And.intro @Ev9 (And.intro @Ct9 (And.intro @Ct8 (And.intro @Ct5 (And.intro @Ct6 (And.intro @Ct7 (And.intro @Ec8 (And.intro @Dn4 (And.intro @jj (And.intro @Gx9 (And.intro @Ed9 (And.intro @Ef1 (And.intro @Fm9 (And.intro @Bw5 (And.intro @Fz0 (And.intro @T9 (And.intro @Dr2 (And.intro @Gx7 (And.intro @Gx8 (And.intro @Lj (And.intro @Gw3 (And.intro @Ef4 (And.intro @Ef6 (And.intro @Ef8 (And.intro @Ef5 (And.intro @En4 (And.intro @En5 (And.intro @En7 (And.intro @Gx5 (And.intro @Gx6 (And.intro @Gx4 (And.intro @Gx3 (And.intro @Gm6 (And.intro @Er4 (And.intro @Ds2 (And.intro @Fy5 (And.intro @Ed0 (And.intro @Fv4 (And.intro @Fv3 (And.intro @Fv1 (And.intro @En0 (And.intro @Em9 (And.intro @Em8 (And.intro @Em7 (And.intro @Em6 (And.intro @Em5 (And.intro @Cn5 (And.intro @Cn4 (And.intro @Bz8 (And.intro @Fq8 (And.intro @Fq7 (And.intro @Fq6 (And.intro @if_true.{1} (And.intro @if_false.{1} (And.intro @ne_eq.{1} (And.intro @not_true (And.intro @not_false_eq_true @Bool.true_eq_false)))))))))))))))))))))))))))))))))))))))))))))))))))))))))))))))))))))))))))))))))))))))))))))))))))))))))))))))))))))))))))))))))))))))))))))))))))))))
end Go.X
namespace Go.X
def ch2 (a0 a1:Bool):(a0=false)∨(a0=true∧a1=false)∨(a0=true∧a1=true):=by cases a0<;>cases a1<;>simp
def ch3 (a0 a1 a2:Bool):(a0=false)∨(a0=true∧a1=false)∨(a0=true∧a1=true∧a2=false)∨(a0=true∧a1=true∧a2=true):=by cases a0<;>cases a1<;>cases a2<;>simp
def ch4 (a0 a1 a2 a3:Bool):(a0=false)∨(a0=true∧a1=false)∨(a0=true∧a1=true∧a2=false)∨(a0=true∧a1=true∧a2=true∧a3=false)∨(a0=true∧a1=true∧a2=true∧a3=true):=by cases a0<;>cases a1<;>cases a2<;>cases a3<;>simp
def ch5 (a0 a1 a2 a3 a4:Bool):(a0=false)∨(a0=true∧a1=false)∨(a0=true∧a1=true∧a2=false)∨(a0=true∧a1=true∧a2=true∧a3=false)∨(a0=true∧a1=true∧a2=true∧a3=true∧a4=false)∨(a0=true∧a1=true∧a2=true∧a3=true∧a4=true):=by cases a0<;>cases a1<;>cases a2<;>cases a3<;>cases a4<;>simp
def ch6 (a0 a1 a2 a3 a4 a5:Bool):(a0=false)∨(a0=true∧a1=false)∨(a0=true∧a1=true∧a2=false)∨(a0=true∧a1=true∧a2=true∧a3=false)∨(a0=true∧a1=true∧a2=true∧a3=true∧a4=false)∨(a0=true∧a1=true∧a2=true∧a3=true∧a4=true∧a5=false)∨(a0=true∧a1=true∧a2=true∧a3=true∧a4=true∧a5=true):=by
 cases a0
 ·exact .inl rfl
 ·rcases ch5 a1 a2 a3 a4 a5 with h|h|h|h|h|h
  ·exact .inr (.inl ⟨rfl,h⟩)
  ·exact .inr (.inr (.inl ⟨rfl,h⟩))
  ·exact .inr (.inr (.inr (.inl ⟨rfl,h⟩)))
  ·exact .inr (.inr (.inr (.inr (.inl ⟨rfl,h⟩))))
  ·exact .inr (.inr (.inr (.inr (.inr (.inl ⟨rfl,h⟩)))))
  ·exact .inr (.inr (.inr (.inr (.inr (.inr (⟨rfl,h⟩))))))
def ch7 (a0 a1 a2 a3 a4 a5 a6:Bool):(a0=false)∨(a0=true∧a1=false)∨(a0=true∧a1=true∧a2=false)∨(a0=true∧a1=true∧a2=true∧a3=false)∨(a0=true∧a1=true∧a2=true∧a3=true∧a4=false)∨(a0=true∧a1=true∧a2=true∧a3=true∧a4=true∧a5=false)∨(a0=true∧a1=true∧a2=true∧a3=true∧a4=true∧a5=true∧a6=false)∨(a0=true∧a1=true∧a2=true∧a3=true∧a4=true∧a5=true∧a6=true):=by
 cases a0
 ·exact .inl rfl
 ·rcases ch6 a1 a2 a3 a4 a5 a6 with h|h|h|h|h|h|h
  ·exact .inr (.inl ⟨rfl,h⟩)
  ·exact .inr (.inr (.inl ⟨rfl,h⟩))
  ·exact .inr (.inr (.inr (.inl ⟨rfl,h⟩)))
  ·exact .inr (.inr (.inr (.inr (.inl ⟨rfl,h⟩))))
  ·exact .inr (.inr (.inr (.inr (.inr (.inl ⟨rfl,h⟩)))))
  ·exact .inr (.inr (.inr (.inr (.inr (.inr (.inl ⟨rfl,h⟩))))))
  ·exact .inr (.inr (.inr (.inr (.inr (.inr (.inr (⟨rfl,h⟩)))))))
def ch8 (a0 a1 a2 a3 a4 a5 a6 a7:Bool):(a0=false)∨(a0=true∧a1=false)∨(a0=true∧a1=true∧a2=false)∨(a0=true∧a1=true∧a2=true∧a3=false)∨(a0=true∧a1=true∧a2=true∧a3=true∧a4=false)∨(a0=true∧a1=true∧a2=true∧a3=true∧a4=true∧a5=false)∨(a0=true∧a1=true∧a2=true∧a3=true∧a4=true∧a5=true∧a6=false)∨(a0=true∧a1=true∧a2=true∧a3=true∧a4=true∧a5=true∧a6=true∧a7=false)∨(a0=true∧a1=true∧a2=true∧a3=true∧a4=true∧a5=true∧a6=true∧a7=true):=by
 cases a0
 ·exact .inl rfl
 ·rcases ch7 a1 a2 a3 a4 a5 a6 a7 with h|h|h|h|h|h|h|h
  ·exact .inr (.inl ⟨rfl,h⟩)
  ·exact .inr (.inr (.inl ⟨rfl,h⟩))
  ·exact .inr (.inr (.inr (.inl ⟨rfl,h⟩)))
  ·exact .inr (.inr (.inr (.inr (.inl ⟨rfl,h⟩))))
  ·exact .inr (.inr (.inr (.inr (.inr (.inl ⟨rfl,h⟩)))))
  ·exact .inr (.inr (.inr (.inr (.inr (.inr (.inl ⟨rfl,h⟩))))))
  ·exact .inr (.inr (.inr (.inr (.inr (.inr (.inr (.inl ⟨rfl,h⟩)))))))
  ·exact .inr (.inr (.inr (.inr (.inr (.inr (.inr (.inr (⟨rfl,h⟩))))))))
def ch9 (a0 a1 a2 a3 a4 a5 a6 a7 a8:Bool):(a0=false)∨(a0=true∧a1=false)∨(a0=true∧a1=true∧a2=false)∨(a0=true∧a1=true∧a2=true∧a3=false)∨(a0=true∧a1=true∧a2=true∧a3=true∧a4=false)∨(a0=true∧a1=true∧a2=true∧a3=true∧a4=true∧a5=false)∨(a0=true∧a1=true∧a2=true∧a3=true∧a4=true∧a5=true∧a6=false)∨(a0=true∧a1=true∧a2=true∧a3=true∧a4=true∧a5=true∧a6=true∧a7=false)∨(a0=true∧a1=true∧a2=true∧a3=true∧a4=true∧a5=true∧a6=true∧a7=true∧a8=false)∨(a0=true∧a1=true∧a2=true∧a3=true∧a4=true∧a5=true∧a6=true∧a7=true∧a8=true):=by
 cases a0
 ·exact .inl rfl
 ·rcases ch8 a1 a2 a3 a4 a5 a6 a7 a8 with h|h|h|h|h|h|h|h|h
  ·exact .inr (.inl ⟨rfl,h⟩)
  ·exact .inr (.inr (.inl ⟨rfl,h⟩))
  ·exact .inr (.inr (.inr (.inl ⟨rfl,h⟩)))
  ·exact .inr (.inr (.inr (.inr (.inl ⟨rfl,h⟩))))
  ·exact .inr (.inr (.inr (.inr (.inr (.inl ⟨rfl,h⟩)))))
  ·exact .inr (.inr (.inr (.inr (.inr (.inr (.inl ⟨rfl,h⟩))))))
  ·exact .inr (.inr (.inr (.inr (.inr (.inr (.inr (.inl ⟨rfl,h⟩)))))))
  ·exact .inr (.inr (.inr (.inr (.inr (.inr (.inr (.inr (.inl ⟨rfl,h⟩))))))))
  ·exact .inr (.inr (.inr (.inr (.inr (.inr (.inr (.inr (.inr (⟨rfl,h⟩)))))))))
end Go.X
