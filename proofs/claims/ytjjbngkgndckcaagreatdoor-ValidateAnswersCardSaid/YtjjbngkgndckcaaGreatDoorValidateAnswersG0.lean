/- Values, expressions and residual programs: a small language into which the functions of a loaded program are carried. -/
import Derived.Below
import Derived.Calls
import Derived.Orders
import Derived.KernelRfl
import Derived.Laws.Sem
import Derived.Laws.AppendOwn
import Derived.Maps.AppendAt
import Derived.Laws.Entries
import Derived.Laws.Rows
import Derived.Laws.CopyRow
import Derived.Laws.StructEq
import Derived.Lib.Strings
import Derived.IntWalk
import Derived.Laws.IdiomStrings
import Derived.Laws.BytesArg
import Derived.Great.BuildSlice
import Derived.Laws.OwnMore
open Array renaming getElem?_toList->B9,getD_eq_getD_getElem?->Cg,length_toList->Dv,toArray_toList->D9,getElem?_eq_some_iff->El,getElem?_append_left->Em,getElem?_eq_getElem->E8,toList_extract->P1
open Bool renaming and_eq_true->Bt,false_eq_true->B5,or_eq_true->Cz,not_eq_true'->Dp,and_true->Mc,not_eq_false->zn
open Int renaming toNat_natCast->Eg,le_refl->Yh
open List renaming length_append->Bp,getElem?_eq_some_iff->Br,getElem?_eq_getElem->B3,mem_of_getElem?->B6,length_cons->Cq,length_take->Cv,append_assoc->Cy,getElem?_append_right->Cf,mem_cons->Ch,mem_singleton->Cl,getElem?_append_left->Cm,length_drop->Cn,getElem?_take->Cp,getElem?_drop->Cr,length_nil->Cs,length_pos_iff->Ct,eq_nil_of_length_eq_zero->C1,getD_eq_getElem?_getD->C4,getElem?_map->Dk,mem_append->Dw,cons_append->Db,getElem?_range->Dn,all_eq_true->Ds,getElem?_cons_zero->D7,mem_append_right->Ej,drop_eq_getElem_cons->Et,getElem?_set->E4,take_of_length_le->Fv,mem_of_mem_take->Fw,mem_of_mem_drop->Fx,drop_drop->Fy,getElem?_cons_succ->Fs,mem_append_left->F3,mem_cons_self->Gm,drop_zero->Gp,map_cons->G2,getElem_mem->H1,mem_range->Ih,length_set->I6,extract_eq_take_drop->Jy,mem_cons_of_mem->Kw,mapM_cons->Kx,all_cons->Mb,foldl_cons->il,take_take->Bz8,mem_map->Dm0
open Nat renaming le_refl->B7,mul_le_mul_right->C0,zero_le->Dz,add_mul->Dl,le_trans->Ep,mod_eq_of_lt->Fj,one_mul->Gh,lt_of_lt_of_le->Gl,add_assoc->G1,add_zero->G6,mul_comm->Hg,zero_add->Ig,mul_add_mod->ic,min_eq_left->ig,lt_or_ge->Dl8
open Option renaming bind_eq_some_iff->Bl,map_eq_some_iff->Bs,bind_some->B0,map_some->Cc,isSome_iff_exists->Dt,isNone_iff_eq_none->D5,getD_some->Ez,bind_eq_bind->T8,pure_def->ib
open Option.some renaming injEq->Bn
open Prod.mk renaming injEq->B4
set_option maxHeartbeats 1000000
set_option linter.defProp false
set_option linter.unusedVariables false
set_option linter.unusedSimpArgs false
namespace Go.X
open Go
inductive PV where
 |u
 |b (x:Bool)
 |i (k:IntKind) (n:Int)
 |s (x:List UInt8)
 |a (cs:List PV)
 |l (sz:Nat) (xs:List PV)
 |f (g:Nat) (caps:List PV)
 |m (es:List (PV×PV))
 /-- a pointer to cells that stay -/
 |pt (cs:List PV)
 deriving Inhabited
namespace PV
def cells:PV->List PV
 | .a cs=>cs
 |p=>[p]
def flat:PV->Bool
 | .b _| .i _ _| .s _=>true
 | .a cs=>flats cs
 |_=>false
where flats:List PV->Bool
 |[]=>true
 |p::ps=>flat p && flats ps
def scal:PV->Bool
 | .b _| .i _ _| .s _| .l _ _| .f _ _| .m _| .pt _=>true
 |_=>false
end PV
inductive Sc where
 |b|i (k:IntKind)|s
 deriving DecidableEq,Repr,Inhabited
def Dl3:Sc->PV->PV->Option Bool
 | .b,.b x,.b y=>some (x==y)
 | .i k,.i k1 x,.i k2 y=>if k1=k then(if k2=k then some (x==y) else none) else none
 | .s,.s x,.s y=>some (x==y)
 |_,_,_=>none
def Hs:List Sc->List PV->List PV->Option Bool
 |[],[],[]=>some true
 |t::ts,x::xs,y::ys=>
  match Dl3 t x y,Hs ts xs ys with
  |some r,some q=>some (r && q)
  |_,_=>none
 |_,_,_=>none
def Gd (op:BinOp) (k:IntKind) (x y:Int):Option PV:=
 match op with
 | .add=>some (.i k (k.wrap (x+y)))
 | .sub=>some (.i k (k.wrap (x - y)))
 | .mul=>some (.i k (k.wrap (x*y)))
 | .quo=>if y=0 then none else some (.i k (k.wrap (x.tdiv y)))
 | .rem=>if y=0 then none else some (.i k (x.tmod y))
 | .and=>some (.i k (k.wrap (BitVec.ofInt k.bits x &&& BitVec.ofInt k.bits y).toNat))
 | .or=>some (.i k (k.wrap (BitVec.ofInt k.bits x|||BitVec.ofInt k.bits y).toNat))
 | .xor=>some (.i k (k.wrap (BitVec.ofInt k.bits x ^^^ BitVec.ofInt k.bits y).toNat))
 | .andNot=>some (.i k (k.wrap (BitVec.ofInt k.bits x &&& ~~~ BitVec.ofInt k.bits y).toNat))
 | .eql=>some (.b (x==y))
 | .neq=>some (.b (x !=y))
 | .lss=>some (.b (decide (x<y)))
 | .leq=>some (.b (decide (x<=y)))
 | .gtr=>some (.b (decide (x>y)))
 | .geq=>some (.b (decide (x>=y)))
 |_=>none
def bj (op:BinOp) (x y:List UInt8):Option PV:=
 match op with
 | .add=>if((x.length+y.length:Nat):Int)>IntKind.i64.max then none else some (.s (x++y))
 | .eql=>some (.b (x==y))
 | .neq=>some (.b (!(x==y)))
 | .lss=>some (.b (Op.bytesLess x y))
 | .leq=>some (.b (Op.bytesLess x y||x==y))
 | .gtr=>some (.b (!(Op.bytesLess x y||x==y)))
 | .geq=>some (.b (!Op.bytesLess x y))
 |_=>none
def Oh (op:BinOp) (k:IntKind) (x y:Int):Option PV:=
 if y<0 then none else
 match op with
 | .shl=>some (.i k (k.wrap (x*2 ^ (min y.toNat k.bits))))
 | .shr=>some (.i k (x.fdiv (2 ^ (min y.toNat k.bits))))
 |_=>none
def bin (op:BinOp) (x y:PV):Option PV:=
 match x,y with
 | .i k x,.i k' y=>
   match op with
   | .shl| .shr=>Oh op k x y
   |_=>if k=k' then Gd op k x y else none
 | .s x,.s y=>bj op x y
 |_,_=>none
def un (op:UnOp) (x:PV):Option PV:=
 match op,x with
 | .not,.b x=>some (.b (!x))
 | .neg,.i k n=>some (.i k (k.wrap (0 - n)))
 |_,_=>none
def LIM:Nat:=1073741824
def bytesPV (x:List UInt8):List PV:=x.map fun c=> .i .u8 (c.toNat:Int)
def byteOf? :PV->Option UInt8
 | .i .u8 n=>if 0<=n∧n<256 then some (UInt8.ofNat n.toNat) else none
 |_=>none
def setCells (cs:List PV) (off:Nat):List PV->List PV
 |[]=>cs
 |v::vs=>setCells (cs.set off v) (off+1) vs
def R4 (x:PV) (off:Nat) (vs:List PV):Option PV:=
 match x with
 | .a cs=>if off+vs.length<=cs.length then some (.a (setCells cs off vs)) else none
 |p=>if p.scal then(match off,vs with|0,[v]=>if v.scal then some v else none|_,_=>none) else none
inductive E where
 |v (n:Nat)
 |c (x:PV)
 |bin (op:BinOp) (x y:E)
 |un (op:UnOp) (x:E)
 |ite (g x y:E)
 |proj (j:Nat) (x:E)
 |sub (off n:Nat) (x:E)
 |agg (xs:List E)
 |fit (n:Nat) (x:E)
 |scal (x:E)
 |idx (sz:Nat) (x i:E)
 |len (x:E)
 |slen (x:E)
 |sidx (x i:E)
 |ssl (x lo hi:E)
 |lsl (sz:Nat) (x lo hi:E)
 |app (sz:Nat) (x y:E)
 |lit (sz:Nat) (xs:List E)
 |rep (sz:Nat) (n z:E)
 |set (sz:Nat) (x i:E) (off:Nat) (vs:List E)
 |conv (k:IntKind) (x:E)
 |b2s (x:E)
 |s2b (x:E)
 |eqs (neg agg:Bool) (ts:List Sc) (x y:E)
 |clo (g:Nat) (caps:List E)
 |mn (x y:E)
 |mx (x y:E)
 |mget (x k z:E)
 |mset (x k v:E)
 |der (x:E)
 |mkp (off:Nat) (x:E)
 |flt (x:E)
 deriving Inhabited
def Lg (sz:Nat):PV->PV->Option PV
 | .l sz' xs,.i _ n=>if sz'=sz then(if 0<=n then xs[n.toNat]? else none) else none
 |_,_=>none
def H7:PV->Option PV
 | .l _ xs=>some (.i .i64 xs.length)
 |_=>none
def Zk:PV->Option PV
 | .s x=>some (.i .i64 x.length)
 |_=>none
def Vf:PV->PV->Option PV
 | .s x,.i _ n=>if 0<=n then(x[n.toNat]?).map fun c=> .i .u8 (c.toNat:Int) else none
 |_,_=>none
def s7:PV->PV->PV->Option PV
 | .s x,.i _ lo,.i _ hi=>if 0<=lo∧lo<=hi∧hi<=x.length then some (.s ((x.take hi.toNat).drop lo.toNat)) else none
 |_,_,_=>none
def Kt (sz:Nat):PV->PV->PV->Option PV
 | .l sz' xs,.i _ lo,.i _ hi=>if sz'=sz then(if 0<=lo∧lo<=hi∧hi<=xs.length then some (.l sz ((xs.take hi.toNat).drop lo.toNat)) else none) else none
 |_,_,_=>none
def Jm (sz:Nat):PV->PV->Option PV
 | .l s1 xs,.l s2 ys=>if s1=sz∧s2=sz∧xs.length+ys.length<=LIM then some (.l sz (xs++ys)) else none
 |_,_=>none
def V6 (sz:Nat) (xs:List PV):Bool:=xs.all fun x=>x.cells.length==sz
def Lf (sz:Nat) (xs:List PV):Option PV:=if V6 sz xs then some (.l sz xs) else none
def M6 (sz:Nat):PV->PV->Option PV
 | .i .i64 n,z=>if 0<=n∧n<=LIM∧z.cells.length=sz then some (.l sz (List.replicate n.toNat z)) else none
 |_,_=>none
def Pw (sz:Nat) (off:Nat) (vs:List PV):PV->PV->Option PV
 | .l s1 xs,.i _ n=>if s1=sz∧0<=n then(xs[n.toNat]?).bind fun x=>(R4 x off vs).map fun y=> .l sz (xs.set n.toNat y) else none
 |_,_=>none
def Ad9 (k:IntKind):PV->Option PV
 | .i _ n=>some (.i k (k.wrap n))
 |_=>none
def Yf:PV->Option PV
 | .l 1 xs=>(xs.mapM byteOf?).map .s
 |_=>none
def Ap1:PV->Option PV
 | .s x=>if x.length<=LIM then some (.l 1 (bytesPV x)) else none
 |_=>none
def Ex6:PV->PV->Option PV
 | .i k x,.i k' y=>if k=k' then some (.i k (if y<x then y else x)) else none
 |_,_=>none
def Fs6:PV->PV->Option PV
 | .i k x,.i k' y=>if k=k' then some (.i k (if y>x then y else x)) else none
 |_,_=>none
def Nf (neg agg:Bool) (ts:List Sc) (p q:PV):Option PV:=
 match agg,p,q with
 |true,.a cs,.a ds=>(Hs ts cs ds).map fun r=> .b (if neg then !r else r)
 |false,p,q=>if p.scal && q.scal then(Hs ts [p] [q]).map fun r=> .b (if neg then !r else r) else none
 |_,_,_=>none
def d7:PV->PV->Option Bool
 | .b x,.b y=>some (x==y)
 | .i k x,.i k' y=>if k=k' then some (x==y) else none
 | .s x,.s y=>some (x==y)
 |_,_=>none
def Cp8 (k:PV):List (PV×PV)->Option (Option PV)
 |[]=>some none
 |e::es=>match d7 k e.1 with
  |some true=>some (some e.2)
  |some false=>Cp8 k es
  |none=>none
def Hh4 (k v:PV):List (PV×PV)->Option (List (PV×PV))
 |[]=>some [(k,v)]
 |e::es=>match d7 k e.1 with
  |some true=>some ((k,v)::es)
  |some false=>(Hh4 k v es).map fun r=>e::r
  |none=>none
def Dq9:PV->Bool
 | .b _| .i _ _| .s _=>true
 |_=>false
def Ab3:PV->PV->PV->Option PV
 | .m es,k,z=>if Dq9 k then(Cp8 k es).map fun r=>r.getD z else none
 |_,_,_=>none
def Ab1:PV->PV->PV->Option PV
 | .m es,k,v=>if Dq9 k then(Hh4 k v es).map .m else none
 |_,_,_=>none
def xz:PV->Option PV
 | .pt cs=>some (.a cs)
 |_=>none
def u6 (off:Nat) (p:PV):Option PV:=some (.pt (p.cells.drop off))
def Gk1:PV->Option PV
 | .l sz xs=>if PV.flat.flats xs=true then some (.l sz xs) else none
 |_=>none
mutual
def E.ev (J:List PV):E->Option PV
 | .v n=>J[n]?
 | .c x=>some x
 | .bin op x y=>(x.ev J).bind fun p=>(y.ev J).bind fun q=>X.bin op p q
 | .un op x=>(x.ev J).bind fun p=>X.un op p
 | .ite g x y=>(g.ev J).bind fun r=>match r with| .b true=>x.ev J| .b false=>y.ev J|_=>none
 | .proj j x=>(x.ev J).bind fun p=>p.cells[j]?
 | .sub off n x=>(x.ev J).bind fun p=>if off+n<=p.cells.length then some (.a ((p.cells.drop off).take n)) else none
 | .agg xs=>(E.evs J xs).map .a
 | .fit n x=>(x.ev J).bind fun p=>match p with| .a cs=>if cs.length=n then some p else none|_=>none
 | .scal x=>(x.ev J).bind fun p=>if p.scal then some p else none
 | .idx sz x i=>(x.ev J).bind fun p=>(i.ev J).bind fun q=>Lg sz p q
 | .len x=>(x.ev J).bind H7
 | .slen x=>(x.ev J).bind Zk
 | .sidx x i=>(x.ev J).bind fun p=>(i.ev J).bind fun q=>Vf p q
 | .ssl x lo hi=>(x.ev J).bind fun p=>(lo.ev J).bind fun q=>(hi.ev J).bind fun r=>s7 p q r
 | .lsl sz x lo hi=>(x.ev J).bind fun p=>(lo.ev J).bind fun q=>(hi.ev J).bind fun r=>Kt sz p q r
 | .app sz x y=>(x.ev J).bind fun p=>(y.ev J).bind fun q=>Jm sz p q
 | .lit sz xs=>(E.evs J xs).bind (Lf sz)
 | .rep sz n z=>(n.ev J).bind fun p=>(z.ev J).bind fun q=>M6 sz p q
 | .set sz x i off vs=>(x.ev J).bind fun p=>(i.ev J).bind fun q=>(E.evs J vs).bind fun r=>Pw sz off r p q
 | .conv k x=>(x.ev J).bind (Ad9 k)
 | .b2s x=>(x.ev J).bind Yf
 | .s2b x=>(x.ev J).bind Ap1
 | .eqs neg ag ts x y=>(x.ev J).bind fun p=>(y.ev J).bind fun q=>Nf neg ag ts p q
 | .clo g caps=>(E.evs J caps).map (.f g)
 | .mn x y=>(x.ev J).bind fun p=>(y.ev J).bind fun q=>Ex6 p q
 | .mx x y=>(x.ev J).bind fun p=>(y.ev J).bind fun q=>Fs6 p q
 | .mget x k z=>(x.ev J).bind fun p=>(k.ev J).bind fun q=>(z.ev J).bind fun r=>Ab3 p q r
 | .mset x k y=>(x.ev J).bind fun p=>(k.ev J).bind fun q=>(y.ev J).bind fun r=>Ab1 p q r
 | .der x=>(x.ev J).bind xz
 | .mkp off x=>(x.ev J).bind (u6 off)
 | .flt x=>(x.ev J).bind Gk1
def E.evs (J:List PV):List E->Option (List PV)
 |[]=>some []
 |x::xs=>(x.ev J).bind fun p=>(E.evs J xs).map fun ps=>p::ps
end
inductive W where
 |chk (x:E)
 /-- a call: under the guard, if there is one; so many results -/
 |call (g:Option E) (flat:Bool) (f:Nat) (ar:List E) (m:Nat)
 |clo (g:Option E) (flat:Bool) (c:E) (ar:List E) (m:Nat)
 /-- a call that turns its first argument, a list of one's own: what it then is -/
 |mcall (f:Nat) (ar:List E)
 deriving Inhabited
inductive T where
 |w (x:W) (k:T)
 |ite (c:E) (t e:T)
 |ret (es:List E)
 |yld (id:Nat) (es:List E)
 |blk (id:Nat) (body k:T)
 |loop (id:Nat) (init:List E) (body:T)
 deriving Inhabited
inductive Out where
 |ret (vs:List PV)
 |yld (id:Nat) (vs:List PV)
 deriving Inhabited
def TAG:Nat:=1048576
abbrev Fns:=Nat->Nat->List PV->Option (List PV)
def results (flat:Bool) (m:Nat) (J:List PV) (r:Option (List PV)):Option (List PV):=
 r.bind fun vs=>if vs.length=m∧(flat=true->PV.flat.flats vs=true) then some (J++vs) else none
def Gb (J:List PV) (m:Nat) (g:Option E) (r:Option (List PV)):Option (List PV):=
 match g with
 |none=>r
 |some g=>(g.ev J).bind fun v=>match v with| .b true=>r| .b false=>some (J++List.replicate m .u)|_=>none
def W.ev (fn:Fns) (J:List PV):W->Option (List PV)
 | .chk x=>(x.ev J).map fun _=>J
 | .call g flat f ar m=>Gb J m g ((E.evs J ar).bind fun vs=>results flat m J (fn f vs.length vs))
 | .clo g flat c ar m=>Gb J m g ((c.ev J).bind fun q=>(E.evs J ar).bind fun vs=>match q with| .f f caps=>results flat m J (fn f vs.length (vs++caps))|_=>none)
 | .mcall f ar=>(E.evs J ar).bind fun vs=>results false 1 J (fn f (vs.length+TAG) vs)
def H4 (step:List PV->Option Out) (id:Nat):Nat->List PV->Option Out
 |0,_=>none
 |n+1,st=>(step st).bind fun o=>match o with
  | .yld j vs=>if j=id then H4 step id n vs else some (.yld j vs)
  | .ret vs=>some (.ret vs)
def T.ev (fn:Fns) (N:Nat):T->List PV->Option Out
 | .w x k,J=>(x.ev fn J).bind fun η'=>k.ev fn N η'
 | .ite c t e,J=>(c.ev J).bind fun r=>match r with| .b true=>t.ev fn N J| .b false=>e.ev fn N J|_=>none
 | .ret es,J=>(E.evs J es).map .ret
 | .yld id es,J=>(E.evs J es).map (.yld id)
 | .blk id body k,J=>(body.ev fn N J).bind fun o=>match o with
   | .yld j vs=>if j=id then k.ev fn N (J++vs) else some (.yld j vs)
   | .ret vs=>some (.ret vs)
 | .loop id init body,J=>(E.evs J init).bind fun st=>H4 (fun vs=>body.ev fn N (J++vs)) id N st
structure FT where
 np:Nat
 nf:Nat
 t:T
def Vn (tab:Nat->Option FT) (ext:Fns->Fns):Nat->Fns
 |0,_,_,_=>none
 |k+1,f,n,args=>match tab f with
  |some t=>if t.np=n∧args.length=t.np % TAG+t.nf then(t.t.ev (Vn tab ext k) k args).bind fun o=>match o with| .ret vs=>some vs|_=>none else none
  |none=>ext (Vn tab ext k) f n args
def NAP:Nat:=1099511627776
inductive SV where
 |e (x:E)
 |nil (sz:Nat)
 |lit (sz:Nat) (x:E)
 |may (g:E) (x:SV)
 |und
 |bp (s off:Nat)
 |ip (x:E) (off:Nat)
 |ap (s:Nat) (i:E) (off:Nat)
 |suf (s:Nat) (i:E)
 |h (s:Nat)
 |mh (s:Nat)
 |tup (xs:List SV)
 |ag (xs:List SV)
 |clo (g:Nat) (caps:List SV)
 |nilq (x:E)
 |slf (s T:Nat)
 deriving Inhabited
structure Ro where
 b:Bool
 lk:Option (Nat×Option (Option Nat))
 deriving DecidableEq,Inhabited
@[match_pattern] abbrev Ro.no:Ro:=⟨false,none⟩
inductive Blk where
 |box (cells:List SV) (ro:Bool)
 |arr (e sz:Nat) (x:E) (ro:Ro)
 |map (x:E) (ro:Bool)
 deriving Inhabited
structure St where
 t:List SV
 m:List (Nat×Blk)
 n:Nat
 deriving Inhabited
def PV.same:PV->PV->Bool
 | .u,.u=>true
 | .b x,.b y=>x==y
 | .i k x,.i k' y=>k==k' && x==y
 | .s x,.s y=>x==y
 | .l n [],.l n2 []=>n==n2
 | .f g [],.f g' []=>g==g'
 | .m [],.m []=>true
 |_,_=>false
mutual
def E.same:E->E->Bool
 | .v n,.v m=>n==m
 | .c x,.c y=>PV.same x y
 | .bin op x y,.bin op' x' y'=>decide (op=op') && x.same x' && y.same y'
 | .un op x,.un op' x'=>decide (op=op') && x.same x'
 | .ite g x y,.ite g' x' y'=>g.same g' && x.same x' && y.same y'
 | .proj j x,.proj j' x'=>j==j' && x.same x'
 | .sub o n x,.sub o' n' x'=>o==o' && n==n' && x.same x'
 | .agg xs,.agg ys=>E.sames xs ys
 | .fit n x,.fit n' x'=>n==n' && x.same x'
 | .scal x,.scal x'=>x.same x'
 | .idx s x i,.idx s' x' i'=>s==s' && x.same x' && i.same i'
 | .len x,.len x'=>x.same x'
 | .slen x,.slen x'=>x.same x'
 | .sidx x i,.sidx x' i'=>x.same x' && i.same i'
 | .ssl x l h,.ssl x' l' h'=>x.same x' && l.same l' && h.same h'
 | .lsl n x l h,.lsl n' x' l' h'=>n==n' && x.same x' && l.same l' && h.same h'
 | .app s x y,.app s' x' y'=>s==s' && x.same x' && y.same y'
 | .lit s xs,.lit s' ys=>s==s' && E.sames xs ys
 | .rep s n z,.rep s' n' z'=>s==s' && n.same n' && z.same z'
 | .conv k x,.conv k' x'=>k==k' && x.same x'
 | .clo g xs,.clo g' ys=>g==g' && E.sames xs ys
 | .set s x i o vs,.set s' x' i' o' vs'=>s==s' && x.same x' && i.same i' && o==o' && E.sames vs vs'
 | .b2s x,.b2s x'=>x.same x'
 | .s2b x,.s2b x'=>x.same x'
 | .eqs n g ts x y,.eqs n' g' ts' x' y'=>n==n' && g==g' && decide (ts=ts') && x.same x' && y.same y'
 | .mn x y,.mn x' y'=>x.same x' && y.same y'
 | .mx x y,.mx x' y'=>x.same x' && y.same y'
 | .mget x y z,.mget x' y' z'=>x.same x' && y.same y' && z.same z'
 | .mset x y z,.mset x' y' z'=>x.same x' && y.same y' && z.same z'
 | .der x,.der x'=>x.same x'
 | .mkp o x,.mkp o' x'=>o==o' && x.same x'
 | .flt x,.flt x'=>x.same x'
 |_,_=>false
def E.sames:List E->List E->Bool
 |[],[]=>true
 |x::xs,y::ys=>x.same y && E.sames xs ys
 |_,_=>false
end
mutual
def SV.same:SV->SV->Bool
 | .e x,.e y=>x.same y
 | .nil n,.nil m=>n==m
 | .lit n x,.lit m y=>n==m && x.same y
 | .may g x,.may g' x'=>g.same g' && x.same x'
 | .und,.und=>true
 | .bp s o,.bp s' o'=>s==s' && o==o'
 | .ip x o,.ip x' o'=>x.same x' && o==o'
 | .ap s i o,.ap s' i' o'=>s==s' && i.same i' && o==o'
 | .suf s i,.suf s' i'=>s==s' && i.same i'
 | .h s,.h s'=>s==s'
 | .mh s,.mh s'=>s==s'
 | .tup xs,.tup ys=>SV.sames xs ys
 | .ag xs,.ag ys=>SV.sames xs ys
 | .clo g xs,.clo g' ys=>g==g' && SV.sames xs ys
 | .nilq x,.nilq y=>x.same y
 | .slf s t,.slf s' t'=>s==s' && t==t'
 |_,_=>false
def SV.sames:List SV->List SV->Bool
 |[],[]=>true
 |x::xs,y::ys=>x.same y && SV.sames xs ys
 |_,_=>false
end
mutual
def E.scp (n:Nat):E->Bool
 | .v m=>decide (m<n)
 | .c _=>true
 | .bin _ x y=>x.scp n && y.scp n
 | .un _ x=>x.scp n
 | .ite g x y=>g.scp n && x.scp n && y.scp n
 | .proj _ x| .sub _ _ x| .fit _ x| .scal x| .len x| .slen x| .conv _ x| .b2s x| .s2b x| .der x| .mkp _ x| .flt x=>x.scp n
 | .agg xs| .lit _ xs| .clo _ xs=>E.scps n xs
 | .idx _ x i| .sidx x i=>x.scp n && i.scp n
 | .ssl x l h| .lsl _ x l h=>x.scp n && l.scp n && h.scp n
 | .app _ x y| .rep _ x y| .eqs _ _ _ x y| .mn x y| .mx x y=>x.scp n && y.scp n
 | .set _ x i _ vs=>x.scp n && i.scp n && E.scps n vs
 | .mget x k z| .mset x k z=>x.scp n && k.scp n && z.scp n
def E.scps (n:Nat):List E->Bool
 |[]=>true
 |x::xs=>x.scp n && E.scps n xs
end
mutual
def SV.scp (n:Nat):SV->Bool
 | .e x| .lit _ x| .ip x _| .nilq x=>x.scp n
 | .may g x=>g.scp n && x.scp n
 | .ap _ i _| .suf _ i=>i.scp n
 | .nil _| .und| .bp _ _| .h _| .mh _| .slf _ _=>true
 | .tup xs| .ag xs| .clo _ xs=>SV.scps n xs
def SV.scps (n:Nat):List SV->Bool
 |[]=>true
 |x::xs=>x.scp n && SV.scps n xs
end
def mget (m:List (Nat×Blk)) (s:Nat):Option Blk:=
 match m with
 |[]=>none
 |(k,b)::r=>if k=s then some b else mget r s
def O6 (m:List (Nat×Blk)) (s:Nat):List (Nat×Blk):=
 match m with
 |[]=>[]
 |(k,b)::r=>if k=s then O6 r s else(k,b)::O6 r s
mutual
def SV.kill (s:Nat):SV->SV
 | .bp s' o=>if s'=s then .und else .bp s' o
 | .ap s' i o=>if s'=s then .und else .ap s' i o
 | .suf s' i=>if s'=s then .und else .suf s' i
 | .h s'=>if s'=s then .und else .h s'
 | .mh s'=>if s'=s then .und else .mh s'
 | .slf s' T=>if s'=s then .und else .slf s' T
 | .may g x=> .may g (x.kill s)
 | .tup xs=> .tup (SV.kills s xs)
 | .ag xs=> .ag (SV.kills s xs)
 | .clo g xs=> .clo g (SV.kills s xs)
 |x=>x
def SV.kills (s:Nat):List SV->List SV
 |[]=>[]
 |x::xs=>x.kill s::SV.kills s xs
end
def Ro.kill (s:Nat):Ro->Ro
 |⟨b,some (off,some (some s'))⟩=>if s'=s then ⟨b,some (off,none)⟩ else ⟨b,some (off,some (some s'))⟩
 |r=>r
def Blk.kill (s:Nat):Blk->Blk
 | .box cs ro=> .box (SV.kills s cs) ro
 | .arr e sz x ro=> .arr e sz x (ro.kill s)
 |b=>b
def Nw (s:Nat) (m:List (Nat×Blk)):List (Nat×Blk):=m.map fun p=>(p.1,p.2.kill s)
def St.fresh (U:St) (s:Nat) (b:Blk):St:={U with t:=SV.kills s U.t,m:=(s,b)::Nw s (O6 U.m s)}
def St.put (U:St) (s:Nat) (b:Blk):St:={U with m:=(s,b)::O6 U.m s}
structure Eff where
 m:List (Nat×Blk)
 n:Nat
 kl:Option Nat
 deriving Inhabited
def St.eff (U:St) (e:Eff):St:={t:=match e.kl with|some s=>SV.kills s U.t|none=>U.t,m:=e.m,n:=e.n}
def Hz (U:St):Eff:=⟨U.m,U.n,none⟩
def H0 (m:List (Nat×Blk)) (n s:Nat) (b:Blk):Eff:=⟨(s,b)::Nw s (O6 m s),n,some s⟩
def Kj (m:List (Nat×Blk)) (s:Nat) (b:Blk):List (Nat×Blk):=(s,b)::O6 m s
def Blk.frz:Blk->Blk
 | .box cs _=> .box cs true
 | .arr e sz x _=> .arr e sz x ⟨true,none⟩
 | .map x _=> .map x true
def Mn (ss:List Nat) (m:List (Nat×Blk)):List (Nat×Blk):=m.map fun p=>if ss.contains p.1 then(p.1,p.2.frz) else p
def Cj (P:Program) (t:TypeId):Nat:=match P.info? t with|some i=>i.size|none=>0
def K4 (P:Program) (t:TypeId):Nat:=match P.info? t with|some i=>i.bytes|none=>0
def Lr (P:Program) (t:TypeId):Bool:=match P.underlying t with|some (.struct _)|some (.array ..)=>true|_=>false
def Is (P:Program) (t:TypeId):Option TypeId:=match P.underlying t with|some (.slice e)=>some e|_=>none
def Cq2 (P:Program) (t:TypeId):Nat:=match Is P t with|some e=>Cj P e|none=>0
def cp (P:Program):Nat->TypeId->List TypeId
 |0,_=>[]
 |d+1,t=>match P.underlying t with
  |some (.struct fs)=>fs.toList.flatMap fun f=>cp P d f.type
  |some (.array n e)=>(List.replicate n (cp P d e)).flatten
  |_=>[t]
def S2 (P:Program) (t:TypeId) (f:Nat):Option (Nat×TypeId):=
 match P.underlying t with
 |some (.struct fs)=>(fs[f]?).map fun x=>(x.offset,x.type)
 |_=>none
def Qv (P:Program) (f:TypeId->Option (List Sc)):List Field->Nat->Option (List Sc)
 |[],_=>some []
 | x :: fs, off => if x.name == "_" || x.offset != off then none else
   match f x.type with
   |some ts=>if Cj P x.type=ts.length then(Qv P f fs (off+ts.length)).map (ts++·) else none
   |none=>none
def sq (P:Program):Nat->TypeId->Option (List Sc)
 |0,_=>none
 |d+1,t=>match P.underlying t with
  |some .bool=>some [.b]
  |some (.int k)=>some [.i k]
  |some .string=>some [.s]
  |some (.struct fs)=>if P.stoodInHeld t then none else Qv P (sq P d) fs.toList 0
  |_=>none
def Dv6 (P:Program) (t:TypeId):Bool:=match P.underlying t with|some .bool=>true|_=>false
def Bq2 (P:Program) (t:TypeId):Bool:=match P.underlying t with|some (.int .u8)=>true|_=>false
def Fl7 (P:Program) (t:TypeId):Bool:=(sq P 20 t).isSome
def Vk (sz:Nat):Value->SV
 | .bool b=> .e (.c (.b b))
 | .int k n=> .e (.c (.i k n))
 | .string s=> .e (.c (.s s.data.toList))
 | .slice none 0 0=> .nil sz
 |_=> .und
def Jd (P:Program) (t:TypeId):Option (List SV):=
 match P.info? t with
 |some i=>match i.zero with
  |some z=>if !(z.cells.toList.all Value.oneCell')||z.cells.size !=i.size then none else some ((z.cells.toList.zip (cp P 20 t++List.replicate z.cells.size 0)).map fun p=>Vk (Cq2 P p.2) p.1)
  |none=>none
 |none=>none
mutual
def SV.asE:SV->Option E
 | .e x=>some x
 | .nil sz=>some (.c (.l sz []))
 | .lit _ x=>some x
 | .ag xs=>(Gd3 xs).map .agg
 |_=>none
def Gd3:List SV->Option (List E)
 |[]=>some []
 |x::xs=>match x.asE,Gd3 xs with
  |some y,some ys=>some (y::ys)
  |_,_=>none
end
def SV.noCap:SV->Bool
 | .nil _| .lit _ _=>true
 |_=>false
def U5:List SV->Nat->Option E->Option E
 |[],_,r=>r
 | .e (.proj j x)::r,k,none=>if j=k then U5 r (k+1) (some x) else none
 | .e (.proj j x)::r,k,some y=>if j=k && x.same y then U5 r (k+1) (some y) else none
 |_::_,_,_=>none
def nn (cs:List SV):SV:=
 match U5 cs 0 none with
 |some x=> .e (.sub 0 cs.length x)
 |none=>if cs.any SV.noCap then .ag cs else match Gd3 cs with
  |some es=> .e (.agg es)
  |none=> .ag cs
def Vb (n:Nat) (x:E):List SV:=(List.range n).map fun j=> .e (.proj j x)
def Wm:E->E->Bool
 | .ite g' x y,g0=>(E.ite g' x y).same g0||((match y with| .c (.b false)=>true|_=>false) && Wm g' g0)
 |g,g0=>g.same g0
def ew (G:Option E) (g0:E):Bool:=match G with|none=>false|some g=>Wm g g0
def Bx3 (G:Option E) (x:E):E:=match G with|none=>x|some g=> .ite g x (.c (.b false))
def Hp (G:Option E) (x:E):W:= .chk (match G with|none=>x|some g=> .ite g x (.c .u))
def Dn6 (G:Option E):SV->Option SV
 | .may g0 x=>if ew G g0 then some x else none
 |x=>some x
def opd (P:Program) (U:St) (G:Option E) (t:TypeId):Operand->Option SV
 | .tmp i=>(U.t[i]?).bind (Dn6 G)
 | .const v=>some (Vk (Cq2 P t) v)
 | .func f=>some (.e (.c (.f f [])))
 | .global _=>none
def G8 (P:Program) (U:St) (G:Option E) (t:TypeId) (x:Operand):Option E:=(opd P U G t x).bind SV.asE
def goL (f:SV->Option (E×List Nat)):List SV->Option (List E×List Nat)
 |[]=>some ([],[])
 |x::xs=>match f x,goL f xs with
  |some (y,s),some (ys,ss)=>some (y::ys,s++ss)
  |_,_=>none
def Ij6 (m:List (Nat×Blk)) (f:SV->Option (E×List Nat)):SV->Option (E×List Nat)
 | .bp s 0=>match mget m s with
   |some (.box cs _)=>match goL f cs with
    |some ([y],ss)=>some (y,s::ss)
    |some (ys,ss)=>some (.agg ys,s::ss)
    |none=>none
   |_=>none
 | .ip y 0=>some (y,[])
 |_=>none
def toE (m:List (Nat×Blk)):Nat->SV->Option (E×List Nat)
 |0,_=>none
 |d+1,sv=>match sv with
  | .e x=>some (x,[])
  | .nil sz=>some (.c (.l sz []),[])
  | .lit _ x=>some (x,[])
  | .und=>some (.c .u,[])
  | .h s=>match mget m s with|some (.arr _ _ x _)=>some (x,[s])|_=>none
  | .mh s=>match mget m s with|some (.map x _)=>some (x,[s])|_=>none
  | .ag xs=>(goL (toE m d) xs).map fun r=>(.agg r.1,r.2)
  | .clo g xs=>(goL (Ij6 m (toE m d)) xs).map fun r=>(.clo g r.1,r.2)
  | .ip y off=>some (.mkp off y,[])
  | .bp s off=>match mget m s with|some (.box cs _)=>(goL (toE m d) cs).map fun r=>(.mkp off (.agg r.1),s::r.2)|_=>none
  |_=>none
def Aj7 (m:List (Nat×Blk)) (xs:List SV):Option (List E×List Nat):=goL (toE m 20) xs
structure Hint where
 /-- sites at which a call's result is taken as an array of one's own -/
 own:List Nat:=[]
 deriving Inhabited
def Gd2 (x:E):E:= .ite x (.c .u) (.scal (.c .u))
def u9 (x i:E):E:=Gd2 (.bin .eql i (.bin .sub (.len x) (.c (.i .i64 1))))
def Ab7 (P:Program) (ro:Ro) (t:TypeId) (off n:Nat):Option (Nat×SV):=match ro.lk with
 |some (lo,some k)=>if off<=lo∧lo<off+n then some (lo - off,match k with|none=> .nil (Cq2 P ((cp P 20 t).getD (lo - off) 0))|some s=> .h s) else none
 |_=>none
def Qg (P:Program) (U:St) (G:Option E) (t:TypeId) (p:SV):Option (List W×SV):=
 if(P.underlying t).isNone then none else match p with
 | .bp s off=>match mget U.m s with
   |some (.box cs _)=>
    if Lr P t then
     let n:=Cj P t
     if off+n<=cs.length then some ([],nn ((cs.drop off).take n)) else none
    else(cs[off]?).map fun c=>([],c)
   |_=>none
 | .ip x off=>
   if Lr P t then some ([Hp G (.sub off (Cj P t) x)],.e (.sub off (Cj P t) x))
   else some ([Hp G (.proj off x)],.e (.proj off x))
 | .ap s i off=>match mget U.m s with
   |some (.arr _ sz x ro)=>
    if Lr P t then match Ab7 P ro t off (Cj P t) with
     |some (j,sv)=>some ([Hp G (.sub off (Cj P t) (.idx sz x i)),Hp G (u9 x i)],.ag ((Vb (Cj P t) (.sub off (Cj P t) (.idx sz x i))).set j sv))
     |none=>some ([Hp G (.sub off (Cj P t) (.idx sz x i))],.e (.sub off (Cj P t) (.idx sz x i)))
    else match Ab7 P ro t off 1 with
     |some (_,sv)=>some ([Hp G (.proj off (.idx sz x i)),Hp G (u9 x i)],sv)
     |none=>some ([Hp G (.proj off (.idx sz x i))],.e (.proj off (.idx sz x i)))
   |_=>none
 | .e y=>
   if Lr P t then some ([Hp G (.sub 0 (Cj P t) (.der y))],.e (.sub 0 (Cj P t) (.der y)))
   else some ([Hp G (.proj 0 (.der y))],.e (.proj 0 (.der y)))
 |_=>none
def cellsOf (P:Program) (m:List (Nat×Blk)) (t:TypeId) (sv:SV):Option (List W×List SV):=
    if Lr P t then match sv with
     | .e (.agg es)=>if es.length=Cj P t then some ([],es.map .e) else none
     | .e x=>some ([.chk (.fit (Cj P t) x)],Vb (Cj P t) x)
     | .ag xs=>if xs.length=Cj P t then some ([],xs) else none
     |_=>none
    else if Cj P t=1 then match sv with
     | .e x=>some ([.chk (.scal x)],[.e x])
     | .lit _ x=>some ([.chk (.scal x)],[.e x])
     | .h s=>match mget m s with
       |some (.arr ..)=>some ([],[.h s])
       |_=>none
     | .nil sz=>some ([],[.nil sz])
     | .bp s off=>some ([],[.bp s off])
     | .ip x off=>some ([],[.ip x off])
     | .ap s i off=>some ([],[.ap s i off])
     | .mh s=>some ([],[.mh s])
     | .clo g cs=>some ([],[.clo g cs])
     |_=>none
    else none
def SV.isSlf:SV->Bool
 | .slf .. =>true
 |_=>false
def X4 (cs:List SV):Bool:=cs.all fun x=> !x.isSlf
def Gs (cs:List SV) (off:Nat):List SV->List SV
 |[]=>cs
 |v::vs=>Gs (cs.set off v) (off+1) vs
def V0 (lk:Option (Nat×Option (Option Nat))) (off:Nat) (vs:List SV):Option (Bool×Option (Nat×Option (Option Nat))):=match lk with
 |none=>none
 |some (lo,k)=>if lo<off∨off+vs.length<=lo then some (false,some (lo,k)) else match vs[lo - off]? with
  |some (.h s2)=>some (true,some (lo,some (some s2)))
  |some (.nil _)=>some (true,some (lo,some none))
  |_=>none
def s5 (P:Program) (U:St) (t:TypeId) (p v:SV):Option (List W×Eff):=
 match cellsOf P U.m t v with
 |none=>none
 |some (ws,vs)=>match p with
  | .bp s off=>match mget U.m s with
    |some (.box cs false)=>if off+vs.length<=cs.length∧X4 vs=true then some (ws,⟨Kj U.m s (.box (Gs cs off vs) false),U.n,none⟩) else none
    |_=>none
  | .ap s i off=>match mget U.m s,Aj7 U.m vs with
    |some (.arr e sz x ⟨false,lk⟩),some (es,ss)=>
     if ss.contains s then none else
     match V0 lk off vs with
     |none=>some (ws++[.chk (.set sz x i off es)],⟨Kj (Mn ss U.m) s (.arr e sz (.set sz x i off es) .no),U.n,none⟩)
     |some (true,lk')=>some (ws++[.chk (.set sz x i off es),.chk (u9 x i)],⟨Kj (Mn ss U.m) s (.arr e sz (.set sz x i off es) ⟨false,lk'⟩),U.n,none⟩)
     |some (false,lk')=>some (ws++[.chk (.set sz x i off es)],⟨Kj (Mn ss U.m) s (.arr e sz (.set sz x i off es) ⟨false,lk'⟩),U.n,none⟩)
    |_,_=>none
  |_=>none
def args (P:Program) (U:St) (G:Option E):List Operand->List TypeId->Option (List SV)
 |[],_=>some []
 |x::xs,ts=>match opd P U G (ts.headD 0) x,args P U G xs (ts.drop 1) with
  |some y,some ys=>some (y::ys)
  |_,_=>none
def N8 (P:Program) (t:TypeId):List TypeId:=match P.underlying t with|some (.tuple ts)=>ts.toList|_=>[t]
def L6 (P:Program) (t:TypeId):Bool:=match P.underlying t with|some (.tuple _)=>false|_=>true
def Cx4 (n:Nat) (m:Nat) (single:Bool):SV:=if single then .e (.v n) else .tup ((List.range m).map fun j=> .e (.v (n+j)))
def MU:Nat:=1099511627776
def g8 (k:Option Nat):Option (Nat×Bool):=k.bind fun e=>if MU<=e then some ((e - MU) / 2,(e - MU) % 2==1) else none
inductive RK where
 |plain
 |own (e:Nat)
 |full (nl:Bool) (m:Nat)
 |ownt (e:Nat)
def FUL:Nat:=549755813888
def NIL:Nat:=824633720832
def FAR:Nat:=274877906944
def OWT:Nat:=962072674304
def rkOf:Option Nat->RK
 |none=> .plain
 |some k=>if k<FAR then .own k else if k<FUL then .own (k - FAR) else if k<NIL then .full false (k - FUL) else if k<OWT then .full true (k - NIL) else if k<MU then .ownt (k - OWT) else .plain
def Bv0 (k:Option Nat):Option Nat:=k.bind fun e=>if FAR<=e∧e<FUL then some (e - FAR) else none
def ah (P:Program) (U:St) (G:Option E) (t:TypeId) (mk:Option E->Bool->List E->Nat->W) (ar:List SV) (more:List Nat):Option (List W×SV×Eff):=
 match Aj7 U.m ar with
 |none=>none
 |some (es,ss)=>
  let ss:=ss++more;let ts:=N8 P t;let m:=ts.length
  if !L6 P t && m==1 then none else
  if !decide (es.length<TAG) then none else
  let flat:=ts.all (Fl7 P);let m':=if flat then U.m else Mn ss U.m
  if !flat && !ss.isEmpty && G.isSome then none else
  some ([mk G flat es m],Cx4 U.n m (L6 P t),⟨m',U.n+m,none⟩)
def Fs7 (P:Program) (U:St) (G:Option E) (f e:Nat) (r:Bool) (ar:Option (List SV)):Option (List W×SV×Eff):=
 if G.isSome then none else
 match ar with
 |some (.h s0::ar)=>match mget U.m s0,Aj7 U.m ar with
  |some (.arr e0 sz0 x .no),some (es,ss)=>
   if e0=e∧sz0=Cj P e∧ss.contains s0=false∧es.length+1<TAG then
    if r then some ([.mcall f (x::es)],.h s0,H0 (Mn ss U.m) (U.n+1) s0 (.arr e sz0 (.v U.n) .no))
    else some ([.mcall f (x::es)],.tup [],⟨Kj (Mn ss U.m) s0 (.arr e sz0 (.v U.n) .no),U.n+1,none⟩)
   else none
  |_,_=>none
 |_=>none
def sy (P:Program) (t:TypeId):Bool:=match P.underlying t with
 |some (.struct fs)=>fs.toList.all fun f=>(P.info? f.type).isSome
 |some (.array _ e)=>(P.info? e).isSome
 |_=>false
def V2 (P:Program) (t:TypeId) (i:Nat):Option (Nat×TypeId):=match P.underlying t with
 |some (.struct fs)=>(fs[i]?).map fun f=>(f.offset,f.type)
 |some (.array _ e)=>some (i*Cj P e,e)
 |_=>none
def W.triv:W->Bool
 | .chk (.scal (.c p))=>p.scal
 |_=>false
def Dz3 (P:Program) (m:List (Nat×Blk)) (kp:Bool) (t:TypeId) (sv:SV):Option (List W×List SV):=
 match kp,sv with
 |true,.lit sz x=>if Lr P t=false∧Cj P t=1 then some ([.chk (.scal x)],[.lit sz x]) else none
 |_,sv=>cellsOf P m t sv
def aj (P:Program) (m:List (Nat×Blk)) (kp:Bool) (place:Nat->Option (Nat×TypeId)):List (Nat×SV)->List SV->Option (List W×List SV)
 |[],cs=>some ([],cs)
 |(i,sv)::r,cs=>match place i with
  |some (off,ft)=>match Dz3 P m kp ft sv with
   |some (ws,vs)=>if off+vs.length<=cs.length then(aj P m kp place r (Gs cs off vs)).map fun q=>(ws++q.1,q.2) else none
   |none=>none
  |none=>none
def Ng (P:Program) (m:List (Nat×Blk)) (e:TypeId):List SV->Option (List W)
 |[]=>some []
 |sv::r=>match cellsOf P m e sv,Ng P m e r with
  |some (ws,_),some ws'=>some (ws++ws')
  |_,_=>none
def LKH:Nat:=1099511627776
def FLH:Nat:=8796093022208
def Q1:List SV->Nat->Option Nat
 |[],_=>none
 | .nil _::_,k=>some k
 |_::r,k=>Q1 r (k+1)
def Ey1 (P:Program) (m:List (Nat×Blk)) (e:TypeId) (svs:List SV):Option (Nat×Option (Option Nat)):=match svs.getLast? with
 |some sv=>match cellsOf P m e sv with
  |some (_,cs)=>(Q1 cs 0).map fun k=>(k,some none)
  |none=>none
 |none=>none
def Cm1 (P:Program) (U:St) (G:Option E) (t:Nat->TypeId):List (Nat×Operand)->Option (List (Nat×SV))
 |[]=>some []
 |(i,x)::r=>match opd P U G (t i) x,Cm1 P U G t r with
  |some y,some ys=>some ((i,y)::ys)
  |_,_=>none
def En (P:Program) (e:TypeId):Bool:=0<K4 P e && K4 P e<=65536 && 0<Cj P e
def Dv5 (P:Program) (t:TypeId):Bool:=match P.underlying t with
 |some (.int _)=>true
 |_=>false
def Ht6 (U:St) (x:SV):Option E:=match x with
 | .h s'=>(match mget U.m s' with|some (.arr _ _ y _)=>some y|_=>none)
 |x=>x.asE
def Tm (U:St) (x:SV):Option (Nat×Option (Option Nat)):=match x with
 | .h s'=>(match mget U.m s' with|some (.arr _ _ (.lit _ (_::_)) ⟨_,some (lo,some none)⟩)=>some (lo,some none)|_=>none)
 |_=>none
def MVH:Nat:=2199023255552
def Ol (P:Program) (U:St) (mv:Bool) (s:Nat) (t:TypeId) (d x:SV):Option (List W×SV×Eff):=
 match Is P t,Ht6 U x with
 |some e,some src=>
  let sz:=Cj P e;let s:=if mv then s+NAP else s
  if !En P e||(Jd P e).isNone then none else
  match d with
  | .nil _=>some ([.chk (.app sz (.c (.l sz [])) src)],.h s,H0 U.m U.n s (.arr e sz (.app sz (.c (.l sz [])) src) ⟨false,Tm U x⟩))
  | .lit _ (.c (.l _ []))=>some ([.chk (.app sz (.c (.l sz [])) src)],.h s,H0 U.m U.n s (.arr e sz (.app sz (.c (.l sz [])) src) .no))
  | .lit _ (.lit _ [])=>some ([.chk (.app sz (.c (.l sz [])) src)],.h s,H0 U.m U.n s (.arr e sz (.app sz (.c (.l sz [])) src) .no))
  | .lit sz0 y=>if sz0=sz then some ([.chk (.app sz y src),.chk (.ite (.bin .eql (.len y) (.c (.i .i64 0))) (.c .u) (.idx sz src (.c (.i .i64 0))))],.h s,H0 U.m U.n s (.arr e sz (.app sz y src) .no)) else none
  | .h s0=>match mget U.m s0 with
    |some (.arr e0 sz0 y ro)=>if e0=e∧sz0=sz then
      if mv then(if NAP<=s0 then some ([.chk (.app sz y src)],.h s,H0 (O6 U.m s0) U.n s (.arr e sz (.app sz y src) ⟨ro.b,Tm U x⟩)) else none)
      else some ([.chk (.app sz y src)],.h s0,H0 U.m U.n s0 (.arr e sz (.app sz y src) ⟨ro.b,Tm U x⟩)) else none
    |_=>none
  |_=>none
 |_,_=>none
def u7 (P:Program) (U:St) (G:Option E) (t:TypeId) (sv:SV):Option (List W×SV):=
 match P.underlying t with
 |some (.slice _)=>match sv with
  | .nil _=>some ([],.e (.c (.i .i64 0)))
  | .h s=>match mget U.m s with
    |some (.arr _ _ x _)=>some ([Hp G (.len x)],.e (.len x))
    |_=>none
  | .suf s i=>match mget U.m s with
    |some (.arr _ _ x _)=>some ([Hp G (.bin .sub (.len x) i)],.e (.bin .sub (.len x) i))
    |_=>none
  |sv=>sv.asE.map fun x=>([Hp G (.len x)],.e (.len x))
 |some .string=>match sv with
  | .e x=>some ([Hp G (.slen x)],.e (.slen x))
  |_=>none
 |_=>none
def Ac4:Option Operand->Bool
 |some (.const (.int .i64 0))=>true
 |_=>false
def Lj (P:Program) (U:St) (G:Option E) (x:Option Operand) (d:E):Option E:=match x with
 |some l=>G8 P U G 0 l
 |none=>some d
def M3 (P:Program) (U:St) (G:Option E) (t:TypeId) (x:SV) (lo hi mx:Option Operand):Option (List W×SV×Eff):=
 match P.underlying t with
 |some .string=>match x.asE,mx with
  |some y,none=>match Lj P U G lo (.c (.i .i64 0)),Lj P U G hi (.slen y) with
   |some l,some h=>some ([Hp G (.ssl y l h)],.e (.ssl y l h),Hz U)
   |_,_=>none
  |_,_=>none
 |some (.slice e)=>
  if Cj P e=0 then none
  else if lo.isNone && Ac4 hi && Ac4 mx then
   (match x with
    | .e y=>some ([Hp G (.len y)],.lit (Cj P e) (.c (.l (Cj P e) [])),Hz U)
    | .nil _=>some ([],.lit (Cj P e) (.c (.l (Cj P e) [])),Hz U)
    |_=>none)
  else match toE U.m 20 x with
  |some (y,ss)=>if G.isSome && !ss.isEmpty then none else
   match Lj P U G lo (.c (.i .i64 0)),Lj P U G hi (.len y) with
   |some l,some h=>match mx with
    |none=>some ([Hp G (.lsl (Cj P e) y l h)],.e (.lsl (Cj P e) y l h),⟨Mn ss U.m,U.n,none⟩)
    |some m=>match G8 P U G 0 m with
     |some m=>if h.same m=true∧hi.isSome=true then some ([Hp G (.lsl (Cj P e) y l h)],.e (.lsl (Cj P e) y l h),⟨Mn ss U.m,U.n,none⟩) else none
     |none=>none
   |_,_=>none
  |none=>none
 |_=>none
def Wc (cs:List SV):Option E:=match cs with
 |[c]=>c.asE
 |cs=>(nn cs).asE
def Sj (P:Program) (U:St) (G:Option E) (t:TypeId) (s0:Nat) (lo hi:Option (Option E)) (mx:Bool):Option (List W×SV×Eff):=
 match Is P t,mget U.m s0,lo,hi,mx with
 |some e,some (.arr e0 sz y .no),none,some (some eh),false=>
  if e0=e∧sz=Cj P e∧sz≠0∧G.isNone=true then
   some ([Hp G (.lsl sz y (.c (.i .i64 0)) eh)],.h s0,H0 U.m U.n s0 (.arr e sz (.lsl sz y (.c (.i .i64 0)) eh) .no))
  else none
 |some e,some (.arr _ sz y _),some (some el),none,false=>
  if sz=Cj P e∧sz≠0∧s0<NAP then some ([Hp G (.lsl sz y el (.len y))],.suf s0 el,Hz U) else none
 |_,_,_,_,_=>none
def Gc (P:Program) (U:St) (G:Option E) (t:TypeId) (n:Nat) (y:E) (lo hi mx:Option Operand):Option (List W×SV×Eff):=
 match Is P t,lo,hi,mx with
 |some e,none,some h,none=>match G8 P U G 0 h with
  |some eh=>if n=Cj P e∧n≠0 then some ([Hp G (.lsl n y (.c (.i .i64 0)) eh),Hp G (Gd2 (.bin .eql eh (.len y)))],.lit n y,Hz U) else none
  |none=>none
 |_,_,_,_=>none
def xl (P:Program) (U:St) (G:Option E) (t:TypeId) (x:SV):Option (List W×SV×Eff):=
 match Is P t,x with
 |some e,.suf s i=>match mget U.m s,Jd P e with
  |some (.arr e0 sz y .no),some zs=>match Wc zs with
   |some z=>
    let x':E:= .app sz (.lsl sz y (.c (.i .i64 0)) i) (.rep sz (.bin .sub (.len y) i) z)
    if e0=e∧sz=Cj P e∧sz≠0∧G.isNone=true then some ([Hp G x'],.tup [],⟨Kj U.m s (.arr e sz x' .no),U.n,none⟩) else none
   |none=>none
  |_,_=>none
 |_,_=>none
def E.isAgg:E->Bool
 | .sub .. | .agg _| .fit .. =>true
 |_=>false
def Zz (P:Program) (G:Option E) (n off:Nat) (ft:TypeId) (sv:SV):Option (List W×SV):=
 if(P.underlying ft).isNone then none else match sv with
 | .e y=>
   let pre:=if y.isAgg then [] else [Hp G (.fit n y)]
   let x:=if Lr P ft then E.sub off (Cj P ft) y else .proj off y
   some (pre++[Hp G x],.e x)
 | .ag cs=>if Lr P ft then(if off+Cj P ft<=cs.length then some ([],nn ((cs.drop off).take (Cj P ft))) else none) else(cs[off]?).map fun c=>([],c)
 |_=>none
def kr (r:Option (List W×SV)) (U:St):Option (List W×SV×Eff):=r.map fun q=>(q.1,q.2,Hz U)
def Dv4:Operand->Bool
 | .const (.slice none 0 0)=>true
 |_=>false
def Ty (P:Program) (t:TypeId):Option TypeId:=match P.underlying t with
 |some (.struct fs)=>match fs.toList with
  |[f0,f1]=>match P.underlying f0.type,Is P f1.type with
   |some (.pointer t'),some e=>if t'=t∧Bq2 P e=true∧Cj P e=1∧En P e=true∧(Jd P e).isSome=true then some e else none
   |_,_=>none
  |_=>none
 |_=>none
def Ez8 (P:Program) (t:TypeId):Bool:=(Ty P t).isSome && (match P.info? t with|some i=>(match i.zero with|some z=>(match z.cells[0]? with|some (Value.pointer none)=>true|_=>false)|none=>false)|none=>false)
def BLD:Nat:=4398046511104
def yq (k:Option Nat):Option (Nat×Nat):=k.bind fun e=>if BLD<=e then some ((e - BLD) / 3,(e - BLD) % 3) else none
def pd (U:St) (s b T e:Nat) (buf:SV) (src:E) (ws:List W):Option (List W×SV×Eff):=match buf with
 | .nil _=>if s=b then none else some (ws++[.chk (.app 1 (.c (.l 1 [])) src)],.und,⟨Kj (H0 U.m U.n s (.arr e 1 (.app 1 (.c (.l 1 [])) src) .no)).m b (.box [.slf b T,.h s] false),U.n,some s⟩)
 | .h s0=>if s0=b then none else match mget U.m s0 with
   |some (.arr e0 sz y .no)=>if e0≠e∨sz≠1 then none else some (ws++[.chk (.app 1 y src)],.und,⟨Kj (H0 U.m U.n s0 (.arr e 1 (.app 1 y src) .no)).m b (.box [.slf b T,.h s0] false),U.n,some s0⟩)
   |_=>none
 |_=>none
def Gy4 (P:Program) (U:St) (G:Option E) (s T0 k:Nat) (ar:Option (List SV)):Option (List W×SV×Eff):=
 if G.isSome then none else
 match ar with
 |some (.bp b 0::ar)=>match mget U.m b with
  |some (.box [.slf b' T,buf] false)=>if b'≠b∨T≠T0 then none else match Ty P T with
   |none=>none
   |some e=>
    match k,ar with
    |0,[.e x]=>pd U s b T e buf (.s2b x) []
    |1,[.e x]=>pd U s b T e buf (.lit 1 [x]) [.chk (.b2s (.lit 1 [x]))]
    |2,[]=>match buf with
     | .h s0=>match mget U.m s0 with
       |some (.arr e0 sz y .no)=>if e0≠e∨s0=b∨sz≠1 then none else
        some ([.chk (.b2s y),.chk (.sidx (.b2s y) (.c (.i .i64 0)))],.e (.b2s y),⟨Nw s0 (O6 U.m s0),U.n,some s0⟩)
       |_=>none
     |_=>none
    |_,_=>none
  |_=>none
 |_=>none
def xop (P:Program) (sig:Nat->Option Nat) (own:List Nat) (U:St) (G:Option E) (s:Nat) (o:Oper):Option (List W×SV×Eff):=
 let free:=G.isNone
 match o.op with
 | .move x| .assign x=>(opd P U G o.type x).map fun v=>([],v,Hz U)
 | .pick c a b=>match G8 P U G 0 c with
   |some ec=>match G8 P U (some (Bx3 G ec)) o.type a,G8 P U (some (Bx3 G (.un .not ec))) o.type b with
    |some ea,some eb=>some ([Hp G (.ite ec ea eb)],.e (.ite ec ea eb),Hz U)
    |_,_=>none
   |none=>none
 | .alloc t=>if !free then none else(Jd P t).bind fun cs=>if X4 cs then some ([],.bp s 0,H0 U.m U.n s (.box (if Ez8 P t then cs.set 0 (.slf s t) else cs) false)) else none
 | .box t x=>if !free then none else
   match (opd P U G t x).bind (cellsOf P U.m t) with
   |some (ws,cs)=>if X4 cs then some (ws,.bp s 0,H0 U.m U.n s (.box (SV.kills s cs) (own.contains s))) else none
   |none=>none
 | .build t parts=>match Jd P t,Cm1 P U G (fun i=>match P.underlying t with|some (.struct fs)=>((fs[i]?).map (·.type)).getD 0|some (.array _ e)=>e|_=>0) parts.toList with
   |some zs,some vs=>match aj P U.m (own.contains (s+LKH)) (V2 P t) vs zs with
    |some (ws,cs)=>if(free||ws.all W.triv) && sy P t then some (if free then ws else [],(if own.contains s then .ag cs else nn cs),Hz U) else none
    |none=>none
   |_,_=>none
 | .buildSlice t len parts=>match Is P t,Cm1 P U G (fun _=>(Is P t).getD 0) parts.toList with
   |some e,some vs=>if(!free && own.contains s)||vs.map (·.1) !=List.range len|| !(len*Cj P e<=16777216)||Cj P e=0||(Jd P e).isNone then none else
    match Ng P U.m e (vs.map (·.2)),Aj7 U.m (vs.map (·.2)) with
    |some ws,some (es,ss)=>
     if own.contains s then(if En P e then some (ws++[.chk (.lit (Cj P e) es)],.h s,H0 (Mn ss U.m) U.n s (.arr e (Cj P e) (.lit (Cj P e) es) ⟨false,if own.contains (s+LKH) then Ey1 P U.m e (vs.map (·.2)) else none⟩)) else none)
     else some (ws++[Hp G (.lit (Cj P e) es)],.lit (Cj P e) (.lit (Cj P e) es),⟨Mn ss U.m,U.n,none⟩)
    |_,_=>none
   |_,_=>none
 | .load t a=>kr ((opd P U G 0 a).bind fun p=>Qg P U G t p) U
 | .store t a x=>if !free then none else match opd P U G 0 a,opd P U G t x with
   |some p,some v=>(s5 P U t p v).map fun r=>(r.1,.und,r.2)
   |_,_=>none
 | .nilCheck x=>match opd P U G 0 x with
   |some (.e y)=>some ([Hp G (.scal y)],.e y,Hz U)
   |some (.bp s off)=>some ([],.bp s off,Hz U)
   |some (.ip y off)=>some ([],.ip y off,Hz U)
   |some (.ap s i off)=>some ([],.ap s i off,Hz U)
   |some (.clo g cs)=>some ([],.clo g cs,Hz U)
   |_=>none
 | .binOp op xt x y yt=>match (if op= .eql∧(Is P xt).isSome=true∧Dv4 y=true then opd P U G xt x else none) with
  |some (.e ex)=>some ([Hp G (.len ex)],.nilq ex,Hz U)
  |_=>match G8 P U G xt x,G8 P U G yt y with
   |some ex,some ey=>
    let ag:=Lr P xt
    if ag||Dv6 P xt then match sq P 20 xt with
     |some ts=>match op with
      | .eql=>if P.eqGuardType P.depth xt then none else some ([Hp G (.eqs false ag ts ex ey)],.e (.eqs false ag ts ex ey),Hz U)
      | .neq=>if P.eqGuardType P.depth xt then none else some ([Hp G (.eqs true ag ts ex ey)],.e (.eqs true ag ts ex ey),Hz U)
      |_=>none
     |none=>none
    else some ([Hp G (.bin op ex ey)],.e (.bin op ex ey),Hz U)
   |_,_=>none
 | .unOp op _ x=>(G8 P U G 0 x).map fun ex=>([Hp G (.un op ex)],.e (.un op ex),Hz U)
 | .convert src dst x=>match P.underlying src,P.underlying dst with
   |some (.int _),some (.int k)=>(G8 P U G 0 x).map fun ex=>([Hp G (.conv k ex)],.e (.conv k ex),Hz U)
   |some .string,some .string=>(G8 P U G 0 x).map fun ex=>([Hp G (.bin .eql ex (.c (.s [])))],.e ex,Hz U)
   |some .string,some (.slice e)=>if Bq2 P e then(if !free then none else(G8 P U G 0 x).map fun ex=>([.chk (.s2b ex)],.e (.s2b ex),Hz U)) else none
   |some (.slice e),some .string=>if Bq2 P e then
     match (opd P U G 0 x).bind (toE U.m 20) with
     |some (ex,_)=>some ([Hp G (.b2s ex)],.e (.b2s ex),Hz U)
     |none=>none
    else none
   |_,_=>none
 | .makeFunc (.func f) first captured=>
   if first.isEmpty then(args P U G captured.toList []).map fun cs=>([],.clo f cs,Hz U) else none
 | .fieldAddr t x f=>match S2 P t f,opd P U G 0 x with
   |some (off,ft),some p=>if Cj P ft=0 then none else match p with
    | .bp s o=>some ([],.bp s (o+off),Hz U)
    | .ip y o=>some ([],.ip y (o+off),Hz U)
    | .ap s i o=>some ([],.ap s i (o+off),Hz U)
    | .e y=>some ([Hp G (.der y)],.ip (.der y) off,Hz U)
    |_=>none
   |_,_=>none
 | .field t x f=>match S2 P t f,opd P U G 0 x with
   |some (off,ft),some sv=>kr (Zz P G (Cj P t) off ft sv) U
   |_,_=>none
 | .indexAddr t x i=>match P.underlying t,opd P U G 0 x,G8 P U G 0 i with
   |some (.slice e),some sv,some ei=>match sv with
    | .h s=>match mget U.m s with
      |some (.arr _ sz y _)=>if sz=Cj P e∧s<NAP then some ([Hp G (.idx sz y ei)],.ap s ei 0,Hz U) else none
      |_=>none
    | .suf s i0=>match mget U.m s with
      |some (.arr _ sz y _)=>if sz=Cj P e then some ([Hp G (.idx sz (.lsl sz y i0 (.len y)) ei),Hp G (.bin .add i0 ei),Hp G (.bin .add i0 (.c (.i .i64 0)))],.ap s (.bin .add i0 ei) 0,Hz U) else none
      |_=>none
    |sv=>match sv.asE with
     |some y=>if Cj P e=0 then none else some ([Hp G (.idx (Cj P e) y ei)],.ip (.idx (Cj P e) y ei) 0,Hz U)
     |none=>none
   |some (.array n e),some sv,some (.c (.i _ k))=>if 0<=k∧k<n∧Cj P e≠0 then match sv with
    | .bp s o=>some ([],.bp s (o+k.toNat*Cj P e),Hz U)
    | .ip y o=>some ([],.ip y (o+k.toNat*Cj P e),Hz U)
    |_=>none
    else none
   |_,_,_=>none
 | .index t x i=>match P.underlying t,opd P U G 0 x,G8 P U G 0 i with
   |some .string,some (.e ex),some ei=>some ([Hp G (.sidx ex ei)],.e (.sidx ex ei),Hz U)
   |some (.array n e),some sv,some (.c (.i _ k))=>if 0<=k∧k<n∧Cj P e≠0 then kr (Zz P G (n*Cj P e) (k.toNat*Cj P e) e sv) U else none
   |_,_,_=>none
 | .slice t x lo hi mx=>match (if own.contains s then opd P U G t x else none) with
   |some (.h s0)=>Sj P U G t s0 (lo.map (G8 P U G 0)) (hi.map (G8 P U G 0)) mx.isSome
   |some (.lit n y)=>Gc P U G t n y lo hi mx
   |some (.nil n)=>Gc P U G t n (.c (.l n [])) lo hi mx
   |_=>(opd P U G t x).bind fun sv=>M3 P U G t sv lo hi mx
 | .extract x i=>match opd P U G 0 x with
   |some (.tup xs)=>(xs[i]?).map fun v=>([],v,Hz U)
   |_=>none
 | .makeSlice t l c=>if !free then none else match Is P t,G8 P U G 0 l,G8 P U G 0 c with
   |some e,some n,some n'=>if !En P e then none else
    match Jd P e with
    |some zs=>match Wc zs with
     |some z=>if n.same (.c (.i .i64 0)) then some ([.chk (.rep (Cj P e) n' z)],.h s,H0 U.m U.n s (.arr e (Cj P e) (.c (.l (Cj P e) [])) .no)) else if !n.same n' then none else some ([.chk (.rep (Cj P e) n z)],.h s,H0 U.m U.n s (.arr e (Cj P e) (.rep (Cj P e) n z) .no))
     |none=>none
    |none=>none
   |_,_,_=>none
 | .call c=>match c.callee with
   | .builtin .len=>match c.args.toList with
     |[x]=>match c.argTypes[0]? with|some t=>kr ((opd P U G t x).bind (u7 P U G t)) U|none=>none
     |_=>none
   | .builtin .cap=>match c.args.toList with
     |[x]=>match c.argTypes[0]? with
      |some t=>(match opd P U G t x with
       |some (.nil n)=>kr (u7 P U G t (.nil n)) U
       |some (.lit n y)=>kr (u7 P U G t (.lit n y)) U
       |_=>none)
      |none=>none
     |_=>none
   | .builtin .append=>if !free then none else match c.args.toList,c.argTypes.toList with
     |[d,x],[t,t']=>if t=t' then match opd P U G t d,opd P U G t x with
       |some sd,some sx=>Ol P U (own.contains (s+MVH)) s t sd sx
       |_,_=>none
      else match opd P U G t d,G8 P U G 0 x,Is P t with
       |some sd,some n,some e=>if Dv5 P t' then(match Jd P e with
        |some zs=>(match Wc zs with
         |some z=>Ol P U (own.contains (s+MVH)) s t sd (.e (.rep (Cj P e) n z))
         |none=>none)
        |none=>none) else none
       |_,_,_=>none
     |_,_=>none
   | .builtin .min=>match c.args.toList with
     |[x,y]=>match G8 P U G 0 x,G8 P U G 0 y with
      |some ex,some ey=>some ([Hp G (.mn ex ey)],.e (.mn ex ey),Hz U)
      |_,_=>none
     |_=>none
   | .builtin .max=>match c.args.toList with
     |[x,y]=>match G8 P U G 0 x,G8 P U G 0 y with
      |some ex,some ey=>some ([Hp G (.mx ex ey)],.e (.mx ex ey),Hz U)
      |_,_=>none
     |_=>none
   | .builtin .clear=>match c.args.toList,c.argTypes.toList with
     |[x],[t]=>(opd P U G t x).bind (xl P U G t)
     |_,_=>none
   | .value (.func f)=>match yq (sig f) with
    |some (T,k)=>Gy4 P U G s T k (args P U G c.args.toList c.argTypes.toList)
    |none=>match g8 (sig f) with
    |some (e,r)=>Fs7 P U G f e r (args P U G c.args.toList c.argTypes.toList)
    |none=>match Bv0 (sig f) with
    |some _=>none
    |none=>match args P U G c.args.toList c.argTypes.toList with
     |some ar=>match ah P U G o.type (fun g fl es m=> .call g fl f es m) ar [] with
      |some (ws,r,F)=>
       if own.contains s then
        match rkOf (sig f) with
        | .own e=>if free && Is P o.type==some e && En P e then
           (if own.contains (s+FLH) then some (ws++[.chk (.flt (.v U.n))],.h s,H0 U.m F.n s (.arr e (Cj P e) (.v U.n) .no)) else some (ws,.h s,H0 F.m F.n s (.arr e (Cj P e) (.v U.n) .no))) else none
        | .full _ _=>none
        | .ownt e=>match N8 P o.type with
          |[t0,_]=>if free && !L6 P o.type && Is P t0==some e && En P e then some (ws,.tup [.h s,.e (.v (U.n+1))],H0 F.m F.n s (.arr e (Cj P e) (.v U.n) .no)) else none
          |_=>none
        | .plain=>none
       else some (ws,r,F)
      |none=>none
     |none=>none
   | .value (.tmp t)=>match opd P U G 0 (.tmp t),args P U G c.args.toList c.argTypes.toList with
     |some (.e x),some ar=>ah P U G o.type (fun g fl es m=> .clo g fl x es m) ar []
     |some (.clo f cs),some ar=>match toE U.m 20 (.clo f cs) with
      |some (x,ss)=>ah P U G o.type (fun g fl es m=> .clo g fl x es m) ar ss
      |none=>none
     |_,_=>none
   |_=>none
 |_=>none
def S9 (U:St) (ops:Array Oper) (j:Nat) (want:Bool):Option E:=
 match ((ops[j]?).bind (·.dst)).bind (U.t[·]?) with
 |some (.e g)=>some (if want then g else .un .not g)
 |some (.may g0 (.e g))=>some (.ite g0 (if want then g else .un .not g) (.c (.b false)))
 |_=>none
def Ix2 (o:Op):Bool:=match o with
 | .move _| .assign _| .pick .. | .load .. | .nilCheck _| .binOp .. | .unOp .. | .convert .. | .fieldAddr .. | .field .. | .indexAddr .. | .index .. | .lookup .. | .slice .. | .extract .. | .build .. | .buildSlice .. | .makeFunc .. =>true
 | .call c=>match c.callee with
   | .builtin .append=>false
   |_=>true
 |_=>false
def St.set (U:St) (d:Option Tmp) (v:SV):St:=match d with|some d=>{U with t:=U.t.set d v}|none=>U
def W.cnt:W->Nat
 | .chk _=>0
 | .call _ _ _ _ m=>m
 | .clo _ _ _ _ m=>m
 | .mcall _ _=>1
def wsN:List W->Nat
 |[]=>0
 |x::r=>x.cnt+wsN r
def Blk.same:Blk->Blk->Bool
 | .box xs r,.box ys r'=>r==r' && SV.sames xs ys
 | .arr e sz x r,.arr e' sz' x' r'=>e==e' && sz==sz' && decide (r=r') && x.same x'
 | .map x r,.map x' r'=>r==r' && x.same x'
 |_,_=>false
def tg:List (Nat×Blk)->List (Nat×Blk)->Bool
 |[],[]=>true
 |(s,b)::m,(s',b')::m'=>s==s' && b.same b' && tg m m'
 |_,_=>false
def E.isB:E->Bool
 | .bin .eql _ _| .bin .neq _ _| .bin .lss _ _| .bin .leq _ _| .bin .gtr _ _| .bin .geq _ _=>true
 | .un .not x=>x.isB
 | .eqs .. =>true
 | .c (.b _)=>true
 | .ite _ x y=>x.isB && y.isB
 |_=>false
def S0:Nat:=987654321
def Gc6:SV->Bool
 | .h s=>s==S0
 |_=>false
def P3 (P:Program) (sig:Nat->Option Nat) (own:List Nat) (ops:Array Oper) (s:Nat) (o:Oper) (U:St):Option (List W×SV×Eff):=
 match o.guard with
 |none=>match xop P sig own U none s o with
  |some (ws,sv,F)=>if wsN ws+U.n=F.n∧(o.dst==some 0 && Gc6 sv)=false then some (ws,sv,F) else none
  |none=>none
 |some (j,want)=>if !Ix2 o.op then none else
  match S9 U ops j want with
  |some g=>match xop P sig own U (some g) s o with
   |some (ws,sv,F)=>if wsN ws+U.n=F.n∧tg F.m U.m=true∧F.kl.isNone=true then some ((if g.isB then [] else [.chk (.ite g (.c .u) (.c .u))])++ws,.may g sv,F) else none
   |none=>none
  |none=>none
def Dm2 (P:Program) (sig:Nat->Option Nat) (own:List Nat) (ops:Array Oper) (rid:Nat):List Oper->Nat->St->Option (List W×St)
 |[],_,U=>some ([],U)
 |o::r,i,U=>match P3 P sig own ops (rid*4096+i) o U with
  |some (ws,sv,F)=>(Dm2 P sig own ops rid r (i+1) ((U.eff F).set o.dst sv)).map fun q=>(ws++q.1,q.2)
  |none=>none
def Bx0 (o:Oper):List Nat:=(o.after.toList.filter (Region.binds .any)).map (·.on)
def V4 (acc:List Nat):List Nat->Nat
 |[]=>0
 |k::r=>2 ^ k|||(acc.getD k 0|||V4 acc r)
def Yg (acc:List Nat):List Oper->List Nat
 |[]=>acc
 |o::r=>Yg (acc++[V4 acc (Bx0 o)]) r
structure Ent where
 o:Oper
 t:List SV
 n:Nat
 ws:List W
 sv:SV
 kl:Option Nat
 ef:Bool
 tr:Bool
 deriving Inhabited
def Gm9 (P:Program) (sig:Nat->Option Nat) (own:List Nat) (ops:Array Oper) (rid:Nat):List Oper->Nat->St->Option (List Ent×St)
 |[],_,U=>some ([],U)
 |o::r,i,U=>match P3 P sig own ops (rid*4096+i) o U with
  |some (ws,sv,F)=>(Gm9 P sig own ops rid r (i+1) ((U.eff F).set o.dst sv)).map fun q=>
    (⟨o,U.t,U.n,ws,sv,F.kl,F.kl.isSome|| !tg F.m U.m,match F.kl with|some s=>SV.sames (SV.kills s U.t) U.t|none=>true⟩::q.1,q.2)
  |none=>none
def Dx0:List Ent->List W
 |[]=>[]
 |e::r=>e.ws++Dx0 r
def qf (P:Program) (sig:Nat->Option Nat) (own:List Nat) (ops:Array Oper) (rid:Nat) (B:Nat->Bool):List Ent->Nat->List (Nat×Blk)->Option (List (Nat×Blk))
 |[],_,m=>some m
 |e::r,i,m=>if B i then(match P3 P sig own ops (rid*4096+i) e.o ⟨e.t,m,e.n⟩ with
  |some (_,_,F)=>qf P sig own ops rid B r (i+1) F.m
  |none=>none) else qf P sig own ops rid B r (i+1) m
def Ds1 (x y:Option Blk):Bool:=match x,y with|some b,some c=>b.same c|none,none=>true|_,_=>false
def eqM (m m':List (Nat×Blk)):Bool:=m.all (fun p=>Ds1 (mget m p.1) (mget m' p.1)) && m'.all (fun p=>Ds1 (mget m p.1) (mget m' p.1))
def E.sameOpt:Option E->Option E->Bool
 |some x,some y=>x.same y
 |none,none=>true
 |_,_=>false
def W.same:W->W->Bool
 | .chk x,.chk y=>x.same y
 | .call g f k ar m,.call g' f' k' ar' m'=>E.sameOpt g g' && f==f' && k==k' && E.sames ar ar' && m==m'
 | .clo g f c ar m,.clo g' f' c' ar' m'=>E.sameOpt g g' && f==f' && c.same c' && E.sames ar ar' && m==m'
 | .mcall k ar,.mcall k' ar'=>k==k' && E.sames ar ar'
 |_,_=>false
def Y0:List W->List W->Bool
 |[],[]=>true
 |x::xs,y::ys=>x.same y && Y0 xs ys
 |_,_=>false
def Xt (ents:List Ent) (k:Nat):Bool:=match ents[k]? with|some e=>e.ef|none=>false
def Gc5:List Nat->List (List Nat)
 |[]=>[[]]
 |x::r=>Gc5 r++(Gc5 r).map (x::·)
def Fy8 (A:List Nat) (ents:List Ent) (y:Nat):List Nat:=(List.range ents.length).filter fun k=>Xt ents k && k !=y && !(A.getD y 0).testBit k && !(A.getD k 0).testBit y
def f3 (A:List Nat) (ents:List Ent) (B:Nat->Bool):Bool:=(List.range ents.length).all fun k=> !B k||(List.range ents.length).all fun i=> !(Xt ents i && (A.getD k 0).testBit i)||B i
def Ip9 (P:Program) (sig:Nat->Option Nat) (own:List Nat) (ops:Array Oper) (rid:Nat) (A:List Nat) (ents:List Ent) (m0:List (Nat×Blk)) (y:Nat) (e:Ent) (Bh:List Nat):Bool:=
 let B:Nat->Bool:=fun k=>Xt ents k && ((A.getD y 0).testBit k||Bh.contains k)
 if !f3 A ents B then true else
 match qf P sig own ops rid B ents 0 m0 with
 |some m=>match P3 P sig own ops (rid*4096+y) e.o ⟨e.t,m,e.n⟩ with
  |some (ws,sv,F)=>Y0 ws e.ws && sv.same e.sv && F.kl==e.kl && (match (if e.ef then qf P sig own ops rid (fun k=>B k||k==y) ents 0 m0 else some m) with|some m'=>eqM F.m m'|none=>false) && (e.ef||e.kl.isNone)
  |none=>false
 |none=>false
def Gj9 (A:List Nat) (n j:Nat):Bool:=(List.range n).all fun i=>if i<j then(A.getD j 0).testBit i else if j<i then(A.getD i 0).testBit j else true
def Dq8 (A:List Nat) (ents:List Ent) (t0:List SV) (y:Nat) (e:Ent):Bool:=if !e.tr then Gj9 A ents.length y else match e.kl with
 |none=>true
 |some s=>SV.sames (SV.kills s t0) t0 && (List.range ents.length).all fun k=>k==y||(A.getD k 0).testBit y||(match ents[k]? with|some e'=>(e'.sv.kill s).same e'.sv|none=>false)
def xm (P:Program) (sig:Nat->Option Nat) (own:List Nat) (ops:Array Oper) (rid:Nat) (ents:List Ent) (U σ':St):Bool:=
 let A:=Yg [] ops.toList
 ((List.range ents.length).all fun y=>match ents[y]? with
   |some e=>decide ((Fy8 A ents y).length<=6) && (Gc5 (Fy8 A ents y)).all (Ip9 P sig own ops rid A ents U.m y e) && Dq8 A ents U.t y e
   |none=>false) &&
 (match qf P sig own ops rid (Xt ents) ents 0 U.m with|some m=>eqM m σ'.m|none=>false)
def Ac5:Op->Bool
 | .select .. =>true
 |_=>false
def Dy3 (ops:Array Oper):Bool:=
 let A:=Yg [] ops.toList
 (List.range ops.size).all fun j=>match ops[j]? with
  |some y=> !Ac5 y.op && (Bx0 y).all (fun k=>decide (k<j)) &&
   (List.range j).all fun i=>(A.getD j 0).testBit i||match ops[i]? with
    |some x=>x.apart ops y
    |none=>false
  |none=>false
def Vs:List (Nat×Blk)->List Nat
 |[]=>[]
 |(s,.box _ true)::m|(s,.arr _ _ _ ⟨true,_⟩)::m|(s,.map _ true)::m=>s::Vs m
 |_::m=>Vs m
def Fx1 (P:Program) (sig:Nat->Option Nat) (own:List Nat) (ops:Array Oper) (rid:Nat) (U:St):Option (List W×St):=
 if Dy3 ops && P.follows .mixedOrders then
  match Dm2 P sig own ops rid ops.toList 0 U with
  |some (_,σ1)=>
   let σ0:St:={U with m:=Mn (Vs σ1.m) U.m}
   match Gm9 P sig own ops rid ops.toList 0 σ0 with
   |some (ents,σ')=>if xm P sig own ops rid ents σ0 σ'=true then some (Dx0 ents,σ') else none
   |none=>none
  |none=>none
 else none
inductive SX where
 |normal|exit (b:Nat)|ret
 deriving DecidableEq,Inhabited
inductive Item where
 |t (k:Nat)
 |c (s off:Nat)
 |ta (k s e sz:Nat)
 |mp (s:Nat)
 |ca (b off s e sz:Nat)
 |ac (s e sz:Nat)
 |lk (k s off s2 e sz:Nat)
 deriving Inhabited
structure Pat where
 dead:List Nat
 items:List Item
 deriving Inhabited
structure Hints where
 own:List Nat:=[]
 /-- by the block that a loop leaves by -/
 loops:List (Nat×Pat):=[]
 blks:List (Nat×Pat):=[]
 /-- by the condition's slot -/
 conds:List (Nat×Pat):=[]
 /-- regions that are not carried over: whoever comes there has no answer -/
 bots:List Nat:=[]
 deriving Inhabited
def Cr1:List (Nat×Nat)->Nat->Option Nat
 |[],_=>none
 |(k,v)::r,f=>if k=f then some v else Cr1 r f
def Ij0 (l:List (Nat×Pat)) (k:Nat):Option Pat:=match l with|[]=>none|(j,p)::r=>if j=k then some p else Ij0 r k
def Hr3 (U:St):List Nat->St
 |[]=>U
 |k::r=>Hr3 {U with t:=U.t.set k .und} r
def abs (U:St) (n:Nat):List Item->Option St
 |[]=>some U
 | .t k::r=>abs {U with t:=U.t.set k (.e (.v n))} (n+1) r
 | .c s off::r=>match mget U.m s with
   |some (.box cs false)=>if off<cs.length then abs (U.put s (.box (cs.set off (.e (.v n))) false)) (n+1) r else none
   |_=>none
 | .ta k s e sz::r=>
   let σ1:St:=match U.t[k]? with
    |some (.h s0)=>{U with t:=SV.kills s0 U.t,m:=Nw s0 (O6 U.m s0)}
    |_=>U
   let σ':=σ1.fresh s (.arr e sz (.v n) .no)
   abs {σ' with t:=σ'.t.set k (.h s)} (n+1) r
 | .ac s e sz::r=>match mget U.m s with
   |some (.arr e' sz' _ ⟨false,_⟩)=>if e'=e∧sz'=sz then abs (U.put s (.arr e sz (.v n) .no)) (n+1) r else none
   |_=>none
 | .mp s::r=>match mget U.m s with
   |some (.map _ false)=>abs (U.put s (.map (.v n) false)) (n+1) r
   |_=>none
 | .ca b off s e sz::r=>
   let σ1:St:=match mget U.m b with
    |some (.box cs false)=>match cs[off]? with
     |some (.h s0)=>{U with t:=SV.kills s0 U.t,m:=Nw s0 (O6 U.m s0)}
     |_=>U
    |_=>U
   let σ':=σ1.fresh s (.arr e sz (.v n) .no)
   match mget σ'.m b with
   |some (.box cs false)=>if off<cs.length then abs (σ'.put b (.box (cs.set off (.h s)) false)) (n+1) r else none
   |_=>none
 | .lk _ s off s2 e sz::r=>
   let σ':=U.fresh s2 (.arr e sz (.v n) ⟨true,none⟩)
   match mget σ'.m s with
   |some (.arr e0 sz0 x ⟨false,_⟩)=>if s=s2 then none else abs (σ'.put s (.arr e0 sz0 x ⟨false,some (off,some (some s2))⟩)) (n+1) r
   |_=>none
mutual
def SV.refs:SV->List Nat
 | .bp s _| .h s| .mh s| .slf s _| .ap s _ _| .suf s _=>[s]
 | .may _ x=>x.refs
 | .tup xs| .ag xs| .clo _ xs=>SV.refss xs
 |_=>[]
def SV.refss:List SV->List Nat
 |[]=>[]
 |x::xs=>x.refs++SV.refss xs
end
def gcM (U:St):St:=
 let rs:=SV.refss U.t++U.m.flatMap fun p=>match p.2 with| .box cs _=>SV.refss cs| .arr _ _ _ ⟨_,some (_,some (some s))⟩=>[s]|_=>[]
 {U with m:=U.m.filter fun p=>match p.2 with| .arr .. =>rs.contains p.1||p.1==S0|_=>true}
def pat (U:St) (p:Pat):Option St:=(abs (gcM (Hr3 U p.dead)) U.n p.items).map fun σ'=>{σ' with n:=U.n+p.items.length}
def Ip5 (U:St) (k off:Nat):Option (Option Nat):=match U.t[k]? with
 |some (.h s')=>(match mget U.m s' with|some (.arr _ _ _ ⟨_,some (lo,some q)⟩)=>if lo=off then some q else none|_=>none)
 |some (.nil _)=>some none
 |_=>none
def Bz2 (U:St):List Item->Option (List E)
 |[]=>some []
 | .t k::r=>match (U.t[k]?).bind SV.asE,Bz2 U r with
   |some x,some xs=>some (x::xs)
   |_,_=>none
 | .c s off::r=>match (match mget U.m s with|some (.box cs false)=>(cs[off]?).bind SV.asE|_=>none),Bz2 U r with
   |some x,some xs=>some (x::xs)
   |_,_=>none
 | .ta k _ e sz::r=>match (match U.t[k]? with
    |some (.h s')=>(match mget U.m s' with|some (.arr e' sz' x ⟨false,_⟩)=>if e'=e∧sz'=sz then some x else none|_=>none)
    |some (.nil _)=>some (.c (.l sz []))
    |_=>none),Bz2 U r with
   |some x,some xs=>some (x::xs)
   |_,_=>none
 | .ac s e sz::r=>match (match mget U.m s with|some (.arr e' sz' x ⟨false,_⟩)=>if e'=e∧sz'=sz then some x else none|_=>none),Bz2 U r with
   |some x,some xs=>some (x::xs)
   |_,_=>none
 | .mp s::r=>match (match mget U.m s with|some (.map x false)=>some x|_=>none),Bz2 U r with
   |some x,some xs=>some (x::xs)
   |_,_=>none
 | .ca b off _ e sz::r=>match (match mget U.m b with
    |some (.box cs false)=>(match cs[off]? with
     |some (.h s')=>(match mget U.m s' with|some (.arr e' sz' x ⟨false,_⟩)=>if e'=e∧sz'=sz then some x else none|_=>none)
     |some (.nil _)=>some (.c (.l sz []))
     |_=>none)
    |_=>none),Bz2 U r with
   |some x,some xs=>some (x::xs)
   |_,_=>none
 | .lk k _ off _ e sz::r=>match (match Ip5 U k off with
    |some (some s')=>(match mget U.m s' with|some (.arr e' sz' x _)=>if e'=e∧sz'=sz then some x else none|_=>none)
    |some none=>some (.c (.l sz []))
    |none=>none),Bz2 U r with
   |some x,some xs=>some (x::xs)
   |_,_=>none
def rens (U:St):List Item->List (Nat×SV)
 |[]=>[]
 | .ta k s _ _::r=>(s,(U.t[k]?).getD .und)::rens U r
 | .ca b off s _ _::r=>(s,match mget U.m b with|some (.box cs _)=>(cs[off]?).getD .und|_=> .und)::rens U r
 | .lk k _ off s2 _ sz::r=>(s2,match Ip5 U k off with|some (some s')=> .h s'|some none=> .nil sz|none=> .und)::rens U r
 |_::r=>rens U r
def Iv (R:List (Nat×SV)) (s:Nat):Option SV:=match R with|[]=>none|(k,x)::r=>if k=s then some x else Iv r s
def Ez9 (m:List (Nat×Blk)) (s:Nat):Bool:=match mget m s with|some (.arr ..)=>true|_=>false
mutual
def SV.okM (m:List (Nat×Blk)) (R:List (Nat×SV)):SV->Bool
 | .bp s _| .h s| .mh s| .slf s _=>(Iv R s).isNone
 | .ap s _ _| .suf s _=>(Iv R s).isNone && Ez9 m s
 | .may _ x=>x.okM m R
 | .tup xs| .ag xs| .clo _ xs=>SV.okMs m R xs
 |_=>true
def SV.okMs (m:List (Nat×Blk)) (R:List (Nat×SV)):List SV->Bool
 |[]=>true
 |x::xs=>x.okM m R && SV.okMs m R xs
end
def Em9 (es:List E) (n:Nat) (x y:E):Bool:=match y with
 | .v k=>if n<=k then(match es[k - n]? with|some e=>e.same x|none=>false) else x.same y
 |y=>x.same y && y.scp n
def An7 (es:List E) (n:Nat) (m:List (Nat×Blk)) (R:List (Nat×SV)) (x y:SV):Bool:=match y with
 | .und=>true
 | .e y=>(match x.asE with|some x=>Em9 es n x y|none=>false)
 | .h s=>(match Iv R s with
   |some (.h s')=>(match x with| .h s''=>s''==s'|_=>false)
   |some (.nil _)=>(match x with| .nil _=>true|_=>false)
   |some _=>false
   |none=>(match x with| .h s'=>s'==s|_=>false))
 |y=>x.same y && y.scp n && y.okM m R
def K5 (es:List E) (n:Nat) (m:List (Nat×Blk)) (R:List (Nat×SV)):List SV->List SV->Bool
 |[],[]=>true
 |x::xs,y::ys=>An7 es n m R x y && K5 es n m R xs ys
 |_,_=>false
def Bq8:List (Nat×SV)->List Nat
 |[]=>[]
 |(_,.h s')::r=>s'::Bq8 r
 |_::r=>Bq8 r
def lh:List Nat->Bool
 |[]=>true
 |x::xs=> !xs.contains x && lh xs
def An8 (R:List (Nat×SV)) (l:Option (Nat×Option (Option Nat))):Option (Nat×Option (Option Nat))->Bool
 |some (off,some (some s))=>(match Iv R s with
  |some (.h s')=>l==some (off,some (some s'))
  |some (.nil _)=>l==some (off,some none)
  |some _=>false
  |none=>l==some (off,some (some s)))
 |some (off,some none)=>l==some (off,some none)
 |_=>true
def j5 (es:List E) (n:Nat) (m':List (Nat×Blk)) (R:List (Nat×SV)) (m:List (Nat×Blk)) (s:Nat):Bool:=
 match Iv R s with
 |some (.h s')=>(match mget m s',mget m' s with
  |some (.arr e sz x ro),some (.arr e' sz' y ro')=>e==e' && sz==sz' && (ro'.b|| !ro.b) && An8 R ro.lk ro'.lk && Em9 es n x y
  |_,_=>false)
 |some (.nil _)=>(match mget m' s with
  |some (.arr _ sz y _)=>decide (0<sz) && Em9 es n (.c (.l sz [])) y
  |_=>false)
 |some _=>false
 |none=> !(Bq8 R).contains s && (match mget m s,mget m' s with
  |some (.box xs ro),some (.box ys ro')=>ro==ro' && K5 es n m' R xs ys
  |some (.arr e sz x ro),some (.arr e' sz' y ro')=>e==e' && sz==sz' && (ro'.b|| !ro.b) && An8 R ro.lk ro'.lk && Em9 es n x y
  |some (.map x ro),some (.map y ro')=>ro==ro' && Em9 es n x y
  |_,_=>false)
def Tz (σ' σh:St) (n:Nat) (p:Pat):Option (List E):=
 match Bz2 σ' p.items with
 |some es=>let R:=rens σ' p.items
  if K5 es n σh.m R σ'.t σh.t && σh.m.all (fun q=>j5 es n σh.m R σ'.m q.1) && lh (Bq8 R) && lh (R.map (·.1)) && !(R.map (·.1)).contains S0 && σh.n==n+es.length then some es else none
 |none=>none
def Dn1 (ws:List W) (k:T):T:=ws.foldr T.w k
def T.yields (id:Nat):T->Bool
 | .w _ k=>k.yields id
 | .ite _ t e=>t.yields id||e.yields id
 | .ret _=>false
 | .yld j _=>j==id
 | .blk _ b k=>b.yields id||k.yields id
 | .loop _ _ b=>b.yields id
def T.bot:T:= .ret [.scal (.c .u)]
abbrev Bg:=SX->St->Option T
def lm (id:Nat) (r:Option T):Option T:=r.bind fun t=>if t.yields id then none else some t
def T.strip:T->T
 | .w (.chk _) k=>k.strip
 |t=>t
def Fs1 (ex:E) (ta tb:T):Bool:=match ta,tb.strip with
 | .ret [.c (.l sz [])],.ret [.app s1 (.c (.l s2 [])) y]=>s1==sz && s2==sz && ex.same y
 |_,_=>false
def sx (P:Program) (sig:Nat->Option Nat) (H:Hints):Code->(lb d:Nat)->St->Bg->Option T
 | .skip,_,_,U,k=>k .normal U
 | .region id ops draw,_,_,U,k=>
   match (if draw then Fx1 P sig H.own ops id U else Dm2 P sig H.own ops id ops.toList 0 U) with
   |some (ws,σ')=>(k .normal σ').map (Dn1 ws)
   |none=>if H.bots.contains id then some T.bot else none
 | .seq a b,lb,d,U,k=>sx P sig H a lb d U fun x σ'=>match x with
   | .normal=>sx P sig H b lb d σ' k
   |x=>k x σ'
 | .cond c a b,lb,d,U,k=>
   match G8 P U none 0 c with
   |some (.c (.b true))=>sx P sig H a lb d U k
   |some (.c (.b false))=>sx P sig H b lb d U k
   |some ec=>
    match (match c with| .tmp t=>Ij0 H.conds t|_=>none) with
    |none=>match sx P sig H a lb d U k,sx P sig H b lb d U k with
     |some ta,some tb=>some (.ite ec ta tb)
     |_,_=>none
    |some p=>match pat U p with
     |none=>none
     |some σh=>
      let k':Bg:=fun x σ'=>match x with
       | .normal=>(Tz σ' σh U.n p).map (.yld d)
       |x=>lm d (k x σ')
      match sx P sig H a lb (d+1) U k',sx P sig H b lb (d+1) U k',k .normal σh with
      |some ta,some tb,some tk=>some (.blk d (.ite ec ta tb) tk)
      |_,_,_=>none
   |none=>match opd P U none 0 c with
    |some (.nilq ex)=>match sx P sig H a lb d U k,sx P sig H b lb d U k with
     |some ta,some tb=>if Fs1 ex ta tb then some tb else none
     |_,_=>none
    |_=>none
 | .block id c,_,d,U,k=>
   match Ij0 H.blks id with
   |none=>sx P sig H c id d U fun x σ'=>match x with
    | .exit b=>if b=id then k .normal σ' else k x σ'
    |x=>k x σ'
   |some p=>match pat U p with
    |none=>none
    |some σh=>match sx P sig H c id (d+1) U (fun x σ'=>match x with
      | .normal=>(Tz σ' σh U.n p).map (.yld d)
      | .exit b=>if b=id then(Tz σ' σh U.n p).map (.yld d) else lm d (k x σ')
      |x=>lm d (k x σ')),k .normal σh with
     |some tc,some tk=>some (.blk d tc tk)
     |_,_=>none
 | .loop c,lb,d,U,k=>
   match Ij0 H.loops lb with
   |none=>none
   |some p=>match pat U p with
    |none=>none
    |some σh=>match Tz U σh U.n p,sx P sig H c lb (d+1) σh fun x σ'=>match x with
      | .normal=>(Tz σ' σh U.n p).map (.yld d)
      |x=>lm d (k x σ') with
     |some es,some tb=>some (.loop d es tb)
     |_,_=>none
 | .exit id,_,_,U,k=>k (.exit id) U
 | .ret,_,_,U,k=>k .ret U
 |_,_,_,_,_=>none
def Ds3 (P:Program) (U:St):ResultVar->Option SV
 | .tmp t=>U.t[t]?
 | .cell p t=>match U.t[p]? with
   |some sv=>match Qg P U none t sv with
    |some ([],v)=>some v
    |_=>none
   |none=>none
def Md (P:Program) (U:St):List ResultVar->Option (List SV)
 |[]=>some []
 |r::rs=>match Ds3 P U r,Md P U rs with
  |some x,some xs=>some (x::xs)
  |_,_=>none
def Qj (P:Program) (mu:Option (Nat×Bool)) (fa:Option Nat) (fn:Func):St:=
 let np:=fn.params.size
 {t:=(List.range np).map (fun j=>if mu.isSome=true∧j=0 then SV.h S0 else if j=0 then(match fa with|some e=>SV.lit (Cj P e) (.v 0)|none=>SV.e (.v j)) else SV.e (.v j))++(List.range fn.nfree).map (fun j=>SV.ip (.v (np+j)) 0)++List.replicate (fn.ntmps - (np+fn.nfree)) .und,
  m:=match mu with|some (e,_)=>[(S0,.arr e (Cj P e) (.v 0) .no)]|none=>[],n:=np+fn.nfree}
def Ab9 (P:Program) (U:St) (e:Nat) (r:Bool) (svs:List SV):Option T:=
 match (if r then(match svs with|[.h s]=>some s|_=>none) else(match svs,(U.t[0]? :Option SV) with|[],some (SV.h s)=>if s=S0 then some s else none|_,_=>none)) with
 |some s=>match mget U.m s with
  |some (.arr e' sz x ⟨false,_⟩)=>if e'=e∧sz=Cj P e then some (.ret [x]) else none
  |_=>none
 |none=>none
def Uy (P:Program) (U:St) (e:Nat) (svs:List SV):Option T:=match svs with
 |[.h s]=>match mget U.m s with
  |some (.arr e' sz x ⟨false,_⟩)=>if e'=e∧sz=Cj P e then some (.ret [x]) else none
  |_=>none
 |[.nil sz]=>if sz=Cj P e∧0<sz then some (.ret [.c (.l sz [])]) else none
 |[.lit sz x]=>if sz=Cj P e∧0<sz then some (.w (.chk (Gd2 (.bin .eql (.len x) (.c (.i .i64 0))))) (.ret [.c (.l sz [])])) else none
 |_=>none
def Qh (P:Program) (U:St) (e:Nat) (svs:List SV):Option T:=match svs with
 |[.h s,.e y]=>match mget U.m s with
  |some (.arr e' sz x ⟨false,_⟩)=>if e'=e∧sz=Cj P e then some (.ret [x,y]) else none
  |_=>none
 |[.nil sz,.e y]=>if sz=Cj P e∧0<sz then some (.ret [.c (.l sz []),y]) else none
 |_=>none
def Qx (P:Program) (U:St):List ResultVar->Option (List SV)
 |[.cell p t]=>if Lr P t then(match U.t[p]? with
  |some (.bp s off)=>match mget U.m s with
   |some (.box cs _)=>some ((cs.drop off).take (Cj P t))
   |_=>none
  |_=>none) else none
 |[.tmp t]=>match U.t[t]? with
  |some (.ag cs)=>some cs
  |_=>none
 |_=>none
def SV.noRoom (nl:Bool):SV->Bool
 | .nil _=>true
 | .lit _ _=> !nl
 |_=>false
def Ab4 (nl:Bool) (m:Nat) (cs:List SV):Bool:=decide (m<2 ^ cs.length) && (List.range cs.length).all fun j=> !m.testBit j||(cs.getD j .und).noRoom nl
def Ft8 (P:Program) (fn:Func) (own:Option Nat):Bg:=fun x U=>
 match x with
 | .exit _=>none
 |_=>match Md P U fn.results.toList with
  |some svs=>
   match g8 own with
   |some (e,r)=>Ab9 P U e r svs
   |none=>
    match rkOf own with
    | .own e=>Uy P U e svs
    | .ownt e=>Qh P U e svs
    | .full nl m=>match Qx P U fn.results.toList with
      |some cs=>if Ab4 nl m cs then(Aj7 U.m svs).map fun r=> .ret r.1 else none
      |none=>none
    | .plain=>(Aj7 U.m svs).map fun r=> .ret r.1
  |none=>none
def Dl1 (P:Program) (sig:Nat->Option Nat) (f:Nat) (fn:Func) (H:Hints):Option T:=
 match fn.body with
 |some c=>if fn.params.size+fn.nfree<=fn.ntmps then(if(g8 (sig f)).isSome=true∧fn.params.size=0 then none else sx P sig H c 0 0 (Qj P (g8 (sig f)) (Bv0 (sig f)) fn) (Ft8 P fn (sig f))) else none
 |none=>none
mutual
def E.ev_mono (J I:List PV):∀(x:E) (p:PV),x.ev J=some p->x.ev (J++I)=some p
 | .v n,p,h=>by simp only[E.ev] at h ⊢;rw[Cm (Br.1 h).1];exact h
 | .c x,p,h=>by simpa only[E.ev] using h
 | .bin op x y,p,h=>by simp only[E.ev,Bl] at h ⊢;obtain⟨a,ha,b,hb,h⟩:=h;exact⟨a,E.ev_mono J I x a ha,b,E.ev_mono J I y b hb,h⟩
 | .un op x,p,h=>by simp only[E.ev,Bl] at h ⊢;obtain⟨a,ha,h⟩:=h;exact⟨a,E.ev_mono J I x a ha,h⟩
 | .ite g x y,p,h=>by
   simp only[E.ev,Bl] at h ⊢;obtain⟨a,ha,h⟩:=h;refine⟨a,E.ev_mono J I g a ha,?_⟩;split at h
   .exact E.ev_mono J I x p h
   .exact E.ev_mono J I y p h
   .cases h
 | .proj j x,p,h=>by simp only[E.ev,Bl] at h ⊢;obtain⟨a,ha,h⟩:=h;exact⟨a,E.ev_mono J I x a ha,h⟩
 | .sub o n x,p,h=>by simp only[E.ev,Bl] at h ⊢;obtain⟨a,ha,h⟩:=h;exact⟨a,E.ev_mono J I x a ha,h⟩
 | .agg xs,p,h=>by simp only[E.ev,Bs] at h ⊢;obtain⟨a,ha,h⟩:=h;exact⟨a,E.evs_mono J I xs a ha,h⟩
 | .fit n x,p,h=>by simp only[E.ev,Bl] at h ⊢;obtain⟨a,ha,h⟩:=h;exact⟨a,E.ev_mono J I x a ha,h⟩
 | .scal x,p,h=>by simp only[E.ev,Bl] at h ⊢;obtain⟨a,ha,h⟩:=h;exact⟨a,E.ev_mono J I x a ha,h⟩
 | .idx sz x y,p,h=>by simp only[E.ev,Bl] at h ⊢;obtain⟨a,ha,b,hb,h⟩:=h;exact⟨a,E.ev_mono J I x a ha,b,E.ev_mono J I y b hb,h⟩
 | .len x,p,h| .slen x,p,h=>by simp only[E.ev,Bl] at h ⊢;obtain⟨a,ha,h⟩:=h;exact⟨a,E.ev_mono J I x a ha,h⟩
 | .sidx x y,p,h=>by simp only[E.ev,Bl] at h ⊢;obtain⟨a,ha,b,hb,h⟩:=h;exact⟨a,E.ev_mono J I x a ha,b,E.ev_mono J I y b hb,h⟩
 | .ssl x y z,p,h=>by simp only[E.ev,Bl] at h ⊢;obtain⟨a,ha,b,hb,c,hc,h⟩:=h;exact⟨a,E.ev_mono J I x a ha,b,E.ev_mono J I y b hb,c,E.ev_mono J I z c hc,h⟩
 | .lsl _ x y z,p,h=>by simp only[E.ev,Bl] at h ⊢;obtain⟨a,ha,b,hb,c,hc,h⟩:=h;exact⟨a,E.ev_mono J I x a ha,b,E.ev_mono J I y b hb,c,E.ev_mono J I z c hc,h⟩
 | .app sz x y,p,h=>by simp only[E.ev,Bl] at h ⊢;obtain⟨a,ha,b,hb,h⟩:=h;exact⟨a,E.ev_mono J I x a ha,b,E.ev_mono J I y b hb,h⟩
 | .lit sz xs,p,h=>by simp only[E.ev,Bl] at h ⊢;obtain⟨a,ha,h⟩:=h;exact⟨a,E.evs_mono J I xs a ha,h⟩
 | .rep sz x y,p,h=>by simp only[E.ev,Bl] at h ⊢;obtain⟨a,ha,b,hb,h⟩:=h;exact⟨a,E.ev_mono J I x a ha,b,E.ev_mono J I y b hb,h⟩
 | .set sz x y o vs,p,h=>by simp only[E.ev,Bl] at h ⊢;obtain⟨a,ha,b,hb,c,hc,h⟩:=h;exact⟨a,E.ev_mono J I x a ha,b,E.ev_mono J I y b hb,c,E.evs_mono J I vs c hc,h⟩
 | .conv k x,p,h=>by simp only[E.ev,Bl] at h ⊢;obtain⟨a,ha,h⟩:=h;exact⟨a,E.ev_mono J I x a ha,h⟩
 | .b2s x,p,h=>by simp only[E.ev,Bl] at h ⊢;obtain⟨a,ha,h⟩:=h;exact⟨a,E.ev_mono J I x a ha,h⟩
 | .s2b x,p,h=>by simp only[E.ev,Bl] at h ⊢;obtain⟨a,ha,h⟩:=h;exact⟨a,E.ev_mono J I x a ha,h⟩
 | .eqs neg g ts x y,p,h=>by simp only[E.ev,Bl] at h ⊢;obtain⟨a,ha,b,hb,h⟩:=h;exact⟨a,E.ev_mono J I x a ha,b,E.ev_mono J I y b hb,h⟩
 | .clo g xs,p,h=>by simp only[E.ev,Bs] at h ⊢;obtain⟨a,ha,h⟩:=h;exact⟨a,E.evs_mono J I xs a ha,h⟩
 | .mn x y,p,h=>by simp only[E.ev,Bl] at h ⊢;obtain⟨a,ha,b,hb,h⟩:=h;exact⟨a,E.ev_mono J I x a ha,b,E.ev_mono J I y b hb,h⟩
 | .mx x y,p,h=>by simp only[E.ev,Bl] at h ⊢;obtain⟨a,ha,b,hb,h⟩:=h;exact⟨a,E.ev_mono J I x a ha,b,E.ev_mono J I y b hb,h⟩
 | .mget x y z,p,h=>by simp only[E.ev,Bl] at h ⊢;obtain⟨a,ha,b,hb,c,hc,h⟩:=h;exact⟨a,E.ev_mono J I x a ha,b,E.ev_mono J I y b hb,c,E.ev_mono J I z c hc,h⟩
 | .mset x y z,p,h=>by simp only[E.ev,Bl] at h ⊢;obtain⟨a,ha,b,hb,c,hc,h⟩:=h;exact⟨a,E.ev_mono J I x a ha,b,E.ev_mono J I y b hb,c,E.ev_mono J I z c hc,h⟩
 | .der x,p,h| .mkp _ x,p,h| .flt x,p,h=>by simp only[E.ev,Bl] at h ⊢;obtain⟨a,ha,h⟩:=h;exact⟨a,E.ev_mono J I x a ha,h⟩
def E.evs_mono (J I:List PV):∀(xs:List E) (ps:List PV),E.evs J xs=some ps->E.evs (J++I) xs=some ps
 |[],ps,h=>by simpa only[E.evs] using h
 |x::xs,ps,h=>by simp only[E.evs,Bl,Bs] at h ⊢;obtain⟨a,ha,b,hb,h⟩:=h;exact⟨a,E.ev_mono J I x a ha,b,E.evs_mono J I xs b hb,h⟩
end
mutual
def E.ev_scp {n:Nat} {J η':List PV} (hh:∀k,k<n->J[k]? =η'[k]?):∀(x:E),x.scp n=true->x.ev J=x.ev η'
 | .v m,h=>by simp only[E.scp,decide_eq_true_eq] at h;simp only[E.ev,hh m h]
 | .c x,h=>by simp only[E.ev]
 | .bin op x y,h=>by simp only[E.scp,Bt] at h;simp only[E.ev,E.ev_scp hh x h.1,E.ev_scp hh y h.2]
 | .un op x,h=>by simp only[E.scp] at h;simp only[E.ev,E.ev_scp hh x h]
 | .ite g x y,h=>by simp only[E.scp,Bt] at h;simp only[E.ev,E.ev_scp hh g h.1.1,E.ev_scp hh x h.1.2,E.ev_scp hh y h.2]
 | .proj j x,h=>by simp only[E.scp] at h;simp only[E.ev,E.ev_scp hh x h]
 | .sub o m x,h=>by simp only[E.scp] at h;simp only[E.ev,E.ev_scp hh x h]
 | .agg xs,h=>by simp only[E.scp] at h;simp only[E.ev,E.evs_scp hh xs h]
 | .fit m x,h=>by simp only[E.scp] at h;simp only[E.ev,E.ev_scp hh x h]
 | .scal x,h=>by simp only[E.scp] at h;simp only[E.ev,E.ev_scp hh x h]
 | .idx sz x y,h=>by simp only[E.scp,Bt] at h;simp only[E.ev,E.ev_scp hh x h.1,E.ev_scp hh y h.2]
 | .len x,h| .slen x,h=>by simp only[E.scp] at h;simp only[E.ev,E.ev_scp hh x h]
 | .sidx x y,h=>by simp only[E.scp,Bt] at h;simp only[E.ev,E.ev_scp hh x h.1,E.ev_scp hh y h.2]
 | .ssl x y z,h=>by simp only[E.scp,Bt] at h;simp only[E.ev,E.ev_scp hh x h.1.1,E.ev_scp hh y h.1.2,E.ev_scp hh z h.2]
 | .lsl _ x y z,h=>by simp only[E.scp,Bt] at h;simp only[E.ev,E.ev_scp hh x h.1.1,E.ev_scp hh y h.1.2,E.ev_scp hh z h.2]
 | .app sz x y,h=>by simp only[E.scp,Bt] at h;simp only[E.ev,E.ev_scp hh x h.1,E.ev_scp hh y h.2]
 | .lit sz xs,h=>by simp only[E.scp] at h;simp only[E.ev,E.evs_scp hh xs h]
 | .rep sz x y,h=>by simp only[E.scp,Bt] at h;simp only[E.ev,E.ev_scp hh x h.1,E.ev_scp hh y h.2]
 | .set sz x y o vs,h=>by simp only[E.scp,Bt] at h;simp only[E.ev,E.ev_scp hh x h.1.1,E.ev_scp hh y h.1.2,E.evs_scp hh vs h.2]
 | .conv k x,h=>by simp only[E.scp] at h;simp only[E.ev,E.ev_scp hh x h]
 | .b2s x,h=>by simp only[E.scp] at h;simp only[E.ev,E.ev_scp hh x h]
 | .s2b x,h=>by simp only[E.scp] at h;simp only[E.ev,E.ev_scp hh x h]
 | .eqs neg g ts x y,h=>by simp only[E.scp,Bt] at h;simp only[E.ev,E.ev_scp hh x h.1,E.ev_scp hh y h.2]
 | .clo g xs,h=>by simp only[E.scp] at h;simp only[E.ev,E.evs_scp hh xs h]
 | .mn x y,h=>by simp only[E.scp,Bt] at h;simp only[E.ev,E.ev_scp hh x h.1,E.ev_scp hh y h.2]
 | .mx x y,h=>by simp only[E.scp,Bt] at h;simp only[E.ev,E.ev_scp hh x h.1,E.ev_scp hh y h.2]
 | .mget x y z,h=>by simp only[E.scp,Bt] at h;simp only[E.ev,E.ev_scp hh x h.1.1,E.ev_scp hh y h.1.2,E.ev_scp hh z h.2]
 | .mset x y z,h=>by simp only[E.scp,Bt] at h;simp only[E.ev,E.ev_scp hh x h.1.1,E.ev_scp hh y h.1.2,E.ev_scp hh z h.2]
 | .der x,h| .mkp _ x,h| .flt x,h=>by simp only[E.scp] at h;simp only[E.ev,E.ev_scp hh x h]
def E.evs_scp {n:Nat} {J η':List PV} (hh:∀k,k<n->J[k]? =η'[k]?):∀(xs:List E),E.scps n xs=true->E.evs J xs=E.evs η' xs
 |[],h=>by simp only[E.evs]
 |x::xs,h=>by simp only[E.scps,Bt] at h;simp only[E.evs,E.ev_scp hh x h.1,E.evs_scp hh xs h.2]
end
def PV.same_eq:∀(x y:PV),x.same y=true->x=y
 | .u,y,h=>by cases y<;>simp[PV.same] at h ⊢
 | .b x,y,h=>by cases y<;>simp[PV.same] at h ⊢;exact h
 | .i k n,y,h=>by cases y<;>simp[PV.same] at h ⊢;exact h
 | .s x,y,h=>by cases y<;>simp[PV.same] at h ⊢;exact h
 | .a cs,y,h=>by cases y<;>simp[PV.same] at h
 | .pt cs,y,h=>by cases y<;>simp[PV.same] at h
 | .l n [],.l n2 [],h=>by simp[PV.same] at h;rw[h]
 | .l n [],.l n2 (_::_),h=>by simp[PV.same] at h
 | .l n (_::_),y,h=>by cases y<;>simp[PV.same] at h
 | .l n [],.u,h=>by simp[PV.same] at h
 | .l n [],.b _,h=>by simp[PV.same] at h
 | .l n [],.i _ _,h=>by simp[PV.same] at h
 | .l n [],.s _,h=>by simp[PV.same] at h
 | .l n [],.a _,h=>by simp[PV.same] at h
 | .l n [],.f _ _,h=>by simp[PV.same] at h
 | .l n [],.m _,h=>by simp[PV.same] at h
 | .f g [],.f g' [],h=>by simp[PV.same] at h;rw[h]
 | .f g [],.f g' (_::_),h=>by simp[PV.same] at h
 | .f g (_::_),y,h=>by cases y<;>simp[PV.same] at h
 | .f g [],.u,h=>by simp[PV.same] at h
 | .f g [],.b _,h=>by simp[PV.same] at h
 | .f g [],.i _ _,h=>by simp[PV.same] at h
 | .f g [],.s _,h=>by simp[PV.same] at h
 | .f g [],.a _,h=>by simp[PV.same] at h
 | .f g [],.l _ _,h=>by simp[PV.same] at h
 | .f g [],.m _,h=>by simp[PV.same] at h
 | .m (_::_),y,h=>by cases y<;>simp[PV.same] at h
 | .m [],.m [],h=>rfl
 | .m [],.m (_::_),h=>by simp[PV.same] at h
 | .m [],.u,h=>by simp[PV.same] at h
 | .m [],.b _,h=>by simp[PV.same] at h
 | .m [],.i _ _,h=>by simp[PV.same] at h
 | .m [],.s _,h=>by simp[PV.same] at h
 | .m [],.a _,h=>by simp[PV.same] at h
 | .m [],.l _ _,h=>by simp[PV.same] at h
 | .m [],.f _ _,h=>by simp[PV.same] at h
mutual
def E.same_eq:∀(x y:E),x.same y=true->x=y
 | .v n,y,h=>by cases y<;>simp[E.same] at h ⊢;exact h
 | .c x,y,h=>by cases y<;>simp[E.same] at h ⊢;exact PV.same_eq _ _ h
 | .bin op a b,y,h=>by cases y<;>simp only[E.same,Bt,decide_eq_true_eq,B5] at h;rw[h.1.1,E.same_eq a _ h.1.2,E.same_eq b _ h.2]
 | .un op a,y,h=>by cases y<;>simp only[E.same,Bt,decide_eq_true_eq,B5] at h;rw[h.1,E.same_eq a _ h.2]
 | .ite g a b,y,h=>by cases y<;>simp only[E.same,Bt,B5] at h;rw[E.same_eq g _ h.1.1,E.same_eq a _ h.1.2,E.same_eq b _ h.2]
 | .proj j a,y,h=>by cases y<;>simp only[E.same,Bt,beq_iff_eq,B5] at h;rw[h.1,E.same_eq a _ h.2]
 | .sub o n a,y,h=>by cases y<;>simp only[E.same,Bt,beq_iff_eq,B5] at h;rw[h.1.1,h.1.2,E.same_eq a _ h.2]
 | .agg xs,y,h=>by cases y<;>simp only[E.same,B5] at h;rw[E.sames_eq xs _ h]
 | .fit n a,y,h=>by cases y<;>simp only[E.same,Bt,beq_iff_eq,B5] at h;rw[h.1,E.same_eq a _ h.2]
 | .scal a,y,h=>by cases y<;>simp only[E.same,B5] at h;rw[E.same_eq a _ h]
 | .idx s a b,y,h=>by cases y<;>simp only[E.same,Bt,beq_iff_eq,B5] at h;rw[h.1.1,E.same_eq a _ h.1.2,E.same_eq b _ h.2]
 | .len a,y,h| .slen a,y,h=>by cases y<;>simp only[E.same,B5] at h;rw[E.same_eq a _ h]
 | .sidx a b,y,h=>by cases y<;>simp only[E.same,Bt,B5] at h;rw[E.same_eq a _ h.1,E.same_eq b _ h.2]
 | .ssl a b d,y,h=>by cases y<;>simp only[E.same,Bt,B5] at h;rw[E.same_eq a _ h.1.1,E.same_eq b _ h.1.2,E.same_eq d _ h.2]
 | .lsl n a b d,y,h=>by cases y<;>simp only[E.same,Bt,beq_iff_eq,B5] at h;rw[h.1.1.1,E.same_eq a _ h.1.1.2,E.same_eq b _ h.1.2,E.same_eq d _ h.2]
 | .app s a b,y,h=>by cases y<;>simp only[E.same,Bt,beq_iff_eq,B5] at h;rw[h.1.1,E.same_eq a _ h.1.2,E.same_eq b _ h.2]
 | .lit s xs,y,h=>by cases y<;>simp only[E.same,Bt,beq_iff_eq,B5] at h;rw[h.1,E.sames_eq xs _ h.2]
 | .rep s a b,y,h=>by cases y<;>simp only[E.same,Bt,beq_iff_eq,B5] at h;rw[h.1.1,E.same_eq a _ h.1.2,E.same_eq b _ h.2]
 | .set s a b o vs,y,h=>by cases y<;>simp only[E.same,Bt,beq_iff_eq,B5] at h;rw[h.1.1.1.1,E.same_eq a _ h.1.1.1.2,E.same_eq b _ h.1.1.2,h.1.2,E.sames_eq vs _ h.2]
 | .conv k a,y,h=>by cases y<;>simp only[E.same,Bt,beq_iff_eq,B5] at h;rw[h.1,E.same_eq a _ h.2]
 | .b2s a,y,h=>by cases y<;>simp only[E.same,B5] at h;rw[E.same_eq a _ h]
 | .s2b a,y,h=>by cases y<;>simp only[E.same,B5] at h;rw[E.same_eq a _ h]
 | .eqs n g ts a b,y,h=>by cases y<;>simp only[E.same,Bt,beq_iff_eq,decide_eq_true_eq,B5] at h;rw[h.1.1.1.1,h.1.1.1.2,h.1.1.2,E.same_eq a _ h.1.2,E.same_eq b _ h.2]
 | .clo g xs,y,h=>by cases y<;>simp only[E.same,Bt,beq_iff_eq,B5] at h;rw[h.1,E.sames_eq xs _ h.2]
 | .mn a b,y,h=>by cases y<;>simp only[E.same,Bt,B5] at h;rw[E.same_eq a _ h.1,E.same_eq b _ h.2]
 | .mx a b,y,h=>by cases y<;>simp only[E.same,Bt,B5] at h;rw[E.same_eq a _ h.1,E.same_eq b _ h.2]
 | .mget a b d,y,h=>by cases y<;>simp only[E.same,Bt,B5] at h;rw[E.same_eq a _ h.1.1,E.same_eq b _ h.1.2,E.same_eq d _ h.2]
 | .mset a b d,y,h=>by cases y<;>simp only[E.same,Bt,B5] at h;rw[E.same_eq a _ h.1.1,E.same_eq b _ h.1.2,E.same_eq d _ h.2]
 | .der a,y,h=>by cases y<;>simp only[E.same,B5] at h;rw[E.same_eq a _ h]
 | .flt a,y,h=>by cases y<;>simp only[E.same,B5] at h;rw[E.same_eq a _ h]
 | .mkp o a,y,h=>by cases y<;>simp only[E.same,Bt,beq_iff_eq,B5] at h;rw[h.1,E.same_eq a _ h.2]
def E.sames_eq:∀(xs ys:List E),E.sames xs ys=true->xs=ys
 |[],[],_=>rfl
 |[],_::_,h=>by simp[E.sames] at h
 |_::_,[],h=>by simp[E.sames] at h
 |x::xs,y::ys,h=>by simp only[E.sames,Bt] at h;rw[E.same_eq x y h.1,E.sames_eq xs ys h.2]
end
mutual
def SV.same_eq:∀(x y:SV),x.same y=true->x=y
 | .e a,y,hh=>by cases y<;>simp only[SV.same,B5] at hh;rw[E.same_eq a _ hh]
 | .nil n,y,hh=>by cases y<;>simp only[SV.same,beq_iff_eq,B5] at hh;rw[hh]
 | .lit n a,y,hh=>by cases y<;>simp only[SV.same,Bt,beq_iff_eq,B5] at hh;rw[hh.1,E.same_eq a _ hh.2]
 | .may g a,y,hh=>by cases y<;>simp only[SV.same,Bt,B5] at hh;rw[E.same_eq g _ hh.1,SV.same_eq a _ hh.2]
 | .und,y,hh=>by cases y<;>simp only[SV.same,B5] at hh;rfl
 | .bp s o,y,hh=>by cases y<;>simp only[SV.same,Bt,beq_iff_eq,B5] at hh;rw[hh.1,hh.2]
 | .ip a o,y,hh=>by cases y<;>simp only[SV.same,Bt,beq_iff_eq,B5] at hh;rw[E.same_eq a _ hh.1,hh.2]
 | .ap s i o,y,hh=>by cases y<;>simp only[SV.same,Bt,beq_iff_eq,B5] at hh;rw[hh.1.1,E.same_eq i _ hh.1.2,hh.2]
 | .suf s i,y,hh=>by cases y<;>simp only[SV.same,Bt,beq_iff_eq,B5] at hh;rw[hh.1,E.same_eq i _ hh.2]
 | .h s,y,hh=>by cases y<;>simp only[SV.same,beq_iff_eq,B5] at hh;rw[hh]
 | .mh s,y,hh=>by cases y<;>simp only[SV.same,beq_iff_eq,B5] at hh;rw[hh]
 | .tup xs,y,hh=>by cases y<;>simp only[SV.same,B5] at hh;rw[SV.sames_eq xs _ hh]
 | .ag xs,y,hh=>by cases y<;>simp only[SV.same,B5] at hh;rw[SV.sames_eq xs _ hh]
 | .clo g xs,y,hh=>by cases y<;>simp only[SV.same,Bt,beq_iff_eq,B5] at hh;rw[hh.1,SV.sames_eq xs _ hh.2]
 | .nilq a,y,hh=>by cases y<;>simp only[SV.same,B5] at hh;rw[E.same_eq a _ hh]
 | .slf s t,y,hh=>by cases y<;>simp only[SV.same,Bt,beq_iff_eq,B5] at hh;rw[hh.1,hh.2]
def SV.sames_eq:∀(xs ys:List SV),SV.sames xs ys=true->xs=ys
 |[],[],_=>rfl
 |[],_::_,hh=>by simp[SV.sames] at hh
 |_::_,[],hh=>by simp[SV.sames] at hh
 |x::xs,y::ys,hh=>by simp only[SV.sames,Bt] at hh;rw[SV.same_eq x y hh.1,SV.sames_eq xs ys hh.2]
end
def Z6 {J:List PV}:∀(g g0:E),Wm g g0=true->g.ev J=some (.b true)->g0.ev J=some (.b true)
 | .ite g' x y,g0,h,he=>by
   simp only[Wm,Cz,Bt] at h;rcases h with h|⟨hy,h⟩
   .rw[<-E.same_eq _ _ h];exact he
   .refine Z6 g' g0 h ?_;simp only[E.ev,Bl] at he;obtain⟨r,hr,he⟩:=he;split at he
    .exact hr
    .split at hy
     .simp[E.ev] at he
     .cases hy
    .cases he
 | .v ..,g0,h,he| .c ..,g0,h,he| .bin ..,g0,h,he| .un ..,g0,h,he| .proj ..,g0,h,he| .sub ..,g0,h,he| .agg ..,g0,h,he| .fit ..,g0,h,he
 | .scal ..,g0,h,he| .idx ..,g0,h,he| .len ..,g0,h,he| .slen ..,g0,h,he| .sidx ..,g0,h,he| .ssl ..,g0,h,he| .lsl ..,g0,h,he| .app ..,g0,h,he| .lit ..,g0,h,he
 | .rep ..,g0,h,he| .set ..,g0,h,he| .conv ..,g0,h,he| .b2s ..,g0,h,he| .s2b ..,g0,h,he| .eqs ..,g0,h,he| .clo ..,g0,h,he| .mn ..,g0,h,he
 | .mx ..,g0,h,he| .mget ..,g0,h,he| .mset ..,g0,h,he| .der ..,g0,h,he| .mkp ..,g0,h,he| .flt ..,g0,h,he=>by simp only[Wm] at h;rw[<-E.same_eq _ _ h];exact he
open Go Go.RowKit
structure Vw where
 cell:Addr->Option Value
 map:Nat->Option (Array MapEntry)
structure Vw.Le (M M':Vw):Prop where
 cell:∀a v,M.cell a=some v->M'.cell a=some v
 map:∀r es,M.map r=some es->M'.map r=some es
def Vw.Le.refl (M:Vw):M.Le M:=⟨fun _ _ h=>h,fun _ _ h=>h⟩
def Vw.Le.trans {M M' M'':Vw} (h:M.Le M') (h':M'.Le M''):M.Le M'':=⟨fun a v e=>h'.cell a v (h.cell a v e),fun a v e=>h'.map a v (h.map a v e)⟩
abbrev One (v:Value):Prop:=v.oneCell'=true
inductive Rep (M:Vw):PV->Value->Prop
 |u (v:Value):Rep M .u v
 |b (x:Bool):Rep M (.b x) (.bool x)
 |i (k:IntKind) (n:Int):Rep M (.i k n) (.int k n)
 |s (x:List UInt8) (y:ByteArray) (h:y.data.toList=x):Rep M (.s x) (.string y)
 |a (cs:List PV) (vs:Array Value) (hl:vs.size=cs.length) (h1:∀v,v∈vs.toList->One v)
    (h:∀(j:Nat) (c:PV) (v:Value),cs[j]? =some c->vs[j]? =some v->Rep M c v):Rep M (.a cs) (.agg vs)
 |l (sz:Nat) (xs:List PV) (base:Option Addr) (cap:Nat) (ad:Addr) (el:Nat->Nat->Value) (hc:xs.length<=cap) (hb:xs≠[]->base=some ad)
    (hsz:∀(i:Nat) (x:PV),xs[i]? =some x->x.cells.length=sz)
    (hM:∀(i:Nat) (x:PV) (j:Nat) (c:PV),xs[i]? =some x->x.cells[j]? =some c->M.cell (ad.add (i*sz+j))=some (el i j))
    (h1:∀(i:Nat) (x:PV) (j:Nat) (c:PV),xs[i]? =some x->x.cells[j]? =some c->One (el i j))
    (h:∀(i:Nat) (x:PV) (j:Nat) (c:PV),xs[i]? =some x->x.cells[j]? =some c->Rep M c (el i j)):Rep M (.l sz xs) (.slice base xs.length cap)
 |f (g:Nat) (caps:List PV) (cv:Array Value) (ads:Nat->Addr) (el:Nat->Nat->Value) (hl:cv.size=caps.length)
    (hcv:∀j:Nat,j<caps.length->cv[j]? =some (.pointer (some (ads j))))
    (hM:∀(i:Nat) (x:PV) (j:Nat) (c:PV),caps[i]? =some x->x.cells[j]? =some c->M.cell ((ads i).add j)=some (el i j))
    (h1:∀(i:Nat) (x:PV) (j:Nat) (c:PV),caps[i]? =some x->x.cells[j]? =some c->One (el i j))
    (h:∀(i:Nat) (x:PV) (j:Nat) (c:PV),caps[i]? =some x->x.cells[j]? =some c->Rep M c (el i j)):Rep M (.f g caps) (.func (.func g) #[] cv)
 |m (es:List (PV×PV)) (r:Nat) (ents:Array MapEntry) (hr:M.map r=some ents) (hl:ents.size=es.length)
    (hk:∀(j:Nat) (e:PV×PV) (x:MapEntry),es[j]? =some e->ents[j]? =some x->Rep M e.1 x.key)
    (hv:∀(j:Nat) (e:PV×PV) (x:MapEntry),es[j]? =some e->ents[j]? =some x->Rep M e.2 x.val)
    (h1:∀(j:Nat) (e:PV×PV) (x:MapEntry),es[j]? =some e->ents[j]? =some x->One x.val):Rep M (.m es) (.map (some r))
 |pt (cs:List PV) (ad:Addr) (el:Nat->Value) (hM:∀(j:Nat) (c:PV),cs[j]? =some c->M.cell (ad.add j)=some (el j))
   (h1:∀(j:Nat) (c:PV),cs[j]? =some c->One (el j)) (h:∀(j:Nat) (c:PV),cs[j]? =some c->Rep M c (el j)):Rep M (.pt cs) (.pointer (some ad))
def Rep.mono {M M':Vw} (hM:M.Le M') {p:PV} {v:Value} (h:Rep M p v):Rep M' p v:=by
 induction h with
 |u v=>exact .u v
 |b x=>exact .b x
 |i k n=>exact .i k n
 |s x y h=>exact .s x y h
 |a cs vs hl h1 _ ih=>exact .a cs vs hl h1 ih
 |l sz xs base cap ad el hc hb hsz hm h1 _ ih=>exact .l sz xs base cap ad el hc hb hsz (fun i x j c h h'=>hM.cell _ _ (hm i x j c h h')) h1 ih
 |f g caps cv ads el hl hcv hm h1 _ ih=>exact .f g caps cv ads el hl hcv (fun i x j c h h'=>hM.cell _ _ (hm i x j c h h')) h1 ih
 |m es r ents hr hl _ _ h1 ihk ihv=>exact .m es r ents (hM.map _ _ hr) hl ihk ihv h1
 |pt cs ad el hm h1 _ ih=>exact .pt cs ad el (fun j c hj=>hM.cell _ _ (hm j c hj)) h1 ih
def Rep.one {M:Vw} {p:PV} {v:Value} (h:Rep M p v) (hp:p.scal=true):One v:=by cases h<;>first|rfl|simp[PV.scal] at hp
def Rep.notAgg {M:Vw} {p:PV} {v:Value} (h:Rep M p v) (hp:p.scal=true):v.cells= #[v]:=by cases h<;>first|rfl|simp[PV.scal] at hp
def PV.scal_cells {p:PV} (hp:p.scal=true):p.cells=[p]:=by cases p<;>first|rfl|simp[PV.scal] at hp
def Rep.cells {M:Vw} {p:PV} {v:Value} (h:Rep M p v) (hp:p≠ .u):
  v.cells.size=p.cells.length∧(∀u,u∈v.cells.toList->One u)∧∀(j:Nat) (c:PV) (u:Value),p.cells[j]? =some c->v.cells[j]? =some u->Rep M c u:=by
 have sc:∀{q:PV} {y:Value},Rep M q y->q.scal=true->y.cells.size=q.cells.length∧(∀u,u∈y.cells.toList->One u)∧∀(j:Nat) (c:PV) (u:Value),q.cells[j]? =some c->y.cells[j]? =some u->Rep M c u:=by
  intro q y hq hs;rw[hq.notAgg hs,PV.scal_cells hs];refine⟨rfl,fun u hu=> ?_,fun j c u hc hu=> ?_⟩
  .simp at hu;subst hu;exact hq.one hs
  .cases j with
   |zero=>simp at hc hu;subst hc;subst hu;exact hq
   |succ j=>simp at hc
 cases p with
 |u=>exact absurd rfl hp
 |a cs=>
  cases h with
  |a _ vs hl h1 h=>exact⟨hl,h1,fun j c u hc hu=>h j c u hc hu⟩
 |_=>exact sc h rfl
def I4 (M:Vw) (cs:List PV) (v:Value):Prop:=
 ∃ad,∃el:Nat->Value,v= .pointer (some ad)∧(∀(j:Nat) (c:PV),cs[j]? =some c->M.cell (ad.add j)=some (el j))∧(∀(j:Nat) (c:PV),cs[j]? =some c->One (el j))∧∀(j:Nat) (c:PV),cs[j]? =some c->Rep M c (el j)
def I4.mono {M M':Vw} (hM:M.Le M') {cs:List PV} {v:Value} (h:I4 M cs v):I4 M' cs v:=by obtain⟨ad,el,rfl,h1,h2,h3⟩:=h;exact⟨ad,el,rfl,fun j c hj=>hM.cell _ _ (h1 j c hj),h2,fun j c hj=>(h3 j c hj).mono hM⟩
def Rep.ptr {M:Vw} {cs:List PV} {v:Value} (h:Rep M (.pt cs) v):I4 M cs v:=by
 cases h with
 |pt _ ad el hm h1 h=>exact⟨ad,el,rfl,hm,h1,h⟩
def I4.rep {M:Vw} {cs:List PV} {v:Value} (h:I4 M cs v):Rep M (.pt cs) v:=by obtain⟨ad,el,rfl,hm,h1,h⟩:=h;exact .pt cs ad el hm h1 h
def Addr.add_add (a:Addr) (k j:Nat):(a.add k).add j=a.add (k+j):=by unfold Go.Addr.add;by_cases hk:k=0<;>by_cases hj:j=0<;>simp[hk,hj,G1]
structure Cx where
 J:List PV
 M:Vw
 K:Nat->Nat
 hv:Nat->Value
 m:List (Nat×Blk)
def Bz3 (sz k:Nat):Value->Value
 | .slice a n c=> .slice (if c=k then a else a.map (·.add (k*sz))) (n - k) (c - k)
 |v=>v
mutual
def Cw (C:Cx):SV->Value->Prop
 | .e x,v=>∃p,x.ev C.J=some p∧Rep C.M p v
 | .nil _,v=>v= .slice none 0 0
 | .lit sz x,v=>∃xs a,x.ev C.J=some (.l sz xs)∧v= .slice a xs.length xs.length∧Rep C.M (.l sz xs) v
 | .may g x,v=>∃b,g.ev C.J=some (.b b)∧(b=true->Cw C x v)∧(b=false->v=undef)
 | .und,_=>True
 | .bp s off,v=>v= .pointer (some ⟨C.K s,off,none⟩)
 | .ip x off,v=>∃p,x.ev C.J=some p∧I4 C.M (p.cells.drop off) v
 | .ap s i off,v=>s<NAP∧∃e sz x ro xs k iv,mget C.m s=some (.arr e sz x ro)∧x.ev C.J=some (.l sz xs)∧i.ev C.J=some (.i k iv)∧0<=iv∧iv.toNat<xs.length∧
    v= .pointer (some ⟨C.K s,iv.toNat*sz+off,none⟩)
 | .suf s i,v=>s<NAP∧∃e sz x ro xs k iv,mget C.m s=some (.arr e sz x ro)∧x.ev C.J=some (.l sz xs)∧i.ev C.J=some (.i k iv)∧0<=iv∧iv.toNat<=xs.length∧v=Bz3 sz iv.toNat (C.hv s)
 | .h s,v=>v=C.hv s
 | .mh s,v=>v= .map (some (C.K s))
 | .tup xs,v=>∃vs:Array Value,v= .tuple vs∧Cd C xs vs.toList
 | .ag xs,v=>∃vs:Array Value,v= .agg vs∧(∀u,u∈vs.toList->One u)∧Cd C xs vs.toList
 | .clo g caps,v=>∃cv:Array Value,v= .func (.func g) #[] cv∧Cd C caps cv.toList
 | .nilq x,v=>∃sz xs b,x.ev C.J=some (.l sz xs)∧v= .bool b∧(b=true->xs=[])
 | .slf s _,v=>v= .pointer none∨v= .pointer (some ⟨C.K s,0,none⟩)
def Cd (C:Cx):List SV->List Value->Prop
 |[],vs=>vs=[]
 |x::xs,vs=>∃v r,vs=v::r∧Cw C x v∧Cd C xs r
end
def Cd.length {C:Cx}:∀{xs:List SV} {vs:List Value},Cd C xs vs->xs.length=vs.length
 |[],_,h=>by simp only[Cd] at h;subst h;rfl
 |x::xs,_,h=>by simp only[Cd] at h;obtain⟨v,r,rfl,_,h⟩:=h;simp[Cd.length h]
def Cd.get {C:Cx}:∀{xs:List SV} {vs:List Value},Cd C xs vs->∀(j:Nat) (x:SV),xs[j]? =some x->∃v,vs[j]? =some v∧Cw C x v
 |[],_,_,j,x,hj=>by simp at hj
 |y::xs,_,h,j,x,hj=>by
  simp only[Cd] at h;obtain⟨v,r,rfl,hv,h⟩:=h;cases j with
  |zero=>simp at hj;subst hj;exact⟨v,rfl,hv⟩
  |succ j=>exact h.get j x (by simpa using hj)
def Cd.mk {C:Cx}:∀{xs:List SV} {vs:List Value},xs.length=vs.length->(∀(j:Nat) (x:SV) (v:Value),xs[j]? =some x->vs[j]? =some v->Cw C x v)->Cd C xs vs
 |[],vs,hl,_=>by simp only[Cd];exact C1 (by simpa using hl.symm)
 |x::xs,[],hl,_=>by simp at hl
 |x::xs,v::vs,hl,h=>by simp only[Cd];exact⟨v,vs,rfl,h 0 x v rfl rfl,Cd.mk (by simpa using hl) fun j y u hy hu=>h (j+1) y u (by simpa using hy) (by simpa using hu)⟩
def Cd.set {C:Cx} {xs:List SV} {vs:List Value} (h:Cd C xs vs) (k:Nat) {x:SV} {v:Value} (hx:Cw C x v):Cd C (xs.set k x) (vs.set k v):=by
 refine Cd.mk (by simp[h.length]) fun j y u hy hu=> ?_;rw[E4] at hy hu;by_cases hk:k=j
 .subst hk;simp only[if_true] at hy hu;split at hy
  .rename_i hlt;rw[if_pos (by rw[<-h.length];exact hlt)] at hu;injection hy with hy;injection hu with hu;subst hy;subst hu;exact hx
  .cases hy
 .rw[if_neg hk] at hy hu;obtain⟨v',hv',hr⟩:=h.get j y hy;rw[hu] at hv';injection hv' with hv';subst hv';exact hr
structure Cx.At (C C':Cx) (s:Nat):Prop where
 K:C'.K s=C.K s
 hv:C'.hv s=C.hv s
 arr:∀e sz x ro xs,mget C.m s=some (.arr e sz x ro)->x.ev C.J=some (.l sz xs)->∃e' x' ro' xs',mget C'.m s=some (.arr e' sz x' ro')∧x'.ev C'.J=some (.l sz xs')∧xs.length<=xs'.length
structure Cx.Le (C C':Cx):Prop where
 ev:∀(x:E) p,x.ev C.J=some p->x.ev C'.J=some p
 M:C.M.Le C'.M
mutual
def Cw.kill {C C':Cx} {s0:Nat} (hl:C.Le C') (hs:∀s,s≠s0->C.At C' s):∀(x:SV) (v:Value),Cw C x v->Cw C' (x.kill s0) v
 | .e x,v,h=>by simp only[Cw,SV.kill] at h ⊢;obtain⟨p,h1,h2⟩:=h;exact⟨p,hl.ev _ _ h1,h2.mono hl.M⟩
 | .nil _,v,h=>by simpa only[Cw,SV.kill] using h
 | .lit sz x,v,h=>by simp only[Cw,SV.kill] at h ⊢;obtain⟨xs,a,h1,h2,h3⟩:=h;exact⟨xs,a,hl.ev _ _ h1,h2,h3.mono hl.M⟩
 | .may g x,v,h=>by simp only[Cw,SV.kill] at h ⊢;obtain⟨b,h1,h2,h3⟩:=h;exact⟨b,hl.ev _ _ h1,fun hb=>Cw.kill hl hs x v (h2 hb),h3⟩
 | .und,v,h=>by simp only[Cw,SV.kill]
 | .bp s off,v,h=>by
   simp only[SV.kill];split
   .simp only[Cw]
   .rename_i hne;simp only[Cw] at h ⊢;rw[(hs s hne).K];exact h
 | .ip x off,v,h=>by simp only[Cw,SV.kill] at h ⊢;obtain⟨p,h1,h2⟩:=h;exact⟨p,hl.ev _ _ h1,h2.mono hl.M⟩
 | .ap s i off,v,h=>by
   simp only[SV.kill];split
   .simp only[Cw]
   .rename_i hne;simp only[Cw] at h ⊢;obtain⟨hn,e,sz,x,ro,xs,k,iv,h1,h2,h3,h4,h5,h6⟩:=h;obtain⟨e',x',ro',xs',g1,g2,g3⟩:=(hs s hne).arr e sz x ro xs h1 h2;exact⟨hn,e',sz,x',ro',xs',k,iv,g1,g2,hl.ev _ _ h3,h4,by omega,by rw[(hs s hne).K];exact h6⟩
 | .suf s i,v,h=>by
   simp only[SV.kill];split
   .simp only[Cw]
   .rename_i hne;simp only[Cw] at h ⊢;obtain⟨hn,e,sz,x,ro,xs,k,iv,h1,h2,h3,h4,h5,h6⟩:=h;obtain⟨e',x',ro',xs',g1,g2,g3⟩:=(hs s hne).arr e sz x ro xs h1 h2;exact⟨hn,e',sz,x',ro',xs',k,iv,g1,g2,hl.ev _ _ h3,h4,by omega,by rw[(hs s hne).hv];exact h6⟩
 | .h s,v,hh=>by
   simp only[SV.kill];split
   .simp only[Cw]
   .rename_i hne;simp only[Cw] at hh ⊢;rw[(hs s hne).hv];exact hh
 | .mh s,v,hh=>by
   simp only[SV.kill];split
   .simp only[Cw]
   .rename_i hne;simp only[Cw] at hh ⊢;rw[(hs s hne).K];exact hh
 | .tup xs,v,h=>by simp only[Cw,SV.kill] at h ⊢;obtain⟨vs,h1,h2⟩:=h;exact⟨vs,h1,Cd.kill hl hs xs _ h2⟩
 | .ag xs,v,h=>by simp only[Cw,SV.kill] at h ⊢;obtain⟨vs,h1,h2,h3⟩:=h;exact⟨vs,h1,h2,Cd.kill hl hs xs _ h3⟩
 | .clo g xs,v,h=>by simp only[Cw,SV.kill] at h ⊢;obtain⟨vs,h1,h2⟩:=h;exact⟨vs,h1,Cd.kill hl hs xs _ h2⟩
 | .nilq x,v,h=>by simp only[Cw,SV.kill] at h ⊢;obtain⟨sz,xs,b,h1,h2,h3⟩:=h;exact⟨sz,xs,b,hl.ev _ _ h1,h2,h3⟩
 | .slf s T,v,h=>by
   simp only[SV.kill];split
   .simp only[Cw]
   .rename_i hne;simp only[Cw] at h ⊢;rw[(hs s hne).K];exact h
def Cd.kill {C C':Cx} {s0:Nat} (hl:C.Le C') (hs:∀s,s≠s0->C.At C' s):∀(xs:List SV) (vs:List Value),Cd C xs vs->Cd C' (SV.kills s0 xs) vs
 |[],vs,h=>by simpa only[Cd,SV.kills] using h
 |x::xs,vs,h=>by simp only[Cd,SV.kills] at h ⊢;obtain⟨v,r,rfl,h1,h2⟩:=h;exact⟨v,r,rfl,Cw.kill hl hs x v h1,Cd.kill hl hs xs r h2⟩
end
mutual
def Cw.le {C C':Cx} (hl:C.Le C') (hs:∀s,C.At C' s):∀(x:SV) (v:Value),Cw C x v->Cw C' x v
 | .e x,v,h=>by simp only[Cw] at h ⊢;obtain⟨p,h1,h2⟩:=h;exact⟨p,hl.ev _ _ h1,h2.mono hl.M⟩
 | .nil _,v,h=>by simpa only[Cw] using h
 | .lit sz x,v,h=>by simp only[Cw] at h ⊢;obtain⟨xs,a,h1,h2,h3⟩:=h;exact⟨xs,a,hl.ev _ _ h1,h2,h3.mono hl.M⟩
 | .may g x,v,h=>by simp only[Cw] at h ⊢;obtain⟨b,h1,h2,h3⟩:=h;exact⟨b,hl.ev _ _ h1,fun hb=>Cw.le hl hs x v (h2 hb),h3⟩
 | .und,v,h=>by simp only[Cw]
 | .bp s off,v,h=>by simp only[Cw] at h ⊢;rw[(hs s).K];exact h
 | .ip x off,v,h=>by simp only[Cw] at h ⊢;obtain⟨p,h1,h2⟩:=h;exact⟨p,hl.ev _ _ h1,h2.mono hl.M⟩
 | .ap s i off,v,h=>by simp only[Cw] at h ⊢;obtain⟨hn,e,sz,x,ro,xs,k,iv,h1,h2,h3,h4,h5,h6⟩:=h;obtain⟨e',x',ro',xs',g1,g2,g3⟩:=(hs s).arr e sz x ro xs h1 h2;exact⟨hn,e',sz,x',ro',xs',k,iv,g1,g2,hl.ev _ _ h3,h4,by omega,by rw[(hs s).K];exact h6⟩
 | .suf s i,v,h=>by simp only[Cw] at h ⊢;obtain⟨hn,e,sz,x,ro,xs,k,iv,h1,h2,h3,h4,h5,h6⟩:=h;obtain⟨e',x',ro',xs',g1,g2,g3⟩:=(hs s).arr e sz x ro xs h1 h2;exact⟨hn,e',sz,x',ro',xs',k,iv,g1,g2,hl.ev _ _ h3,h4,by omega,by rw[(hs s).hv];exact h6⟩
 | .h s,v,hh=>by simp only[Cw] at hh ⊢;rw[(hs s).hv];exact hh
 | .mh s,v,hh=>by simp only[Cw] at hh ⊢;rw[(hs s).K];exact hh
 | .tup xs,v,h=>by simp only[Cw] at h ⊢;obtain⟨vs,h1,h2⟩:=h;exact⟨vs,h1,Cd.le hl hs xs _ h2⟩
 | .ag xs,v,h=>by simp only[Cw] at h ⊢;obtain⟨vs,h1,h2,h3⟩:=h;exact⟨vs,h1,h2,Cd.le hl hs xs _ h3⟩
 | .clo g xs,v,h=>by simp only[Cw] at h ⊢;obtain⟨vs,h1,h2⟩:=h;exact⟨vs,h1,Cd.le hl hs xs _ h2⟩
 | .nilq x,v,h=>by simp only[Cw] at h ⊢;obtain⟨sz,xs,b,h1,h2,h3⟩:=h;exact⟨sz,xs,b,hl.ev _ _ h1,h2,h3⟩
 | .slf s T,v,h=>by simp only[Cw] at h ⊢;rw[(hs s).K];exact h
def Cd.le {C C':Cx} (hl:C.Le C') (hs:∀s,C.At C' s):∀(xs:List SV) (vs:List Value),Cd C xs vs->Cd C' xs vs
 |[],vs,h=>by simpa only[Cd] using h
 |x::xs,vs,h=>by simp only[Cd] at h ⊢;obtain⟨v,r,rfl,h1,h2⟩:=h;exact⟨v,r,rfl,Cw.le hl hs x v h1,Cd.le hl hs xs r h2⟩
end
def C5 (w:World) (O:Nat->Option Nat):Vw where
 cell a:=match O a.block with
  |none=>w.cell? a
  |some lim=>if a.off<lim then w.cell? a else none
 map r:=match O r with
  |none=>match w.heap[r]? with|some (.map es _)=>some es|_=>none
  |some _=>none
def M1 {w:World} {O:Nat->Option Nat} {a:Addr} {v:Value} (h:(C5 w O).cell a=some v):w.cell? a=some v∧∀lim,O a.block=some lim->a.off<lim:=by
 simp only[C5] at h;split at h
 .rename_i ho;exact⟨h,fun lim hl=>by rw[ho] at hl;cases hl⟩
 .rename_i lim ho;split at h
  .rename_i hlt;exact⟨h,fun l hl=>by rw[ho] at hl;injection hl with hl;omega⟩
  .cases h
def F8 {w:World} {O:Nat->Option Nat} {a:Addr} {v:Value} (h:w.cell? a=some v) (ho:∀lim,O a.block=some lim->a.off<lim):(C5 w O).cell a=some v:=by
 simp only[C5];split
 .exact h
 .rename_i lim hl;rw[if_pos (ho lim hl)];exact h
def Aj5 {w:World} {O:Nat->Option Nat} {r:Nat} {es:Array MapEntry} (h:(C5 w O).map r=some es):O r=none∧∃clock,w.heap[r]? =some (.map es clock):=by
 simp only[C5] at h;split at h
 .rename_i ho;split at h
  .rename_i es' c hh;injection h with h;subst h;exact⟨ho,c,hh⟩
  .cases h
 .cases h
def Pq {w:World} {O:Nat->Option Nat} {r:Nat} {es:Array MapEntry} {clock:Nat} (ho:O r=none) (h:w.heap[r]? =some (.map es clock)):(C5 w O).map r=some es:=by simp only[C5,ho,h]
def Gx2 {w:World} {a:Addr} {v:Value} (h:w.cell? a=some v):a.block<w.heap.size:=World.block_lt_of_cell? w a h
def Ir {w w':World} {O O':Nat->Option Nat} (hb:∀c,c<w.heap.size->(∀lim,O c=some lim->0<lim)->w'.heap[c]? =w.heap[c]?)
  (hO:∀c,c<w.heap.size->(∀lim,O' c=some lim->∃l,O c=some l∧l<=lim)) (hO2:∀c,c<w.heap.size->O c=none->O' c=none):(C5 w O).Le (C5 w' O'):=by
 constructor
 .intro a v h;obtain⟨h1,h2⟩:=M1 h;have hlt:=Gx2 h1;refine F8 ?_ fun lim hl=> ?_
  .rw[World.cell?_of_block (hb a.block hlt fun lim hl=>Nat.lt_of_le_of_lt (Dz _) (h2 lim hl))];exact h1
  .obtain⟨l,h3,h4⟩:=hO a.block hlt lim hl;have:=h2 l h3;omega
 .intro r es h;obtain⟨h1,c,h2⟩:=Aj5 h;have hlt:r<w.heap.size:=(El.1 h2).1;exact Pq (hO2 r hlt h1) (by rw[hb r hlt (fun lim hl=>by rw[h1] at hl;cases hl)];exact h2)
def J5 (M:Vw) (sz:Nat) (xs:List PV) (vs:List Value):Prop:=
 ∀(i:Nat) (x:PV),xs[i]? =some x->x.cells.length=sz∧∀(j:Nat) (c:PV),x.cells[j]? =some c->∃u,vs[i*sz+j]? =some u∧One u∧Rep M c u
def J5.mono {M M':Vw} (hM:M.Le M') {sz:Nat} {xs:List PV} {vs:List Value} (h:J5 M sz xs vs):J5 M' sz xs vs:=by intro i x hx;obtain⟨h1,h2⟩:=h i x hx;refine⟨h1,fun j c hc=> ?_⟩;obtain⟨u,g1,g2,g3⟩:=h2 j c hc;exact⟨u,g1,g2,g3.mono hM⟩
structure MapRep (M:Vw) (es:List (PV×PV)) (ents:Array MapEntry):Prop where
 len:ents.size=es.length
 key:∀(j:Nat) (e:PV×PV) (x:MapEntry),es[j]? =some e->ents[j]? =some x->Rep M e.1 x.key
 val:∀(j:Nat) (e:PV×PV) (x:MapEntry),es[j]? =some e->ents[j]? =some x->Rep M e.2 x.val
 one:∀(j:Nat) (e:PV×PV) (x:MapEntry),es[j]? =some e->ents[j]? =some x->One x.val
def MapRep.mono {M M':Vw} (hM:M.Le M') {es:List (PV×PV)} {ents:Array MapEntry} (h:MapRep M es ents):MapRep M' es ents:=
 ⟨h.len,fun j e x a b=>(h.key j e x a b).mono hM,fun j e x a b=>(h.val j e x a b).mono hM,h.one⟩
def Dd:Value->Option Nat
 | .slice (some a) _ cap=>if cap=0 then none else some a.block
 |_=>none
abbrev Bz7 (n:Nat):Nat->Prop:=fun g=>n<=g
def Own (w:World) (B:Nat->Prop) (e size:Nat) (v:Value) (n:Nat) (xs:List Value):Prop:=
 xs.length=n*size∧
 ((∃a,v= .slice a 0 0∧n=0)∨
  ∃g cap cur,v= .slice (some ⟨g,0,none⟩) n cap∧0<cap∧B g∧w.heap[g]? =some (.cells cur e (0,0))∧n<=cap∧cap<=maxLen∧cur.size=cap*size∧cur.toList.take (n*size)=xs)
def Own.of {w:World} {base e size:Nat} {v:Value} {n:Nat} {xs:List Value} (h:w.ownsRow base e size v n xs):Own w (Bz7 base) e size v n xs:=by
 refine⟨h.1,?_⟩;rcases h.2 with⟨h1,h2⟩|⟨g,cap,cur,h1,h2,h3,h4,h5⟩
 .exact .inl ⟨none,h1,h2⟩
 .by_cases hc:cap=0
  .have hn:n=0:=by omega
   subst hc;subst hn;exact .inl ⟨_,h1,rfl⟩
  .exact .inr ⟨g,cap,cur,h1,by omega,h2,h3,h4,h5⟩
def Own.lt {w:World} {B:Nat->Prop} {e size:Nat} {v:Value} {n:Nat} {xs:List Value} (h:Own w B e size v n xs):∀k,Dd v=some k->B k∧k<w.heap.size:=by
 intro k hk;rcases h.2 with⟨a,rfl,_⟩|⟨g,cap,cur,rfl,hc,hb,hg,_⟩
 .cases a<;>simp[Dd] at hk
 .simp only[Dd,if_neg (show¬cap=0 by omega),Bn] at hk;subst hk;exact⟨hb,(El.1 hg).1⟩
def Own.cells {w:World} {B:Nat->Prop} {e size:Nat} {v:Value} {n:Nat} {xs:List Value} (h:Own w B e size v n xs) {g:Nat} (hg:Dd v=some g):∀j u,xs[j]? =some u->w.cell? ((⟨g,0,none⟩:Addr).add j)=some u:=by
 intro j u hu;rcases h.2 with⟨a,rfl,_⟩|⟨g',cap,cur,rfl,hc,hb,hgg,_,_,_,htake⟩
 .cases a<;>simp[Dd] at hg
 .simp only[Dd,if_neg (show¬cap=0 by omega),Bn] at hg;subst hg;have hadd:(⟨g',0,none⟩:Addr).add j=⟨g',j,none⟩:=by unfold Go.Addr.add;split<;>simp_all
  rw[hadd];have:w.cell? ⟨g',j,none⟩=cur[j]? :=by simp[World.cell?,hgg]
  rw[this];rw[<-htake,Cp] at hu;split at hu
  .simpa using hu
  .cases hu
def Has (C:Cx) (s:Nat):Blk->Prop
 | .arr .. =>Dd (C.hv s)=some (C.K s)
 |_=>True
def Hr (C:Cx) (sz n:Nat) (vs:List Value):Option (Nat×Option (Option Nat))->Prop
 |some (off,some t)=>0<n->vs[(n - 1)*sz+off]? =some (match t with|none=> .slice none 0 0|some s=>C.hv s)
 |_=>True
def Hr.kill {C C':Cx} {sz n s0:Nat} {vs:List Value} (hs:∀s,s≠s0->C'.hv s=C.hv s):∀{ro:Ro},Hr C sz n vs ro.lk->Hr C' sz n vs (ro.kill s0).lk
 |⟨_,none⟩,_=>trivial
 |⟨_,some (_,none)⟩,_=>trivial
 |⟨_,some (_,some none)⟩,h=>h
 |⟨_,some (off,some (some s'))⟩,h=>by
  simp only[Ro.kill];split
  .trivial
  .rename_i hne;simp only[Hr] at h ⊢;rw[hs s' hne];exact h
def Hr.le {C C':Cx} {sz n:Nat} {vs:List Value} (hs:∀s,C'.hv s=C.hv s):∀{lk:Option (Nat×Option (Option Nat))},Hr C sz n vs lk->Hr C' sz n vs lk
 |none,_=>trivial
 |some (_,none),_=>trivial
 |some (_,some none),h=>h
 |some (off,some (some s')),h=>by simp only[Hr] at h ⊢;rw[hs s'];exact h
def Ro.kill_b (s:Nat):∀ro:Ro,(ro.kill s).b=ro.b
 |⟨_,none⟩|⟨_,some (_,none)⟩|⟨_,some (_,some none)⟩=>rfl
 |⟨_,some (_,some (some _))⟩=>by simp only[Ro.kill];split<;>rfl
def Lm (C:Cx) (w:World) (O:Nat->Option Nat) (B:Nat->Prop) (s:Nat):Blk->Prop
 | .box cs ro=>B (C.K s)∧(ro=false->O (C.K s)=some 0)∧∃vs T,w.heap[C.K s]? =some (.cells vs T (0,0))∧(∀u,u∈vs.toList->One u)∧Cd C cs vs.toList∧∀s' T',cs[0]? =some (.slf s' T')->T=T'
 | .arr e sz x ro=>0<sz∧∃xs vs,x.ev C.J=some (.l sz xs)∧Own w B e sz (C.hv s) xs.length vs∧J5 C.M sz xs vs∧
    (∀g,Dd (C.hv s)=some g->g=C.K s∧∃lim,O g=some lim∧lim<=xs.length*sz∧(ro.b=false->lim=0))∧Hr C sz xs.length vs ro.lk
 | .map x ro=>B (C.K s)∧(ro=false->O (C.K s)=some 0)∧∃es ents clock,x.ev C.J=some (.m es)∧w.heap[C.K s]? =some (.map ents clock)∧MapRep C.M es ents
structure Fr where
 w:World
 v:Option Value
abbrev Fr.heap (Bc:Fr):Array Obj:=Bc.w.heap
def Fr.x (Bc:Fr):Option Nat:=Bc.v.bind Dd
def Fr.ok (Bc:Fr) (g:Nat):Prop:=Bc.w.heap.size<=g∨Bc.x=some g
structure Blw (B:Nat) (w w':World):Prop where
 os:w'.os=w.os
 tape:w'.tape=w.tape
 output:w'.output=w.output
 drawn:w.drawn<=w'.drawn
 size:w.heap.size<=w'.heap.size
 block:∀k,k<B->w'.heap[k]? =w.heap[k]?
def Blw.refl (B:Nat) (w:World):Blw B w w:=⟨rfl,rfl,rfl,B7 _,B7 _,fun _ _=>rfl⟩
def Blw.trans {B:Nat} {a b c:World} (h:Blw B a b) (k:Blw B b c):Blw B a c:=
 ⟨k.os.trans h.os,k.tape.trans h.tape,k.output.trans h.output,Ep h.drawn k.drawn,Ep h.size k.size,fun i hi=>(k.block i hi).trans (h.block i hi)⟩
def Blw.mono {B B':Nat} {w w':World} (h:Blw B w w') (hB:B'<=B):Blw B' w w':=⟨h.os,h.tape,h.output,h.drawn,h.size,fun k hk=>h.block k (Gl hk hB)⟩
def Blw.drew {B:Nat} {a w:World} (h:Blw B a w):Blw B a w.drew:=⟨h.os,h.tape,h.output,Nat.le_succ_of_le h.drawn,h.size,h.block⟩
def Blw.alloc {B:Nat} {a w:World} (h:Blw B a w) (hB:B<=w.heap.size) (o:Obj):Blw B a (w.alloc o):=
 h.trans ⟨rfl,rfl,rfl,B7 _,by simp,fun k hk=>Below.heap_alloc _ _ _ (by omega)⟩
def Blw.to {B:Nat} {a w:World} (h:Blw B a w):Below B a w:=⟨h.os,h.tape,h.output,h.size,h.block⟩
structure Bel (Bc:Fr) (w:World):Prop where
 os:w.os=Bc.w.os
 tape:w.tape=Bc.w.tape
 output:w.output=Bc.w.output
 drawn:Bc.w.drawn<=w.drawn
 size:Bc.w.heap.size<=w.heap.size
 block:∀k,k<Bc.w.heap.size->Bc.x≠some k->w.heap[k]? =Bc.w.heap[k]?
def Bel.refl (Bc:Fr):Bel Bc Bc.w:=⟨rfl,rfl,rfl,B7 _,B7 _,fun _ _ _=>rfl⟩
def Bel.then {Bc:Fr} {w w':World} (h:Bel Bc w) (k:Blw w.heap.size w w'):Bel Bc w':=
 ⟨k.os.trans h.os,k.tape.trans h.tape,k.output.trans h.output,Ep h.drawn k.drawn,Ep h.size k.size,fun i hi hx=>(k.block i (Gl hi h.size)).trans (h.block i hi hx)⟩
def Bel.turn {Bc:Fr} {w w':World} {g:Nat} (h:Bel Bc w) (hg:Bc.ok g) (h1:w'.os=w.os) (h2:w'.tape=w.tape) (h3:w'.output=w.output) (h0:w.drawn<=w'.drawn) (h4:w.heap.size<=w'.heap.size) (h5:∀c,c<w.heap.size->c≠g->w'.heap[c]? =w.heap[c]?):Bel Bc w':=
 ⟨h1.trans h.os,h2.trans h.tape,h3.trans h.output,Ep h.drawn h0,Ep h.size h4,fun i hi hx=>by
  have hne:i≠g:=fun e=>by
   subst e;rcases hg with hg|hg
   .omega
   .exact hx hg
  rw[h5 i (Gl hi h.size) hne];exact h.block i hi hx⟩
def Bel.below {Bc:Fr} {w:World} (h:Bel Bc w) (hx:Bc.x=none):Blw Bc.w.heap.size Bc.w w:=⟨h.os,h.tape,h.output,h.drawn,h.size,fun k hk=>h.block k hk (by rw[hx];simp)⟩
structure Rel (w0:Fr) (Oe:Nat->Option Nat) (J:List PV) (U:St) (tm:Array Value) (w:World) (K:Nat->Nat) (hv:Nat->Value) (O:Nat->Option Nat):Prop where
 bel:Bel w0 w
 ext:∀c,c<w0.heap.size->w0.x≠some c->O c=Oe c
 out:∀c,w.heap.size<=c->O c=none
 tmps:Cd ⟨J,C5 w O,K,hv,U.m⟩ U.t tm.toList
 mem:∀s b,mget U.m s=some b->Lm ⟨J,C5 w O,K,hv,U.m⟩ w O w0.ok s b
 inj:∀s s' b b',mget U.m s=some b->mget U.m s'=some b'->s≠s'->Has ⟨J,C5 w O,K,hv,U.m⟩ s b->Has ⟨J,C5 w O,K,hv,U.m⟩ s' b'->K s≠K s'
 t0:∀v,w0.v=some v->U.t[0]? =some (.h S0)->tm[0]? =some v
def gn (w0:Fr) (Oe:Nat->Option Nat) (J:List PV) (U:St) (tm:Array Value) (w:World):Prop:=∃K hv O,Rel w0 Oe J U tm w K hv O
def Dr4 {s s' T':Nat}:∀{x:SV},x.kill s= .slf s' T'->x= .slf s' T'
 | .e _,h| .nil _,h| .lit _ _,h| .may _ _,h| .und,h| .ip _ _,h| .tup _,h| .ag _,h| .clo _ _,h| .nilq _,h=>by simp[SV.kill] at h
 | .bp _ _,h| .ap _ _ _,h| .suf _ _,h| .h _,h| .mh _,h=>by simp only[SV.kill] at h;split at h<;>cases h
 | .slf _ _,h=>by
   simp only[SV.kill] at h;split at h
   .cases h
   .exact h
def kj {s s' T':Nat} {cs:List SV} (h:(SV.kills s cs)[0]? =some (.slf s' T')):cs[0]? =some (.slf s' T'):=by
 cases cs with
 |nil=>simp[SV.kills] at h
 |cons x r=>
  simp only[SV.kills,D7,Bn] at h ⊢;exact Dr4 h
def Lm.kill {C C':Cx} {w w':World} {O O':Nat->Option Nat} {B:Nat->Prop} {s0 s:Nat} {b:Blk} (h:Lm C w O B s b) (hl:C.Le C') (hs:∀s,s≠s0->C.At C' s) (hne:s≠s0)
  (hw:Has C s b->w'.heap[C.K s]? =w.heap[C.K s]?) (hO:Has C s b->O' (C.K s)=O (C.K s)):Lm C' w' O' B s (b.kill s0):=by
 have hβ:=(hs s hne).K;have hhv:=(hs s hne).hv;cases b with
 |box cs ro=>
  obtain⟨h1,h2,vs,T,h3,h4,h5,h6⟩:=h;refine⟨by rw[hβ];exact h1,fun hr=>by rw[hβ,hO trivial];exact h2 hr,vs,T,by rw[hβ,hw trivial];exact h3,h4,Cd.kill hl hs _ _ h5,fun s' T' hc=>h6 s' T' (kj hc)⟩
 |arr e sz x ro=>
  obtain⟨h0,xs,vs,h1,h2,h3,h4,hlk⟩:=h;refine⟨h0,xs,vs,hl.ev _ _ h1,?_,h3.mono hl.M,?_,hlk.kill fun s hs'=>(hs s hs').hv⟩
  .rw[hhv];refine⟨h2.1,?_⟩;rcases h2.2 with h5|⟨g,cap,cur,e1,e2,e2',e3,e4⟩
   .exact .inl h5
   .have hg:Dd (C.hv s)=some g:=by rw[e1];simp only[Dd,if_neg (show¬cap=0 by omega)]
    have:=(h4 g hg).1;subst this;exact .inr ⟨_,cap,cur,e1,e2,e2',by rw[hw hg];exact e3,e4⟩
  .intro g hg;rw[hhv] at hg;obtain⟨h5,lim,h6,h7⟩:=h4 g hg;subst h5;exact⟨hβ.symm,lim,by rw[hO hg];exact h6,h7.1,by rw[Ro.kill_b];exact h7.2⟩
 |map x ro=>
  obtain⟨h1,h2,es,ents,ck,h3,h4,h5⟩:=h;exact⟨by rw[hβ];exact h1,fun hr=>by rw[hβ,hO trivial];exact h2 hr,es,ents,ck,hl.ev _ _ h3,by rw[hβ,hw trivial];exact h4,h5.mono hl.M⟩
def Lm.le {C C':Cx} {w w':World} {O O':Nat->Option Nat} {B:Nat->Prop} {s:Nat} {b:Blk} (h:Lm C w O B s b) (hl:C.Le C') (hs:∀s,C.At C' s)
  (hw:Has C s b->w'.heap[C.K s]? =w.heap[C.K s]?) (hO:Has C s b->O' (C.K s)=O (C.K s)):Lm C' w' O' B s b:=by
 have hβ:=(hs s).K;have hhv:=(hs s).hv;cases b with
 |box cs ro=>
  obtain⟨h1,h2,vs,T,h3,h4,h5,h6⟩:=h;refine⟨by rw[hβ];exact h1,fun hr=>by rw[hβ,hO trivial];exact h2 hr,vs,T,by rw[hβ,hw trivial];exact h3,h4,Cd.le hl hs _ _ h5,h6⟩
 |arr e sz x ro=>
  obtain⟨h0,xs,vs,h1,h2,h3,h4,hlk⟩:=h;refine⟨h0,xs,vs,hl.ev _ _ h1,?_,h3.mono hl.M,?_,hlk.le fun s=>(hs s).hv⟩
  .rw[hhv];refine⟨h2.1,?_⟩;rcases h2.2 with h5|⟨g,cap,cur,e1,e2,e2',e3,e4⟩
   .exact .inl h5
   .have hg:Dd (C.hv s)=some g:=by rw[e1];simp only[Dd,if_neg (show¬cap=0 by omega)]
    have:=(h4 g hg).1;subst this;exact .inr ⟨_,cap,cur,e1,e2,e2',by rw[hw hg];exact e3,e4⟩
  .intro g hg;rw[hhv] at hg;obtain⟨h5,lim,h6,h7⟩:=h4 g hg;subst h5;exact⟨hβ.symm,lim,by rw[hO hg];exact h6,h7⟩
 |map x ro=>
  obtain⟨h1,h2,es,ents,ck,h3,h4,h5⟩:=h;exact⟨by rw[hβ];exact h1,fun hr=>by rw[hβ,hO trivial];exact h2 hr,es,ents,ck,hl.ev _ _ h3,by rw[hβ,hw trivial];exact h4,h5.mono hl.M⟩
def Lm.lt {C:Cx} {w:World} {O:Nat->Option Nat} {B:Nat->Prop} {s:Nat} {b:Blk} (h:Lm C w O B s b) (hh:Has C s b):B (C.K s)∧C.K s<w.heap.size:=by
 cases b with
 |box cs ro=>obtain⟨h1,_,vs,T,h3,_⟩:=h;exact⟨h1,(El.1 h3).1⟩
 |arr e sz x ro=>obtain⟨_,xs,vs,_,h2,_,_⟩:=h;exact h2.lt _ hh
 |map x ro=>obtain⟨h1,_,es,ents,ck,_,h4,_⟩:=h;exact⟨h1,(El.1 h4).1⟩
def G4 {s s':Nat} (h:s≠s'):∀m:List (Nat×Blk),mget (O6 m s') s=mget m s
 |[]=>rfl
 |(k,b)::r=>by
  simp only[O6];by_cases hk:k=s'
  .rw[if_pos hk,G4 h r];simp only[mget];rw[if_neg (by omega)]
  .rw[if_neg hk];simp only[mget];by_cases hks:k=s
   .rw[if_pos hks,if_pos hks]
   .rw[if_neg hks,if_neg hks,G4 h r]
def H6 (s:Nat):∀m:List (Nat×Blk),mget (O6 m s) s=none
 |[]=>rfl
 |(k,b)::r=>by
  simp only[O6];by_cases hk:k=s
  .rw[if_pos hk,H6 s r]
  .rw[if_neg hk];simp only[mget];rw[if_neg hk,H6 s r]
def Ov (s0 s:Nat):∀m:List (Nat×Blk),mget (Nw s0 m) s=(mget m s).map (Blk.kill s0)
 |[]=>rfl
 |(k,b)::r=>by
  simp only[Nw,G2,mget];by_cases hk:k=s
  .rw[if_pos hk,if_pos hk];rfl
  .rw[if_neg hk,if_neg hk];exact Ov s0 s r
def Ex8 {m:List (Nat×Blk)} {s:Nat} {b:Blk} (h:mget m s=some b):(s,b)∈m:=by
 induction m with
 |nil=>simp[mget] at h
 |cons p m ih=>
  obtain⟨k,b'⟩:=p;simp only[mget] at h;split at h
  .rename_i hk;subst hk;injection h with h;subst h;exact .head _
  .exact .tail _ (ih h)
def Nv (U:St) (s:Nat) (b:Blk):mget (U.fresh s b).m s=some b:=by simp[St.fresh,mget]
def L3 (U:St) {s s':Nat} (h:s'≠s) (b:Blk):mget (U.fresh s b).m s'=(mget U.m s').map (Blk.kill s):=by simp only[St.fresh,mget];rw[if_neg (fun e=>h e.symm),Ov,G4 h]
def L2 (U:St) (s:Nat) (b:Blk):mget (U.put s b).m s=some b:=by simp[St.put,mget]
def Jk (U:St) {s s':Nat} (h:s'≠s) (b:Blk):mget (U.put s b).m s'=mget U.m s':=by simp only[St.put,mget];rw[if_neg (fun e=>h e.symm),G4 h]
section
variable {w0:Fr} {Oe:Nat->Option Nat} {J:List PV} {U:St} {tm:Array Value} {w:World} {K:Nat->Nat} {hv:Nat->Value} {O:Nat->Option Nat}
def At.refl (C:Cx) (s:Nat):C.At C s:=⟨rfl,rfl,fun e sz x ro xs h h'=>⟨e,x,ro,xs,h,h',B7 _⟩⟩
def At.of {J η':List PV} {M M':Vw} {K:Nat->Nat} {hv:Nat->Value} {m:List (Nat×Blk)} (he:∀(x:E) p,x.ev J=some p->x.ev η'=some p) (s:Nat):
  (Cx.mk J M K hv m).At ⟨η',M',K,hv,m⟩ s:=⟨rfl,rfl,fun e sz x ro xs h h'=>⟨e,x,ro,xs,h,he _ _ h',B7 _⟩⟩
def Has.congr {C C':Cx} {s:Nat} {b:Blk} (hh:C'.hv s=C.hv s) (hβ:C'.K s=C.K s):Has C' s b↔Has C s b:=by cases b<;>simp[Has,hh,hβ]
def Rel.env (h:Rel w0 Oe J U tm w K hv O) (I:List PV):Rel w0 Oe (J++I) U tm w K hv O:=by
 have he:∀(x:E) p,x.ev J=some p->x.ev (J++I)=some p:=fun x p=>E.ev_mono J I x p;have hl:(Cx.mk J (C5 w O) K hv U.m).Le ⟨J++I,C5 w O,K,hv,U.m⟩:=⟨he,Vw.Le.refl _⟩;exact⟨h.bel,h.ext,h.out,Cd.le hl (fun s=>At.of he s) _ _ h.tmps,
  fun s b hb=>(h.mem s b hb).le hl (fun s=>At.of he s) (fun _=>rfl) (fun _=>rfl),h.inj,h.t0⟩
def Rel.setT (h:Rel w0 Oe J U tm w K hv O) (d:Option Tmp) {sv:SV} {v:Value} (hr:Cw ⟨J,C5 w O,K,hv,U.m⟩ sv v) (hd:(d==some 0 && Gc6 sv)=false) {ds:List Deferred}:
  Rel w0 Oe J (U.set d sv) ((Act.mk tm ds).put d v).tmps w K hv O:=by
 cases d with
 |none=>exact h
 |some d=>
  refine⟨h.bel,h.ext,h.out,?_,h.mem,h.inj,fun vx hvx ht=> ?_⟩
  .show Cd _ (U.t.set d sv) (tm.setIfInBounds d v).toList;rw[Array.toList_setIfInBounds];exact h.tmps.set d hr
  .have ht':(U.t.set d sv)[0]? =some (.h S0):=ht;show (tm.setIfInBounds d v)[0]? =some vx;by_cases hd0:d=0
   .subst hd0;exfalso;rw[E4] at ht';simp only[if_true] at ht';split at ht'
    .injection ht' with ht';subst ht';simp[Gc6] at hd
    .cases ht'
   .rw[E4,if_neg hd0] at ht';rw[Array.getElem?_setIfInBounds_ne hd0];exact h.t0 vx hvx ht'
def Rel.below {w':World} (h:Rel w0 Oe J U tm w K hv O) (hb:Blw w.heap.size w w'):Rel w0 Oe J U tm w' K hv O:=by have hM:(C5 w O).Le (C5 w' O):=Ir (fun c hc _=>hb.block c hc) (fun c _ lim hl=>⟨lim,hl,B7 _⟩) (fun c _ hc=>hc);have hl:(Cx.mk J (C5 w O) K hv U.m).Le ⟨J,C5 w' O,K,hv,U.m⟩:=⟨fun _ _ h=>h,hM⟩;refine⟨h.bel.then hb,h.ext,fun c hc=>h.out c (Ep hb.size hc),Cd.le hl (fun s=>At.of (fun _ _ h=>h) s) _ _ h.tmps,fun s b hs=> ?_,h.inj,h.t0⟩;have hbl:=h.mem s b hs;exact hbl.le hl (fun s=>At.of (fun _ _ h=>h) s) (fun hh=>hb.block _ (hbl.lt hh).2) (fun _=>rfl)
def Dq7 {s k:Nat} {j:Nat}:∀{l:List SV},(SV.kills s l)[j]? =some (.h k)->l[j]? =some (.h k):=by
 intro l
 induction l generalizing j with
 |nil=>intro h;simp[SV.kills] at h
 |cons x l ih=>
  intro h;cases j with
  |zero=>
   simp only[SV.kills,D7,Bn] at h ⊢;cases x<;>simp only[SV.kill] at h<;>first|exact h|(split at h<;>first|exact h|cases h)|cases h
  |succ j=>
   simp only[SV.kills,Fs] at h ⊢;exact ih h
def Rel.fresh {w':World} {β':Nat->Nat} {hv':Nat->Value} {O':Nat->Option Nat} {s:Nat} {b:Blk} {n:Nat} (h:Rel w0 Oe J U tm w K hv O)
  (hb:Bel w0 w') (hM:(C5 w O).Le (C5 w' O'))
  (hβ:∀s',s'≠s->β' s'=K s') (hhv:∀s',s'≠s->hv' s'=hv s')
  (hblk:∀s' b',s'≠s->mget U.m s'=some b'->Has ⟨J,C5 w O,K,hv,U.m⟩ s' b'->w'.heap[K s']? =w.heap[K s']? ∧O' (K s')=O (K s'))
  (hext:∀c,c<w0.heap.size->w0.x≠some c->O' c=Oe c) (hout:∀c,w'.heap.size<=c->O' c=none)
  (hnew:Lm ⟨J,C5 w' O',β',hv',(H0 U.m n s b).m⟩ w' O' w0.ok s b)
  (hinj:∀s' b',s'≠s->mget U.m s'=some b'->Has ⟨J,C5 w O,K,hv,U.m⟩ s' b'->Has ⟨J,C5 w' O',β',hv',(H0 U.m n s b).m⟩ s b->K s'≠β' s):
  Rel w0 Oe J (U.eff (H0 U.m n s b)) tm w' β' hv' O':=by
 have hne:∀s',s'≠s->mget (H0 U.m n s b).m s'=(mget U.m s').map (Blk.kill s):=fun s' hs=>L3 U hs b;have hsame:mget (H0 U.m n s b).m s=some b:=Nv U s b;have hl:(Cx.mk J (C5 w O) K hv U.m).Le ⟨J,C5 w' O',β',hv',(H0 U.m n s b).m⟩:=⟨fun _ _ h=>h,hM⟩;have hat:∀s',s'≠s->(Cx.mk J (C5 w O) K hv U.m).At ⟨J,C5 w' O',β',hv',(H0 U.m n s b).m⟩ s':=fun s' hs=>
  ⟨hβ s' hs,hhv s' hs,fun e sz x ro xs h1 h2=>⟨e,x,ro.kill s,xs,by show mget (H0 U.m n s b).m s'=_;rw[hne s' hs,h1];rfl,h2,B7 _⟩⟩
 have hkhas:∀s' b',s'≠s->(Has ⟨J,C5 w' O',β',hv',(H0 U.m n s b).m⟩ s' (b'.kill s)↔Has ⟨J,C5 w O,K,hv,U.m⟩ s' b'):=by
  intro s' b' hs;cases b' with
  |box _ _=>exact Iff.rfl
  |map _ _=>exact Iff.rfl
  |arr _ _ _ _=>show Dd (hv' s')=some (β' s')↔Dd (hv s')=some (K s');rw[hβ s' hs,hhv s' hs]
 have ht0:∀v,w0.v=some v->(U.eff (H0 U.m n s b)).t[0]? =some (.h S0)->tm[0]? =some v:=by intro v hv0 ht;exact h.t0 v hv0 (Dq7 ht)
 refine⟨hb,hext,hout,Cd.kill hl hat _ _ h.tmps,fun s' b' hs'=> ?_,fun s1 s2 b1 b2 h1 h2 h12 hh1 hh2=> ?_,ht0⟩
 .by_cases hs:s'=s
  .subst hs;have:mget (H0 U.m n s' b).m s'=some b':=hs';rw[hsame] at this;injection this with this;subst this;exact hnew
  .have hg:mget (H0 U.m n s b).m s'=some b':=hs';rw[hne s' hs] at hg;obtain⟨b'',hb'',rfl⟩:=Bs.1 hg;exact(h.mem s' b'' hb'').kill hl hat hs (fun hh=>(hblk s' b'' hs hb'' hh).1) (fun hh=>(hblk s' b'' hs hb'' hh).2)
 .have g1:mget (H0 U.m n s b).m s1=some b1:=h1;have g2:mget (H0 U.m n s b).m s2=some b2:=h2;by_cases hs1:s1=s
  .have hs2:s2≠s:=fun e=>h12 (hs1.trans e.symm);rw[hne s2 hs2] at g2;obtain⟨b'',hb'',rfl⟩:=Bs.1 g2;subst hs1;rw[hsame] at g1;injection g1 with g1;subst g1;rw[hβ s2 hs2];exact fun e=>hinj s2 b'' hs2 hb'' ((hkhas s2 b'' hs2).1 hh2) hh1 e.symm
  .rw[hne s1 hs1] at g1;obtain⟨b1',hb1',rfl⟩:=Bs.1 g1;by_cases hs2:s2=s
   .subst hs2;rw[hsame] at g2;injection g2 with g2;subst g2;rw[hβ s1 hs1];exact hinj s1 b1' hs1 hb1' ((hkhas s1 b1' hs1).1 hh1) hh2
   .rw[hne s2 hs2] at g2;obtain⟨b2',hb2',rfl⟩:=Bs.1 g2;rw[hβ s1 hs1,hβ s2 hs2];exact h.inj s1 s2 b1' b2' hb1' hb2' h12 ((hkhas s1 b1' hs1).1 hh1) ((hkhas s2 b2' hs2).1 hh2)
def Rel.alloc {s:Nat} {b:Blk} {n:Nat} (h:Rel w0 Oe J U tm w K hv O) (o:Obj)
  (hnew:∀β' O',β' s=w.heap.size->(∀s',s'≠s->β' s'=K s')->O' w.heap.size=some 0->(C5 w O).Le (C5 (w.alloc o) O')->
   Lm ⟨J,C5 (w.alloc o) O',β',hv,(H0 U.m n s b).m⟩ (w.alloc o) O' w0.ok s b):
  ∃β' O',β' s=w.heap.size∧Rel w0 Oe J (U.eff (H0 U.m n s b)) tm (w.alloc o) β' hv O':=by
 let β':=fun s'=>if s'=s then w.heap.size else K s'
 let O':=fun c=>if c=w.heap.size then some 0 else O c
 have hβ:∀s',s'≠s->β' s'=K s':=fun s' hs=>if_neg hs;have hβs:β' s=w.heap.size:=if_pos rfl;have hsz:w0.heap.size<=w.heap.size:=h.bel.size;have hO:∀c,c<w.heap.size->O' c=O c:=fun c hc=>if_neg (by omega);have hM:(C5 w O).Le (C5 (w.alloc o) O'):=Ir (fun c hc _=>Below.heap_alloc w o c hc) (fun c hc lim hl=>⟨lim,by rw[<-hO c hc];exact hl,B7 _⟩) (fun c hc hn=>by rw[hO c hc];exact hn);refine⟨β',O',hβs,h.fresh (h.bel.then ((Blw.refl _ _).alloc (B7 _) o)) hM hβ (fun _ _=>rfl) (fun s' b' hs hb' hh=> ?_) (fun c hc hx=>by rw[hO c (Gl hc hsz)];exact h.ext c hc hx) (fun c hc=> ?_)
  (hnew β' O' hβs hβ (if_pos rfl) hM) (fun s' b' hs hb' hh _=> ?_)⟩
 .have hlt:=((h.mem s' b' hb').lt hh).2;exact⟨Below.heap_alloc w o _ hlt,hO _ hlt⟩
 .have hc':w.heap.size+1<=c:=by simpa using hc
  show (if c=w.heap.size then some 0 else O c)=none;rw[if_neg (by omega)];exact h.out c (by omega)
 .have hlt:=((h.mem s' b' hb').lt hh).2;rw[hβs];have:K s'<w.heap.size:=hlt;omega
def Rel.put {w':World} {s:Nat} {b0 b:Blk} {n:Nat} (h:Rel w0 Oe J U tm w K hv O) (h0:mget U.m s=some b0) (hh0:Has ⟨J,C5 w O,K,hv,U.m⟩ s b0)
  (hO:O (K s)=some 0)
  (hb:Bel w0 w') (hsz:w'.heap.size=w.heap.size) (hblk:∀c,c≠K s->w'.heap[c]? =w.heap[c]?)
  (harr:∀e sz x ro xs,b0= .arr e sz x ro->x.ev J=some (.l sz xs)->∃e' x' ro' xs',b= .arr e' sz x' ro'∧x'.ev J=some (.l sz xs')∧xs.length<=xs'.length)
  (hnew:Lm ⟨J,C5 w' O,K,hv,Kj U.m s b⟩ w' O w0.ok s b):
  Rel w0 Oe J (U.eff ⟨Kj U.m s b,n,none⟩) tm w' K hv O:=by
 have hne:∀s',s'≠s->mget (Kj U.m s b) s'=mget U.m s':=fun s' hs=>Jk U hs b;have hsame:mget (Kj U.m s b) s=some b:=L2 U s b;have hM:(C5 w O).Le (C5 w' O):=Ir (fun c _ hc=>hblk c (fun e=>by subst e;exact absurd (hc 0 hO) (by omega))) (fun c _ lim hl=>⟨lim,hl,B7 _⟩) (fun c _ hn=>hn);have hl:(Cx.mk J (C5 w O) K hv U.m).Le ⟨J,C5 w' O,K,hv,Kj U.m s b⟩:=⟨fun _ _ h=>h,hM⟩;have hat:∀s',(Cx.mk J (C5 w O) K hv U.m).At ⟨J,C5 w' O,K,hv,Kj U.m s b⟩ s':=fun s'=>
  ⟨rfl,rfl,fun e sz x ro xs h1 h2=>by
   by_cases hs:s'=s
   .subst hs;have h1':mget U.m s'=some (.arr e sz x ro):=h1;rw[h0] at h1';injection h1' with h1';obtain⟨e',x',ro',xs',rfl,g2,g3⟩:=harr e sz x ro xs h1' h2;exact⟨e',x',ro',xs',hsame,g2,g3⟩
   .exact⟨e,x,ro,xs,by show mget (Kj U.m s b) s'=_;rw[hne s' hs];exact h1,h2,B7 _⟩⟩
 have hlive:∀s' b',s'≠s->mget U.m s'=some b'->Has ⟨J,C5 w O,K,hv,U.m⟩ s' b'->K s'≠K s:=fun s' b' hs hb' hh=>h.inj s' s b' b0 hb' h0 hs hh hh0;refine⟨hb,h.ext,fun c hc=>h.out c (by omega),Cd.le hl hat _ _ h.tmps,fun s' b' hs'=> ?_,fun s1 s2 b1 b2 h1 h2 h12 hh1 hh2=> ?_,h.t0⟩
 .by_cases hs:s'=s
  .subst hs;have:mget (Kj U.m s' b) s'=some b':=hs';rw[hsame] at this;injection this with this;subst this;exact hnew
  .have hg:mget (Kj U.m s b) s'=some b':=hs';rw[hne s' hs] at hg;exact(h.mem s' b' hg).le hl hat (fun hh=>hblk _ (hlive s' b' hs hg hh)) (fun _=>rfl)
 .have g1:mget (Kj U.m s b) s1=some b1:=h1;have g2:mget (Kj U.m s b) s2=some b2:=h2;have other:∀s' b',s'≠s->mget (Kj U.m s b) s'=some b'->mget U.m s'=some b':=fun s' b' hs hg=>by rw[hne s' hs] at hg;exact hg
  by_cases hs1:s1=s
  .have hs2:s2≠s:=fun e=>h12 (hs1.trans e.symm);subst hs1;exact fun e=>hlive s2 b2 hs2 (other s2 b2 hs2 g2) hh2 e.symm
  .by_cases hs2:s2=s
   .subst hs2;exact hlive s1 b1 hs1 (other s1 b1 hs1 g1) hh1
   .exact h.inj s1 s2 b1 b2 (other s1 b1 hs1 g1) (other s2 b2 hs2 g2) h12 hh1 hh2
mutual
def Cw.forget {C C':Cx} {s0:Nat} (h0:NAP<=s0) (hl:C.Le C') (hs:∀s,C'.K s=C.K s∧C'.hv s=C.hv s∧(s≠s0->C.At C' s)):∀(x:SV) (v:Value),Cw C x v->Cw C' x v
 | .e x,v,h=>by simp only[Cw] at h ⊢;obtain⟨p,h1,h2⟩:=h;exact⟨p,hl.ev _ _ h1,h2.mono hl.M⟩
 | .nil _,v,h=>by simpa only[Cw] using h
 | .lit sz x,v,h=>by simp only[Cw] at h ⊢;obtain⟨xs,a,h1,h2,h3⟩:=h;exact⟨xs,a,hl.ev _ _ h1,h2,h3.mono hl.M⟩
 | .may g x,v,h=>by simp only[Cw] at h ⊢;obtain⟨b,h1,h2,h3⟩:=h;exact⟨b,hl.ev _ _ h1,fun hb=>Cw.forget h0 hl hs x v (h2 hb),h3⟩
 | .und,v,h=>by simp only[Cw]
 | .bp s off,v,h=>by simp only[Cw] at h ⊢;rw[(hs s).1];exact h
 | .ip x off,v,h=>by simp only[Cw] at h ⊢;obtain⟨p,h1,h2⟩:=h;exact⟨p,hl.ev _ _ h1,h2.mono hl.M⟩
 | .ap s i off,v,h=>by
   have hn:s≠s0:=fun e=>by simp only[Cw] at h;have:=h.1;omega
   exact Cw.kill (s0:=s0) hl (fun s hs'=>(hs s).2.2 hs') (.ap s i off) v h|>fun h=>by simpa only[SV.kill,if_neg hn] using h
 | .suf s i,v,h=>by
   have hn:s≠s0:=fun e=>by simp only[Cw] at h;have:=h.1;omega
   exact Cw.kill (s0:=s0) hl (fun s hs'=>(hs s).2.2 hs') (.suf s i) v h|>fun h=>by simpa only[SV.kill,if_neg hn] using h
 | .h s,v,hh=>by simp only[Cw] at hh ⊢;rw[(hs s).2.1];exact hh
 | .mh s,v,hh=>by simp only[Cw] at hh ⊢;rw[(hs s).1];exact hh
 | .tup xs,v,h=>by simp only[Cw] at h ⊢;obtain⟨vs,h1,h2⟩:=h;exact⟨vs,h1,Cd.forget h0 hl hs xs _ h2⟩
 | .ag xs,v,h=>by simp only[Cw] at h ⊢;obtain⟨vs,h1,h2,h3⟩:=h;exact⟨vs,h1,h2,Cd.forget h0 hl hs xs _ h3⟩
 | .clo g xs,v,h=>by simp only[Cw] at h ⊢;obtain⟨vs,h1,h2⟩:=h;exact⟨vs,h1,Cd.forget h0 hl hs xs _ h2⟩
 | .nilq x,v,h=>by simp only[Cw] at h ⊢;obtain⟨sz,xs,b,h1,h2,h3⟩:=h;exact⟨sz,xs,b,hl.ev _ _ h1,h2,h3⟩
 | .slf s T,v,h=>by simp only[Cw] at h ⊢;rw[(hs s).1];exact h
def Cd.forget {C C':Cx} {s0:Nat} (h0:NAP<=s0) (hl:C.Le C') (hs:∀s,C'.K s=C.K s∧C'.hv s=C.hv s∧(s≠s0->C.At C' s)):∀(xs:List SV) (vs:List Value),Cd C xs vs->Cd C' xs vs
 |[],vs,h=>by simpa only[Cd] using h
 |x::xs,vs,h=>by simp only[Cd] at h ⊢;obtain⟨v,r,rfl,h1,h2⟩:=h;exact⟨v,r,rfl,Cw.forget h0 hl hs x v h1,Cd.forget h0 hl hs xs r h2⟩
end
def Rel.forget {s0:Nat} (h:Rel w0 Oe J U tm w K hv O) (h0:NAP<=s0):Rel w0 Oe J {U with m:=O6 U.m s0} tm w K hv O:=by
 have hg:∀s b,mget (O6 U.m s0) s=some b->s≠s0∧mget U.m s=some b:=fun s b hb=>by
  by_cases hs:s=s0
  .subst hs;rw[H6] at hb;cases hb
  .exact⟨hs,by rwa[G4 hs] at hb⟩
 have hl:(Cx.mk J (C5 w O) K hv U.m).Le ⟨J,C5 w O,K,hv,O6 U.m s0⟩:=⟨fun _ _ h=>h,Vw.Le.refl _⟩;have hat:∀s,K s=K s∧hv s=hv s∧(s≠s0->(Cx.mk J (C5 w O) K hv U.m).At ⟨J,C5 w O,K,hv,O6 U.m s0⟩ s):=fun s=>
  ⟨rfl,rfl,fun hs=>⟨rfl,rfl,fun e sz x ro xs h1 h2=>⟨e,x,ro,xs,by show mget (O6 U.m s0) s=_;rw[G4 hs];exact h1,h2,B7 _⟩⟩⟩
 refine⟨h.bel,h.ext,h.out,Cd.forget h0 hl hat _ _ h.tmps,fun s b hb=> ?_,fun s1 s2 b1 b2 h1 h2 h12 k1 k2=> ?_,h.t0⟩
 .obtain⟨hs,hb⟩:=hg s b hb;have hbl:=h.mem s b hb;cases b with
  |box cs ro=>
   obtain⟨g1,g2,vs,T,g3,g4,g5,g6⟩:=hbl;exact⟨g1,g2,vs,T,g3,g4,Cd.forget h0 hl hat _ _ g5,g6⟩
  |map x ro=>exact hbl
  |arr e sz x ro=>
   obtain⟨g0,xs,vs,g1,g2,g3,g4,g5⟩:=hbl;exact⟨g0,xs,vs,g1,g2,g3,g4,g5.le fun _=>rfl⟩
 .exact h.inj s1 s2 b1 b2 (hg s1 b1 h1).2 (hg s2 b2 h2).2 h12 (by cases b1<;>exact k1) (by cases b2<;>exact k2)
def Mh (C:Cx) (O':Nat->Option Nat) (s:Nat):Prop:=
 ∀b,mget C.m s=some b->match b with
  | .box .. | .map .. =>O' (C.K s)=none
  | .arr _ sz x _=>∀xs,x.ev C.J=some (.l sz xs)->∀g,Dd (C.hv s)=some g->∀lim,O' g=some lim->xs.length*sz<=lim
def Wd (ss:List Nat) (s:Nat):∀m:List (Nat×Blk),mget (Mn ss m) s=(mget m s).map fun b=>if ss.contains s then b.frz else b
 |[]=>rfl
 |(k,b)::r=>by
  simp only[Mn,G2];by_cases hk:k=s
  .subst hk;by_cases hc:ss.contains k=true
   .simp only[hc,if_true,mget,Cc]
   .simp only[hc,if_false,mget,if_true,Cc,B5]
  .have:mget ((if ss.contains k=true then(k,b.frz) else(k,b))::Mn ss r) s=mget (Mn ss r) s:=by by_cases hc:ss.contains k=true<;>simp only[hc,if_true,if_false,B5,mget,hk]
   have h2:=Wd ss s r;simp only[Mn] at this h2;rw[this,h2];simp only[mget,if_neg hk]
open Classical in
noncomputable def Bq9 (C:Cx) (O:Nat->Option Nat) (ss:List Nat):Nat->Option Nat:=fun c=>
 if h:∃s b,ss.contains s=true∧mget C.m s=some b∧Has C s b∧C.K s=c then
  match h.choose_spec.choose with
  | .box .. | .map .. =>none
  | .arr _ sz x _=>match x.ev C.J with|some (.l _ xs)=>some (xs.length*sz)|_=>O c
 else O c
def Rel.frz (h:Rel w0 Oe J U tm w K hv O) (ss:List Nat) {n:Nat}:∃O',Rel w0 Oe J (U.eff ⟨Mn ss U.m,n,none⟩) tm w K hv O'∧(C5 w O).Le (C5 w O')∧
  (∀s,ss.contains s=true->Mh ⟨J,C5 w O,K,hv,U.m⟩ O' s)∧(∀c,O c=none->O' c=none):=by
 let C:Cx:=⟨J,C5 w O,K,hv,U.m⟩;have hat:∀s b,ss.contains s=true->mget U.m s=some b->Has C s b->Bq9 C O ss (K s)=match b with
   | .box .. | .map .. =>none
   | .arr _ sz x _=>match x.ev J with|some (.l _ xs)=>some (xs.length*sz)|_=>O (K s):=by
  intro s b hs hb hh;have hex:∃s' b',ss.contains s'=true∧mget C.m s'=some b'∧Has C s' b'∧C.K s'=K s:=⟨s,b,hs,hb,hh,rfl⟩;unfold Bq9;rw[dif_pos hex];obtain⟨h1,h2,h3,h4⟩:=hex.choose_spec.choose_spec;have hss:hex.choose=s:=by refine Classical.byContradiction fun hne=> ?_;exact h.inj _ _ _ _ h2 hb hne h3 hh h4
  have hbb:hex.choose_spec.choose=b:=by have h2':mget U.m hex.choose=some hex.choose_spec.choose:=h2;have h5:=h2'.symm.trans ((congrArg (mget U.m) hss).trans hb);injection h5
  rw[hbb]
 have hoff:∀c,(∀s b,ss.contains s=true->mget U.m s=some b->Has C s b->K s≠c)->Bq9 C O ss c=O c:=by intro c hc;unfold Bq9;rw[dif_neg];rintro⟨s,b,h1,h2,h3,h4⟩;exact hc s b h1 h2 h3 h4
 have hup:∀c lim,Bq9 C O ss c=some lim->∃l,O c=some l∧l<=lim:=by
  intro c lim hl;by_cases hex:∃s b,ss.contains s=true∧mget U.m s=some b∧Has C s b∧K s=c
  .obtain⟨s,b,h1,h2,h3,rfl⟩:=hex;rw[hat s b h1 h2 h3] at hl;cases b with
   |box _ _=>cases hl
   |map _ _=>cases hl
   |arr e sz x ro=>
    obtain⟨_,xs,vs,g1,g2,g3,g4,_⟩:=h.mem s _ h2;have g1':x.ev J=some (.l sz xs):=g1;simp only[g1'] at hl;injection hl with hl;obtain⟨_,l,g5,g6,_⟩:=g4 (K s) h3;exact⟨l,g5,by omega⟩
  .rw[hoff c (fun s b h1 h2 h3 h4=>hex ⟨s,b,h1,h2,h3,h4⟩)] at hl;exact⟨lim,hl,B7 _⟩
 have hnone:∀c,O c=none->Bq9 C O ss c=none:=by
  intro c hc;cases hf:Bq9 C O ss c with
  |none=>rfl
  |some lim=>
   obtain⟨l,h1,_⟩:=hup c lim hf;rw[hc] at h1;cases h1
 have hM:(C5 w O).Le (C5 w (Bq9 C O ss)):=Ir (fun _ _ _=>rfl) (fun c _ lim hl=>hup c lim hl) (fun c _ hc=>hnone c hc);have hmg:∀s,mget (Mn ss U.m) s=(mget U.m s).map fun b=>if ss.contains s then b.frz else b:=fun s=>Wd ss s U.m
 have hl:C.Le ⟨J,C5 w (Bq9 C O ss),K,hv,Mn ss U.m⟩:=⟨fun _ _ h=>h,hM⟩;have hats:∀s,C.At ⟨J,C5 w (Bq9 C O ss),K,hv,Mn ss U.m⟩ s:=fun s=>⟨rfl,rfl,fun e sz x ro xs h1 h2=>by
  have h1':mget U.m s=some (.arr e sz x ro):=h1;by_cases hc:ss.contains s=true
  .exact⟨e,x,⟨true,none⟩,xs,by show mget (Mn ss U.m) s=_;rw[hmg,h1'];simp only[Cc,hc,if_true,Blk.frz],h2,B7 _⟩
  .exact⟨e,x,ro,xs,by show mget (Mn ss U.m) s=_;rw[hmg,h1'];simp only[Cc,if_neg hc],h2,B7 _⟩⟩
 have hhas:∀s b,Has ⟨J,C5 w (Bq9 C O ss),K,hv,Mn ss U.m⟩ s b.frz↔Has C s b:=fun s b=>by cases b<;>exact Iff.rfl
 refine⟨Bq9 C O ss,⟨h.bel,fun c hc hx=> ?_,fun c hc=>hnone c (h.out c hc),Cd.le hl hats _ _ h.tmps,fun s b hb=> ?_,fun s1 s2 b1 b2 h1 h2 h12 hh1 hh2=> ?_,h.t0⟩,hM,fun s hs b hb=> ?_,hnone⟩
 .rw[hoff c (fun s b _ h2 h3 h4=>by
   have:=((h.mem s b h2).lt h3).1;subst h4;rcases this with h5|h5
   .have h6:w0.heap.size<=K s:=h5;omega
   .exact hx h5)]
  exact h.ext c hc hx
 .have hb':mget (Mn ss U.m) s=some b:=hb;rw[hmg] at hb';obtain⟨b0,hb0,rfl⟩:=Bs.1 hb';have hbl:=h.mem s b0 hb0;by_cases hc:ss.contains s=true
  .rw[if_pos hc];cases b0 with
   |box cs ro=>
    obtain⟨g1,g2,vs,T,g3,g4,g5,g6⟩:=hbl;exact⟨g1,fun hr=>by simp at hr,vs,T,g3,g4,Cd.le hl hats _ _ g5,g6⟩
   |map x ro=>
    obtain⟨g1,g2,es,ents,ck,g3,g4,g5⟩:=hbl;exact⟨g1,fun hr=>by simp at hr,es,ents,ck,g3,g4,g5.mono hM⟩
   |arr e sz x ro=>
    obtain⟨g0,xs,vs,g1,g2,g3,g4,_⟩:=hbl;refine⟨g0,xs,vs,g1,g2,g3.mono hM,fun g hg=> ?_,trivial⟩;obtain⟨g5,_⟩:=g4 g hg;subst g5;refine⟨rfl,xs.length*sz,?_,B7 _,fun hr=>by simp at hr⟩;have g1':x.ev J=some (.l sz xs):=g1;have:=hat s _ hc hb0 hg;simp only[g1'] at this;exact this
  .have hc':ss.contains s=false:=by cases hh:ss.contains s<;>simp_all
   rw[if_neg hc];refine hbl.le hl hats (fun _=>rfl) fun hh=> ?_;refine hoff _ fun s' b' hs' hb'' hh' he=> ?_;by_cases hss:s'=s
   .subst hss;exact hc hs'
   .exact h.inj s' s b' b0 hb'' hb0 hss hh' hh he
 .have g1:mget (Mn ss U.m) s1=some b1:=h1;have g2:mget (Mn ss U.m) s2=some b2:=h2;rw[hmg] at g1 g2;obtain⟨c1,k1,rfl⟩:=Bs.1 g1;obtain⟨c2,k2,rfl⟩:=Bs.1 g2;have z:∀s (c:Blk),Has ⟨J,C5 w (Bq9 C O ss),K,hv,Mn ss U.m⟩ s (if ss.contains s then c.frz else c)->Has C s c:=fun s c hh=>by
   by_cases hc:ss.contains s=true
   .rw[if_pos hc] at hh;exact(hhas s c).1 hh
   .rw[if_neg hc] at hh;cases c<;>exact hh
  exact h.inj s1 s2 c1 c2 k1 k2 h12 (z s1 c1 hh1) (z s2 c2 hh2)
 .have hb':mget U.m s=some b:=hb;cases b with
  |box cs ro=>exact hat s _ hs hb' trivial
  |map x ro=>exact hat s _ hs hb' trivial
  |arr e sz x ro=>
   intro xs hx g hg lim hl;obtain⟨_,xs',vs,g1,_,_,g4,_⟩:=h.mem s _ hb';obtain⟨g5,_⟩:=g4 g hg;have g5':g=K s:=g5;subst g5';have:=hat s _ hs hb' hg;have hx':x.ev J=some (.l sz xs):=hx;simp only[hx'] at this;rw[this] at hl;injection hl with hl;omega
end
def Rep.agg_mk {M:Vw} {ps:List PV} {vs:Array Value} (hl:ps.length=vs.toList.length) (h1:∀u,u∈vs.toList->One u)
  (h:∀(j:Nat) (p:PV) (v:Value),ps[j]? =some p->vs.toList[j]? =some v->Rep M p v):Rep M (.a ps) (.agg vs):=
 .a ps vs (by rw[hl,Dv]) h1 fun j c v hc hv=>h j c v hc (by rw[B9];exact hv)
mutual
def SV.asE_ok {C:Cx} {sv:SV} {x:E} {v:Value} (h:sv.asE=some x) (hr:Cw C sv v):∃p,x.ev C.J=some p∧Rep C.M p v:=by
 cases sv with
 |e y=>
  simp only[SV.asE,Bn] at h;subst h;simpa only[Cw] using hr
 |nil sz=>
  simp only[SV.asE,Bn] at h;subst h;simp only[Cw] at hr;subst hr;refine⟨.l sz [],by simp only[E.ev],?_⟩;exact Rep.l sz [] none 0 ⟨0,0,none⟩ (fun _ _=>undef) (B7 _) (fun h=>absurd rfl h) (fun i x h=>by simp at h) (fun i x j c h=>by simp at h) (fun i x j c h=>by simp at h) (fun i x j c h=>by simp at h)
 |lit sz y=>
  simp only[SV.asE,Bn] at h;subst h;simp only[Cw] at hr;obtain⟨xs,a,h1,h2,h3⟩:=hr;exact⟨_,h1,h3⟩
 |ag xs=>
  simp only[SV.asE,Bs] at h;obtain⟨es,hes,rfl⟩:=h;simp only[Cw] at hr;obtain⟨vs,rfl,h1,h2⟩:=hr;obtain⟨ps,g1,g2,g3⟩:=yr hes h2;exact⟨.a ps,by simp only[E.ev,g1,Cc],Rep.agg_mk g2 h1 g3⟩
 |_=>simp[SV.asE] at h
def yr {C:Cx}:∀{xs:List SV} {es:List E} {vs:List Value},Gd3 xs=some es->Cd C xs vs->
  ∃ps,E.evs C.J es=some ps∧ps.length=vs.length∧∀(j:Nat) (p:PV) (v:Value),ps[j]? =some p->vs[j]? =some v->Rep C.M p v
 |[],es,vs,h,hr=>by simp only[Gd3,Bn] at h;subst h;simp only[Cd] at hr;subst hr;exact⟨[],by simp only[E.evs],rfl,fun j p v h=>by simp at h⟩
 |x::xs,es,vs,h,hr=>by
  simp only[Gd3] at h;split at h
  .rename_i y ys hy hys;injection h with h;subst h;simp only[Cd] at hr;obtain⟨v,r,rfl,h1,h2⟩:=hr;obtain⟨p,hp,hpr⟩:=SV.asE_ok hy h1;obtain⟨ps,g1,g2,g3⟩:=yr hys h2;refine⟨p::ps,by simp only[E.evs,hp,g1,B0,Cc],by simp[g2],fun j q u hq hu=> ?_⟩;cases j with
   |zero=>simp at hq hu;subst hq;subst hu;exact hpr
   |succ j=>exact g3 j q u (by simpa using hq) (by simpa using hu)
  .cases h
end
def Sz {J:List PV}:∀{es:List E} {ps:List PV},E.evs J es=some ps->ps.length=es.length∧∀(j:Nat) (x:E),es[j]? =some x->∃p,ps[j]? =some p∧x.ev J=some p
 |[],ps,h=>by simp only[E.evs,Bn] at h;subst h;exact⟨rfl,fun j x h=>by simp at h⟩
 |e::es,ps,h=>by
  simp only[E.evs,Bl,Bs] at h;obtain⟨p,hp,ps',hps,rfl⟩:=h;obtain⟨g1,g2⟩:=Sz hps;refine⟨by simp[g1],fun j x hx=> ?_⟩;cases j with
  |zero=>simp at hx;subst hx;exact⟨p,rfl,hp⟩
  |succ j=>exact g2 j x (by simpa using hx)
def Z9 {C:Cx} {O':Nat->Option Nat} {f:SV->Option (E×List Nat)} {R:PV->Value->Prop}
  (hf:∀sv v x ss,f sv=some (x,ss)->Cw C sv v->(∀s,s∈ss->Mh C O' s)->∃p,x.ev C.J=some p∧R p v):
  ∀{xs:List SV} {vs:List Value} {ys:List E} {ss:List Nat},goL f xs=some (ys,ss)->Cd C xs vs->(∀s,s∈ss->Mh C O' s)->
   ∃ps,E.evs C.J ys=some ps∧ps.length=vs.length∧∀(j:Nat) (p:PV) (v:Value),ps[j]? =some p->vs[j]? =some v->R p v
 |[],vs,ys,ss,h,hr,_=>by simp only[goL,Bn,B4] at h;obtain⟨rfl,rfl⟩:=h;simp only[Cd] at hr;subst hr;exact⟨[],by simp only[E.evs],rfl,fun j p v h=>by simp at h⟩
 |x::xs,vs,ys,ss,h,hr,ho=>by
  simp only[goL] at h;split at h
  .rename_i y s1 ys' s2 hy hys;simp only[Bn,B4] at h;obtain⟨rfl,rfl⟩:=h;simp only[Cd] at hr;obtain⟨v,r,rfl,h1,h2⟩:=hr;obtain⟨p,hp,hpr⟩:=hf x v y s1 hy h1 fun s hs=>ho s (F3 _ hs);obtain⟨ps,g1,g2,g3⟩:=Z9 hf hys h2 fun s hs=>ho s (Ej _ hs);refine⟨p::ps,by simp only[E.evs,hp,g1,B0,Cc],by simp[g2],fun j q u hq hu=> ?_⟩;cases j with
   |zero=>simp at hq hu;subst hq;subst hu;exact hpr
   |succ j=>exact g3 j q u (by simpa using hq) (by simpa using hu)
  .cases h
section
variable {w0:Fr} {Oe:Nat->Option Nat} {J:List PV} {U:St} {tm:Array Value} {w:World} {K:Nat->Nat} {hv:Nat->Value} {O:Nat->Option Nat}
def Gz8 (h:Rel w0 Oe J U tm w K hv O) {O':Nat->Option Nat} (hM:(C5 w O).Le (C5 w O')) {s e sz:Nat} {x:E} {ro:Ro} (hb:mget U.m s=some (.arr e sz x ro))
  (ho:Mh ⟨J,C5 w O,K,hv,U.m⟩ O' s):∃p,x.ev J=some p∧Rep (C5 w O') p (hv s):=by
 obtain⟨h0,xs,vs,g1,g2,g3,g4⟩:=h.mem s _ hb;have g1':x.ev J=some (.l sz xs):=g1;refine⟨_,g1',?_⟩;have hop:=ho _ hb;rcases g2.2 with⟨na,hn,hn0⟩|⟨g,cap,cur,e1,e1c,e2,e3,e4,e5,e6,e7⟩
 .have hx:xs=[]:=C1 hn0;subst hx;have hn':hv s= .slice na 0 0:=hn;rw[hn'];exact Rep.l sz [] na 0 ⟨0,0,none⟩ (fun _ _=>undef) (B7 _) (fun h=>absurd rfl h) (fun i x h=>by simp at h) (fun i x j c h=>by simp at h) (fun i x j c h=>by simp at h) (fun i x j c h=>by simp at h)
 .have e1':hv s= .slice (some ⟨g,0,none⟩) xs.length cap:=e1;have hg:Dd (hv s)=some g:=by rw[e1'];simp only[Dd,if_neg (show¬cap=0 by omega)]
  rw[e1'];have hlen:vs.length=xs.length*sz:=g2.1;have cellAt:∀j u,vs[j]? =some u->w.cell? ((⟨g,0,none⟩:Addr).add j)=some u:=fun j u hu=>g2.cells hg j u hu;have hadd:∀j,((⟨g,0,none⟩:Addr).add j)=⟨g,j,none⟩:=fun j=>by unfold Go.Addr.add;split<;>simp_all
  have bound:∀(i:Nat) (y:PV) (j:Nat) (c:PV),xs[i]? =some y->y.cells[j]? =some c->i*sz+j<xs.length*sz:=by intro i y j c hy hc;have h1:=(g3 i y hy).1;have h2:=(Br.1 hy).1;have h3:=(Br.1 hc).1;have h4:(i+1)*sz<=xs.length*sz:=C0 _ (by omega);rw[Dl,Gh] at h4;omega
  refine Rep.l sz xs (some ⟨g,0,none⟩) cap ⟨g,0,none⟩ (fun i j=>vs.getD (i*sz+j) undef) e4 (fun _=>rfl) (fun i y hy=>(g3 i y hy).1) (fun i y j c hy hc=> ?_) (fun i y j c hy hc=> ?_) (fun i y j c hy hc=> ?_)
  .obtain⟨u,k1,k2,k3⟩:=(g3 i y hy).2 j c hc;simp only[C4,k1,Ez];refine F8 (cellAt _ _ k1) fun lim hl=> ?_;rw[hadd] at hl ⊢;have:=hop xs g1 g hg lim hl;have:=bound i y j c hy hc;show i*sz+j<lim;omega
  .obtain⟨u,k1,k2,k3⟩:=(g3 i y hy).2 j c hc;simp only[C4,k1,Ez];exact k2
  .obtain⟨u,k1,k2,k3⟩:=(g3 i y hy).2 j c hc;simp only[C4,k1,Ez];exact k3.mono hM
def Gy2 (h:Rel w0 Oe J U tm w K hv O) {O':Nat->Option Nat} {f:SV->Option (E×List Nat)}
  (hf:∀sv v x ss,f sv=some (x,ss)->Cw ⟨J,C5 w O,K,hv,U.m⟩ sv v->(∀s,s∈ss->Mh ⟨J,C5 w O,K,hv,U.m⟩ O' s)->∃p,x.ev J=some p∧Rep (C5 w O') p v)
  {s:Nat} {cs:List SV} {ro:Bool} (hb:mget U.m s=some (.box cs ro)) {ys:List E} {s':List Nat} (hgo:goL f cs=some (ys,s')) (hops:∀q,q∈s'->Mh ⟨J,C5 w O,K,hv,U.m⟩ O' q) (hop:O' (K s)=none):
  ∃ps,E.evs J ys=some ps∧I4 (C5 w O') ps (.pointer (some ⟨K s,0,none⟩)):=by
 obtain⟨g1,g2,vs,T,g3,g4,g5,_⟩:=h.mem s _ hb;obtain⟨ps,k1,k2,k3⟩:=Z9 (R:=Rep (C5 w O')) hf hgo g5 hops;have hat:∀(j:Nat) (c:PV),ps[j]? =some c->∃u,vs[j]? =some u∧One u∧Rep (C5 w O') c u:=by
  intro j c hc;have hj:j<vs.toList.length:=by rw[<-k2];exact(Br.1 hc).1
  have hu:vs.toList[j]? =some (vs.toList[j]):=B3 hj;refine⟨vs.toList[j],by rw[<-B9];exact hu,g4 _ (H1 hj),k3 j c _ hc hu⟩
 refine⟨ps,k1,⟨⟨K s,0,none⟩,fun j=>vs.getD j undef,rfl,fun j c hc=> ?_,fun j c hc=> ?_,fun j c hc=> ?_⟩⟩
 .obtain⟨u,u1,u2,u3⟩:=hat j c hc;have hadd:((⟨K s,0,none⟩:Addr).add j)=⟨K s,j,none⟩:=by unfold Go.Addr.add;split<;>simp_all
  refine F8 ?_ fun lim hl=> ?_
  .rw[hadd,cell_of_row w (K s) j vs T (0,0) g3,u1];simp[Cg,u1]
  .rw[hadd,hop] at hl;cases hl
 .obtain⟨u,u1,u2,u3⟩:=hat j c hc;simp only[Cg,u1,Ez];exact u2
 .obtain⟨u,u1,u2,u3⟩:=hat j c hc;simp only[Cg,u1,Ez];exact u3
def I4.drop {M:Vw} {cs:List PV} {ad:Addr} (h:I4 M cs (.pointer (some ad))) (off:Nat):I4 M (cs.drop off) (.pointer (some (ad.add off))):=by
 obtain⟨ad',el,e,h1,h2,h3⟩:=h;injection e with e;injection e with e;subst e;refine⟨_,fun j=>el (off+j),rfl,fun j c hc=> ?_,fun j c hc=> ?_,fun j c hc=> ?_⟩
 .rw[Addr.add_add];exact h1 _ c (by rw[Cr] at hc;exact hc)
 .exact h2 _ c (by rw[Cr] at hc;exact hc)
 .exact h3 _ c (by rw[Cr] at hc;exact hc)
def Vj (h:Rel w0 Oe J U tm w K hv O) {O':Nat->Option Nat} (hM:(C5 w O).Le (C5 w O')):∀(d:Nat) (sv:SV) (v:Value) (x:E) (ss:List Nat),toE U.m d sv=some (x,ss)->
  Cw ⟨J,C5 w O,K,hv,U.m⟩ sv v->(∀s,s∈ss->Mh ⟨J,C5 w O,K,hv,U.m⟩ O' s)->∃p,x.ev J=some p∧Rep (C5 w O') p v
 |0,sv,v,x,ss,hx,_,_=>by simp[toE] at hx
 |d+1,sv,v,x,ss,hx,hr,ho=>by
  have base:∀{y:E},sv.asE=some y->x=y->∃p,x.ev J=some p∧Rep (C5 w O') p v:=by intro y hy hxy;subst hxy;obtain⟨p,hp,hpr⟩:=SV.asE_ok hy hr;exact⟨p,hp,hpr.mono hM⟩
  cases sv with
  |e y=>simp only[toE,Bn,B4] at hx;exact base rfl hx.1.symm
  |nil sz=>simp only[toE,Bn,B4] at hx;exact base rfl hx.1.symm
  |lit sz y=>simp only[toE,Bn,B4] at hx;exact base rfl hx.1.symm
  |und=>
   simp only[toE,Bn,B4] at hx;obtain⟨rfl,rfl⟩:=hx;exact⟨.u,by simp only[E.ev],.u v⟩
  |h s=>
   simp only[toE] at hx;split at hx
   .rename_i e sz y ro hb;simp only[Bn,B4] at hx;obtain⟨rfl,rfl⟩:=hx;simp only[Cw] at hr;subst hr;exact Gz8 h hM hb (ho s (Cl.2 rfl))
   .cases hx
  |mh s=>
   simp only[toE] at hx;split at hx
   .rename_i y ro hb;simp only[Bn,B4] at hx;obtain⟨rfl,rfl⟩:=hx;simp only[Cw] at hr;subst hr;obtain⟨g1,g2,es,ents,ck,g3,g4,g5⟩:=h.mem s _ hb;have hop:O' (K s)=none:=ho s (Cl.2 rfl) _ hb;refine⟨_,g3,Rep.m es (K s) ents (Pq hop g4) g5.len (fun j e x a b=>(g5.key j e x a b).mono hM) (fun j e x a b=>(g5.val j e x a b).mono hM) g5.one⟩
   .cases hx
  |ag xs=>
   simp only[toE,Bs] at hx;obtain⟨⟨ys,ss'⟩,hg,hx⟩:=hx;simp only[B4] at hx;obtain⟨rfl,rfl⟩:=hx;simp only[Cw] at hr;obtain⟨vs,rfl,h1,h2⟩:=hr;obtain⟨ps,k1,k2,k3⟩:=Z9 (R:=Rep (C5 w O')) (fun sv v x ss a b c=>Vj h hM d sv v x ss a b c) hg h2 ho;exact⟨.a ps,by simp only[E.ev];have k1':E.evs J ys=some ps:=k1;rw[k1'];rfl,Rep.agg_mk k2 h1 k3⟩
  |clo g xs=>
   simp only[toE,Bs] at hx;obtain⟨⟨ys,ss'⟩,hg,hx⟩:=hx;simp only[B4] at hx;obtain⟨rfl,rfl⟩:=hx;simp only[Cw] at hr;obtain⟨cv,rfl,h2⟩:=hr;have cap:∀(sv:SV) (v:Value) (x:E) (ss:List Nat),Ij6 U.m (toE U.m d) sv=some (x,ss)->Cw ⟨J,C5 w O,K,hv,U.m⟩ sv v->(∀s,s∈ss->Mh ⟨J,C5 w O,K,hv,U.m⟩ O' s)->
     ∃p,x.ev J=some p∧I4 (C5 w O') p.cells v:=by
    intro sv v x ss hx hr ho;have boxcase:∀s,sv= .bp s 0->∃p,x.ev J=some p∧I4 (C5 w O') p.cells v:=by
     intro s hsv;subst hsv;simp only[Ij6] at hx;simp only[Cw] at hr;subst hr;split at hx
     .rename_i cs ro hb;obtain⟨g1,g2,vs,T,g3,g4,g5,_⟩:=h.mem s _ hb;have hsol:∀(ys:List E) (s':List Nat),goL (toE U.m d) cs=some (ys,s')->(∀q,q∈s'->Mh ⟨J,C5 w O,K,hv,U.m⟩ O' q)->O' (K s)=none->
        ∃ps,E.evs J ys=some ps∧I4 (C5 w O') ps (.pointer (some ⟨K s,0,none⟩))∧∀(j:Nat) (p:PV),ps[j]? =some p->p.cells=[p]:=by
       intro ys s' hgo hops hop;obtain⟨ps,k1,k2,k3⟩:=Z9 (R:=Rep (C5 w O')) (fun sv v x ss a b c=>Vj h hM d sv v x ss a b c) hgo g5 hops;have hat:∀(j:Nat) (c:PV),ps[j]? =some c->∃u,vs[j]? =some u∧One u∧Rep (C5 w O') c u:=by
        intro j c hc;have hj:j<vs.toList.length:=by rw[<-k2];exact(Br.1 hc).1
        have hu:vs.toList[j]? =some (vs.toList[j]):=B3 hj;refine⟨vs.toList[j],by rw[<-B9];exact hu,g4 _ (H1 hj),k3 j c _ hc hu⟩
       refine⟨ps,k1,⟨⟨K s,0,none⟩,fun j=>vs.getD j undef,rfl,fun j c hc=> ?_,fun j c hc=> ?_,fun j c hc=> ?_⟩,fun j p hp=> ?_⟩
       .obtain⟨u,u1,u2,u3⟩:=hat j c hc;have hadd:((⟨K s,0,none⟩:Addr).add j)=⟨K s,j,none⟩:=by unfold Go.Addr.add;split<;>simp_all
        refine F8 ?_ fun lim hl=> ?_
        .rw[hadd,cell_of_row w (K s) j vs T (0,0) g3,u1];simp[Cg,u1]
        .rw[hadd,hop] at hl;cases hl
       .obtain⟨u,u1,u2,u3⟩:=hat j c hc;simp only[Cg,u1,Ez];exact u2
       .obtain⟨u,u1,u2,u3⟩:=hat j c hc;simp only[Cg,u1,Ez];exact u3
       .obtain⟨u,u1,u2,u3⟩:=hat j p hp;cases u3<;>first|rfl|(exact absurd u2 (by simp[One,Value.oneCell']))
      split at hx
      .rename_i y s' hgo;simp only[Bn,B4] at hx;obtain⟨rfl,rfl⟩:=hx;have hop:O' (K s)=none:=ho s (Gm ..) _ hb;obtain⟨ps,k1,k2,k3⟩:=hsol _ _ hgo (fun q hq=>ho q (Kw _ hq)) hop;obtain⟨l1,l2⟩:=Sz k1;obtain⟨p,hp,hev⟩:=l2 0 _ rfl;refine⟨p,hev,?_⟩;rw[k3 0 p hp];have:ps=[p]:=by
        cases ps with
        |nil=>simp at hp
        |cons q r=>
         simp at hp l1;subst hp;subst l1;rfl
       rw[<-this];exact k2
      .rename_i ys s' _ hgo;simp only[Bn,B4] at hx;obtain⟨rfl,rfl⟩:=hx;have hop:O' (K s)=none:=ho s (Gm ..) _ hb;obtain⟨ps,k1,k2,k3⟩:=hsol _ _ hgo (fun q hq=>ho q (Kw _ hq)) hop;exact⟨.a ps,by simp only[E.ev,k1,Cc],k2⟩
      .cases hx
     .cases hx
    unfold Ij6 at hx;split at hx
    .rename_i s;exact boxcase s rfl
    .rename_i y;simp only[Bn,B4] at hx;obtain⟨rfl,rfl⟩:=hx;simp only[Cw,Gp] at hr;obtain⟨p,hp,hpr⟩:=hr;exact⟨p,hp,hpr.mono hM⟩
    .cases hx
   obtain⟨ps,k1,k2,k3⟩:=Z9 (R:=fun p v=>I4 (C5 w O') p.cells v) cap hg h2 ho;have hat:∀j,j<ps.length->∃(p:PV) (v:Value),ps[j]? =some p∧cv[j]? =some v∧I4 (C5 w O') p.cells v:=by
    intro j hj;have hj':j<cv.toList.length:=by rw[<-k2];exact hj
    exact⟨ps[j],cv.toList[j],B3 hj,by rw[<-B9];exact B3 hj',k3 j _ _ (B3 hj) (B3 hj')⟩
   refine⟨.f g ps,by simp only[E.ev];have k1':E.evs J ys=some ps:=k1;rw[k1'];rfl,?_⟩;have hch:∀j,∃(ad:Addr) (el:Nat->Value),j<ps.length->∃(p:PV),ps[j]? =some p∧cv[j]? =some (.pointer (some ad))∧(∀(k:Nat) (c:PV),p.cells[k]? =some c->(C5 w O').cell (ad.add k)=some (el k))∧
     (∀(k:Nat) (c:PV),p.cells[k]? =some c->One (el k))∧∀(k:Nat) (c:PV),p.cells[k]? =some c->Rep (C5 w O') c (el k):=by
    intro j;by_cases hj:j<ps.length
    .obtain⟨p,v,hp,hv',ad,el,rfl,a1,a2,a3⟩:=hat j hj;exact⟨ad,el,fun _=>⟨p,hp,hv',a1,a2,a3⟩⟩
    .exact⟨⟨0,0,none⟩,fun _=>undef,fun hj'=>absurd hj' hj⟩
   obtain⟨ads,hch⟩:=Classical.axiomOfChoice hch;obtain⟨els,hch⟩:=Classical.axiomOfChoice hch;have pick:∀(i:Nat) (y:PV),ps[i]? =some y->cv[i]? =some (.pointer (some (ads i)))∧(∀(k:Nat) (c:PV),y.cells[k]? =some c->(C5 w O').cell ((ads i).add k)=some (els i k))∧
     (∀(k:Nat) (c:PV),y.cells[k]? =some c->One (els i k))∧∀(k:Nat) (c:PV),y.cells[k]? =some c->Rep (C5 w O') c (els i k):=by
    intro i y hy;obtain⟨p,hp,a⟩:=hch i (Br.1 hy).1;rw[hy] at hp;injection hp with hp;subst hp;exact a
   refine Rep.f g ps cv ads els (by rw[k2,Dv]) (fun j hj=> ?_) (fun i y j c hy hc=>(pick i y hy).2.1 j c hc) (fun i y j c hy hc=>(pick i y hy).2.2.1 j c hc) (fun i y j c hy hc=>(pick i y hy).2.2.2 j c hc);exact(pick j _ (B3 hj)).1
  |ip y off=>
   simp only[toE,Bn,B4] at hx;obtain⟨rfl,rfl⟩:=hx;simp only[Cw] at hr;obtain⟨p,hp,hpr⟩:=hr;have hp':y.ev J=some p:=hp;exact⟨.pt (p.cells.drop off),by simp only[E.ev,hp',B0,u6],(hpr.mono hM).rep⟩
  |bp s off=>
   simp only[toE] at hx;split at hx
   .rename_i cs ro hb;obtain⟨⟨ys,s'⟩,hgo,hx⟩:=Bs.1 hx;simp only[B4] at hx;obtain⟨rfl,rfl⟩:=hx;have hop:O' (K s)=none:=ho s (Gm ..) _ hb;obtain⟨ps,k1,k2⟩:=Gy2 h (fun sv v x ss a b c=>Vj h hM d sv v x ss a b c) hb hgo (fun q hq=>ho q (Kw _ hq)) hop;refine⟨.pt (ps.drop off),by simp only[E.ev,k1,Cc,B0,u6,PV.cells],?_⟩;simp only[Cw] at hr;subst hr;have:=(k2.drop off).rep;have hadd:((⟨K s,0,none⟩:Addr).add off)=⟨K s,off,none⟩:=by unfold Go.Addr.add;split<;>simp_all
    rw[hadd] at this;exact this
   .cases hx
  |_=>simp[toE] at hx
def U9 (h:Rel w0 Oe J U tm w K hv O) {O':Nat->Option Nat} (hM:(C5 w O).Le (C5 w O')) {xs:List SV} {vs:List Value} {ys:List E} {ss:List Nat} (hx:Aj7 U.m xs=some (ys,ss))
  (hr:Cd ⟨J,C5 w O,K,hv,U.m⟩ xs vs) (ho:∀s,s∈ss->Mh ⟨J,C5 w O,K,hv,U.m⟩ O' s):
  ∃ps,E.evs J ys=some ps∧ps.length=vs.length∧∀(j:Nat) (p:PV) (v:Value),ps[j]? =some p->vs[j]? =some v->Rep (C5 w O') p v:=
 Z9 (R:=Rep (C5 w O')) (fun sv v x ss a b c=>Vj h hM 20 sv v x ss a b c) hx hr ho
def Y6 (C:Cx) (sz:Nat) (v:Value):Cw C (Vk sz v) v:=by
 unfold Vk;split
 .simp only[Cw,E.ev];exact⟨_,rfl,.b _⟩
 .simp only[Cw,E.ev];exact⟨_,rfl,.i _ _⟩
 .simp only[Cw,E.ev];exact⟨_,rfl,.s _ _ rfl⟩
 .simp only[Cw]
 .simp only[Cw]
def GOk (J:List PV) (G:Option E):Prop:=∀g,G=some g->g.ev J=some (.b true)
def Dn5 {C:Cx} {G:Option E} (hG:GOk C.J G) {sv sv':SV} {v:Value} (h:Dn6 G sv=some sv') (hr:Cw C sv v):Cw C sv' v:=by
 unfold Dn6 at h;split at h
 .rename_i g0 x;split at h
  .rename_i hi;injection h with h;subst h;simp only[Cw] at hr;obtain⟨b,h1,h2,_⟩:=hr;unfold ew at hi;split at hi
   .cases hi
   .rename_i g;have:=Z6 g g0 hi (hG g rfl);rw[h1] at this;injection this with this;injection this with this;exact h2 this
  .cases h
 .injection h with h;subst h;exact hr
def F9 {P:Program} {G:Option E} (hG:GOk J G) {t:TypeId} {x:Operand} {sv:SV} {ds:List Deferred} {C:Cx} (hη:C.J=J) (hx:opd P U G t x=some sv) (h:Cd C U.t tm.toList):
  Cw C sv ((Act.mk tm ds).eval x):=by
 subst hη;cases x with
 |tmp i=>
  simp only[opd,Bl] at hx;obtain⟨sv0,h1,h2⟩:=hx;obtain⟨v,hv,hr⟩:=h.get i sv0 h1;have:(Act.mk tm ds).eval (.tmp i)=v:=by rw[B9] at hv;simp[Act.eval,Cg,hv]
  rw[this];exact Dn5 hG h2 hr
 |const v=>simp only[opd,Bn] at hx;subst hx;exact Y6 _ _ _
 |func f=>
  simp only[opd,Bn] at hx;subst hx;simp only[Cw,E.ev];exact⟨_,rfl,Rep.f f [] #[] (fun _=>⟨0,0,none⟩) (fun _ _=>undef) rfl (fun j hj=>by simp at hj) (fun i x j c h=>by simp at h) (fun i x j c h=>by simp at h) (fun i x j c h=>by simp at h)⟩
 |global g=>simp[opd] at hx
def E6 {P:Program} {G:Option E} (hG:GOk J G) {t:TypeId} {x:Operand} {e:E} {ds:List Deferred} {C:Cx} (hη:C.J=J) (hx:G8 P U G t x=some e) (h:Cd C U.t tm.toList):
  ∃p,e.ev J=some p∧Rep C.M p ((Act.mk tm ds).eval x):=by
 subst hη;simp only[G8,Bl] at hx;obtain⟨sv,h1,h2⟩:=hx;exact SV.asE_ok h2 (F9 hG rfl h1 h)
def Xh {P:Program} {G:Option E} (hG:GOk J G) {ds:List Deferred} {C:Cx} (hη:C.J=J) (h:Cd C U.t tm.toList):∀{xs:List Operand} {ts:List TypeId} {svs:List SV},
  args P U G xs ts=some svs->Cd C svs (xs.map (Act.mk tm ds).eval)
 |[],ts,svs,hx=>by simp only[args,Bn] at hx;subst hx;simp only[Cd,List.map_nil]
 |x::xs,ts,svs,hx=>by
  simp only[args] at hx;split at hx
  .rename_i y ys h1 h2;injection hx with hx;subst hx;simp only[Cd,G2];exact⟨_,_,rfl,F9 hG hη h1 h,Xh hG hη h h2⟩
  .cases hx
end
def Fz (fn:Fns) (J:List PV):List W->Option (List PV)
 |[]=>some J
 |x::r=>(x.ev fn J).bind fun η'=>Fz fn η' r
def Hm (fn:Fns):∀(xs ys:List W) (J:List PV),Fz fn J (xs++ys)=(Fz fn J xs).bind fun η'=>Fz fn η' ys
 |[],ys,J=>by simp[Fz]
 |x::xs,ys,J=>by simp only[Db,Fz,Option.bind_assoc];congr 1;funext η';exact Hm fn xs ys η'
def Aj3 (fn:Fns) (N:Nat) (k:T):∀(ws:List W) (J:List PV),(Dn1 ws k).ev fn N J=(Fz fn J ws).bind fun η'=>k.ev fn N η'
 |[],J=>by simp[Dn1,Fz]
 |x::ws,J=>by have:=Aj3 fn N k ws;simp only[Dn1,List.foldr_cons] at this ⊢;simp only[T.ev,Fz,Option.bind_assoc];congr 1;funext η';exact this η'
def W.ev_pre {fn:Fns} {J η':List PV}:∀{x:W},x.ev fn J=some η'->∃I,η'=J++I:=by
 have res:∀{flat:Bool} {m:Nat} {r:Option (List PV)},results flat m J r=some η'->∃I,η'=J++I:=by
  intro flat m r h;simp only[results,Bl] at h;obtain⟨vs,_,h⟩:=h;split at h
  .injection h with h;exact⟨vs,h.symm⟩
  .cases h
 have gd:∀{m:Nat} {g:Option E} {r:Option (List PV)},Gb J m g r=some η'->(r=some η'->∃I,η'=J++I)->∃I,η'=J++I:=by
  intro m g r h hr;unfold Gb at h;split at h
  .exact hr h
  .simp only[Bl] at h;obtain⟨v,_,h⟩:=h;split at h
   .exact hr h
   .injection h with h;exact⟨_,h.symm⟩
   .cases h
 intro x h;cases x with
 |chk x=>
  simp only[W.ev,Bs] at h;obtain⟨_,_,rfl⟩:=h;exact⟨[],by simp⟩
 |call g flat f ar m=>
  simp only[W.ev] at h;refine gd h fun h=> ?_;simp only[Bl] at h;obtain⟨vs,_,h⟩:=h;exact res h
 |clo g flat c ar m=>
  simp only[W.ev] at h;refine gd h fun h=> ?_;simp only[Bl] at h;obtain⟨q,_,vs,_,h⟩:=h;split at h
  .exact res h
  .cases h
 |mcall f ar=>
  simp only[W.ev,Bl] at h;obtain⟨vs,_,h⟩:=h;exact res h
def J8 {fn:Fns}:∀{ws:List W} {J η':List PV},Fz fn J ws=some η'->∃I,η'=J++I
 |[],J,η',h=>by simp only[Fz,Bn] at h;exact⟨[],by simp[h]⟩
 |x::r,J,η',h=>by simp only[Fz,Bl] at h;obtain⟨η1,h1,h2⟩:=h;obtain⟨I,rfl⟩:=W.ev_pre h1;obtain⟨ζ',rfl⟩:=J8 h2;exact⟨I++ζ',by simp⟩
def Dz1 {fn:Fns} {J:List PV}:∀{ws:List W} {η1 η2:List PV},Fz fn η1 ws=some η2->(∃I,J=η2++I)->∀x,W.chk x∈ws->∃p,x.ev J=some p
 |[],η1,η2,h,hη,x,hx=>by simp at hx
 |y::r,η1,η2,h,hη,x,hx=>by
  simp only[Fz,Bl] at h;obtain⟨η3,h1,h2⟩:=h;rcases Ch.1 hx with rfl|hx
  .simp only[W.ev,Bs] at h1;obtain⟨p,hp,rfl⟩:=h1;obtain⟨ζ1,rfl⟩:=J8 h2;obtain⟨ζ2,rfl⟩:=hη;exact⟨p,by rw[Cy];exact E.ev_mono _ _ _ _ hp⟩
  .exact Dz1 h2 hη x hx
def Fc (P:Program) (o:Oper) (a:Act) (w:World) (R:Value->World->Prop):Prop:=
 (∃v w',(execOp a.eval o).run P w= .ok (.value v) w'∧R v w')∨(∃w',(execOp a.eval o).run P w= .ok .skip w'∧R undef w')∨
 (∃f args w',(execOp a.eval o).run P w= .ok (.enter f args) w'∧Calls P f args w' fun e w''=>∃v,e= .returned v∧R v w'')
def Fc.mono {P:Program} {o:Oper} {a:Act} {w:World} {R R':Value->World->Prop} (h:Fc P o a w R) (hr:∀v w',R v w'->R' v w'):Fc P o a w R':=by
 rcases h with⟨v,w',h1,h2⟩|⟨w',h1,h2⟩|⟨f,args,w',h1,h2⟩
 .exact .inl ⟨v,w',h1,hr _ _ h2⟩
 .exact .inr (.inl ⟨w',h1,hr _ _ h2⟩)
 .exact .inr (.inr ⟨f,args,w',h1,h2.mono fun e w'' ⟨v,he,hv⟩=>⟨v,he,hr _ _ hv⟩⟩)
def Fc.wp {P:Program} {o:Oper} {a:Act} {w:World} {R:Value->World->Prop} {next:Act->World->Prop} {Q:Exit->Act->World->Prop} (h:Fc P o a w R)
  (hn:∀v w',R v w'->next (a.put o.dst v) w'):o.wp P a w next Q:=by
 unfold Oper.wp;rcases h with⟨v,w',h1,h2⟩|⟨w',h1,h2⟩|⟨f,args,w',h1,h2⟩
 .rw[h1];exact hn _ _ h2
 .rw[h1];exact hn _ _ h2
 .rw[h1,Oper.upon_enter];refine h2.mono fun e w'' ⟨v,he,hv⟩=> ?_;subst he;exact hn _ _ hv
def Ix (w0:Fr) (Oe:Nat->Option Nat) (J:List PV) (U:St) (tm:Array Value) (F:Eff) (sv:SV) (v:Value) (w':World):Prop:=
 ∃β' hv' O',Rel w0 Oe J (U.eff F) tm w' β' hv' O'∧Cw ⟨J,C5 w' O',β',hv',F.m⟩ sv v
section
variable {P:Program} {w0:Fr} {Oe:Nat->Option Nat} {J:List PV} {U:St} {a:Act} {w:World} {K:Nat->Nat} {hv:Nat->Value} {O:Nat->Option Nat}
def Ix.keep (h:Rel w0 Oe J U a.tmps w K hv O) {sv:SV} {v:Value} (hr:Cw ⟨J,C5 w O,K,hv,U.m⟩ sv v):Ix w0 Oe J U a.tmps (Hz U) sv v w:=⟨K,hv,O,h,hr⟩
def Fc.value {o:Oper} {R:Value->World->Prop} {v:Value} {w':World} (h:(execOp a.eval o).run P w= .ok (.value v) w') (hr:R v w'):Fc P o a w R:= .inl ⟨v,w',h,hr⟩
def Rep.int {M:Vw} {k:IntKind} {n:Int} {v:Value} (h:Rep M (.i k n) v):v= .int k n:=by cases h;rfl
def Rep.bool {M:Vw} {b:Bool} {v:Value} (h:Rep M (.b b) v):v= .bool b:=by cases h;rfl
def Rep.str {M:Vw} {x:List UInt8} {v:Value} (h:Rep M (.s x) v):∃y:ByteArray,v= .string y∧y.data.toList=x:=by cases h with|s _ y h=>exact⟨y,rfl,h⟩
end
section
variable {P:Program} {M:Vw} (w:World)
def PV.val:PV->Value
 | .i k n=> .int k n
 | .b x=> .bool x
 |_=>undef
def ww (op:BinOp) (t:TypeId) (xo yo:Operand) (k k':IntKind) (m n:Int):(eqGuard op t xo yo (.int k m) (.int k' n)).run P w= .ok () w:=by cases op<;>simp[eqGuard]
def wv (op:BinOp) (t:TypeId) (xo yo:Operand) (x y:ByteArray):(eqGuard op t xo yo (.string x) (.string y)).run P w= .ok () w:=by cases op<;>simp[eqGuard]
def Df1 {op:BinOp} {k:IntKind} {m n:Int} {r:PV} (t:TypeId) (h:Gd op k m n=some r):(binOp op t (.int k m) (.int k n)).run P w= .ok r.val w∧Rep M r r.val:=by
 unfold Gd at h;split at h
 case h_4=>
  split at h
  .cases h
  .rename_i hz;simp only[Bn] at h;subst h;exact⟨by simp[binOp,Op.intDiv,hz,PV.val],.i _ _⟩
 case h_5=>
  split at h
  .cases h
  .rename_i hz;simp only[Bn] at h;subst h;exact⟨by simp[binOp,Op.intDiv,hz,PV.val],.i _ _⟩
 all_goals first
  |(cases h;done)
  |(simp only[Bn] at h;subst h;exact⟨by simp[binOp,Op.intArith,Op.intBits,Op.intCmp,PV.val],by constructor⟩)
def Hs3 {op:BinOp} {p q r:PV} {x y:Value} (t:TypeId) (xo yo:Operand) (h:X.bin op p q=some r) (hx:Rep M p x) (hy:Rep M q y):
  ∃v,(do eqGuard op t xo yo x y;binOp op t x y:Sem Value).run P w= .ok v w∧Rep M r v:=by
 unfold X.bin at h;split at h
 .rename_i k m k' n;rw[hx.int,hy.int,Sem.run_bind,ww,Result.andThen_ok];split at h
  .unfold Oh at h;split at h
   .cases h
   .rename_i hn;simp only[Bn] at h;subst h;exact⟨.int k _,by simp[binOp,Op.shift,hn],.i _ _⟩
  .unfold Oh at h;split at h
   .cases h
   .rename_i hn;simp only[Bn] at h;subst h;exact⟨.int k _,by simp[binOp,Op.shift,hn],.i _ _⟩
  .split at h
   .rename_i hk;subst hk;exact⟨_,Df1 w t h⟩
   .cases h
 .rename_i m n;obtain⟨x',rfl,rfl⟩:=hx.str;obtain⟨y',rfl,rfl⟩:=hy.str;rw[Sem.run_bind,wv,Result.andThen_ok];unfold bj at h;split at h
  case h_1=>
   split at h
   .cases h
   .rename_i hz;simp only[Bn] at h;subst h;have hz':¬(((x'.size+y'.size:Nat):Int)>IntKind.i64.max):=hz;refine⟨.string (x'++y'),?_,.s _ _ (by simp)⟩;simp only[binOp,Op.stringOp];rw[if_neg hz'];rfl
  all_goals first
   |(cases h;done)
   |(simp only[Bn] at h;subst h
     refine⟨.bool _,?_,.b _⟩;simp only[binOp,Op.stringOp,ByteArray.toList_eq];rfl)
 .cases h
def Iv9 {op:UnOp} {p r:PV} {x:Value} (h:X.un op p=some r) (hx:Rep M p x):∃v,(Op.unary op x).run P w= .ok v w∧Rep M r v:=by
 unfold X.un at h;split at h
 .simp only[Bn] at h;subst h;rw[hx.bool];exact⟨_,by simp[Op.unary],.b _⟩
 .simp only[Bn] at h;subst h;rw[hx.int];exact⟨_,by simp[Op.unary,Op.intArith],.i _ _⟩
 .cases h
set_option linter.constructorNameAsVariable false
def Gv3 {t:TypeId} {s:Sc} {p q:PV} {r:Bool} {x y:Value} (d:Nat)
  (ht:match s with| .b=>P.underlying t=some .bool| .i k=>P.underlying t=some (.int k)| .s=>P.underlying t=some .string)
  (h:Dl3 s p q=some r) (hx:Rep M p x) (hy:Rep M q y):(Op.equalIn (d+1) t x y).run P w= .ok r w:=by
 unfold Dl3 at h;split at h
 .simp only[Bn] at h;subst h;rw[hx.bool,hy.bool];exact run_equalIn_bool' w d t _ _ ht
 .split at h
  .split at h
   .simp only[Bn] at h;subst h;rw[hx.int,hy.int]
    subst_vars
    exact run_equalIn_int w d t _ _ _ _ ht
   .cases h
  .cases h
 .simp only[Bn] at h;subst h;obtain⟨x',rfl,rfl⟩:=hx.str;obtain⟨y',rfl,rfl⟩:=hy.str;rw[run_equalIn_string w d t x' y' ht,ByteArray.toList_eq,ByteArray.toList_eq]
 .cases h
def K9:∀{ts:List Sc} {cs ds:List PV} {r:Bool},Hs ts cs ds=some r->cs.length=ts.length∧ds.length=ts.length
 |[],[],[],_,_=>⟨rfl,rfl⟩
 |[],_::_,_,_,h=>by simp[Hs] at h
 |[],[],_::_,_,h=>by simp[Hs] at h
 |_::_,[],_,_,h=>by simp[Hs] at h
 |_::_,_::_,[],_,h=>by simp[Hs] at h
 |t::ts,c::cs,d::ds,r,h=>by
  simp only[Hs] at h;split at h
  .rename_i h1 h2;have:=K9 h2;simp[this.1,this.2]
  .cases h
def Tv:∀{ts us:List Sc} {cs ds:List PV} {r:Bool},Hs (ts++us) cs ds=some r->
  ∃r1 r2,Hs ts (cs.take ts.length) (ds.take ts.length)=some r1∧Hs us (cs.drop ts.length) (ds.drop ts.length)=some r2∧r=(r1 && r2)
 |[],us,cs,ds,r,h=>⟨true,r,by simp[Hs],by simpa using h,by simp⟩
 |t::ts,us,cs,ds,r,h=>by
  cases cs with
  |nil=>simp[Hs] at h
  |cons c cs=>
   cases ds with
   |nil=>simp[Hs] at h
   |cons d ds=>
    simp only[Db,Hs] at h;split at h
    .rename_i a b h1 h2;simp only[Bn] at h;subst h;obtain⟨r1,r2,g1,g2,rfl⟩:=Tv h2;exact⟨a && r1,r2,by simp[Hs,h1,g1],by simpa using g2,by rw[Bool.and_assoc]⟩
    .cases h
def dz {t:TypeId} {xs:Array Value} {off n:Nat} (ha:Lr P t=true) (hn:Cj P t=n) (hi:(P.info? t).isSome):(part t xs off).run P w= .ok (.agg (xs.extract off (off+n))) w:=by
 unfold Lr at ha;obtain⟨i,hi⟩:=Dt.1 hi;have hs:i.size=n:=by simpa [Cj,hi] using hn
 split at ha
 .rename_i h;simp[part,isAgg,run_underlying h,sizeOf,typeInfo,hi,hs]
 .rename_i h;simp[part,isAgg,run_underlying h,sizeOf,typeInfo,hi,hs]
 .cases ha
def dy {t:TypeId} {xs:Array Value} {off:Nat} {v:Value} (ha:Lr P t=false) (hu:(P.underlying t).isSome) (hv:xs[off]? =some v):(part t xs off).run P w= .ok v w:=by obtain⟨d,hd⟩:=Dt.1 hu;unfold Lr at ha;cases d<;>simp_all [part,isAgg,run_underlying hd]
def Rm {t:TypeId} {d:TypeDesc} (h:P.underlying t=some d):(P.info? t).isSome:=by
 unfold Program.underlying at h;cases hh:P.info? t with
 |none=>simp[hh] at h
 |some i=>rfl
def qc (M:Vw) (cs:List PV) (vs:List Value):Prop:=∀(j:Nat) (c:PV) (v:Value),cs[j]? =some c->vs[j]? =some v->Rep M c v
def W3 (d:Nat) (ih:∀t ts,sq P d t=some ts->∀(cs ds:List PV) (X Y:List Value) (r:Bool),X.length=ts.length->Y.length=ts.length->qc M cs X->qc M ds Y->Hs ts cs ds=some r->
   ∀(x y:Value),(if Lr P t then x= .agg X.toArray else X=[x])->(if Lr P t then y= .agg Y.toArray else Y=[y])->∀Bf,d<Bf->(Op.equalIn Bf t x y).run P w= .ok r w)
  (xs ys:Array Value) (cs ds:List PV) (hcx:qc M cs xs.toList) (hcy:qc M ds ys.toList):∀(fs:List Field) (off:Nat) (ts:List Sc) (r:Bool),Qv P (sq P d) fs off=some ts->
   off+ts.length<=xs.size->off+ts.length<=ys.size->Hs ts ((cs.drop off).take ts.length) ((ds.drop off).take ts.length)=some r->∀Bf,d<Bf->(Op.eqFields Bf xs ys fs).run P w= .ok r w
 |[],off,ts,r,h,_,_,he,Bf,hD=>by simp only[Qv,Bn] at h;subst h;simp only[Cs,List.take_zero,Hs,Bn] at he;subst he;simp[Op.eqFields]
 |f::fs,off,ts,r,h,hx,hy,he,Bf,hD=>by
  simp only[Qv] at h;split at h
  .cases h
  .rename_i hnm;simp only[Cz,beq_iff_eq,bne_iff_ne,ne_eq,not_or,Decidable.not_not] at hnm;split at h
   .rename_i us hus;split at h
    .rename_i hsz;obtain⟨vs,hvs,rfl⟩:=Bs.1 h;simp only[Bp] at hx hy he;obtain⟨r1,r2,e1,e2,rfl⟩:=Tv he;rw[Bz8,ig (by omega)] at e1;rw[Bz8,ig (by omega)] at e1;have hdrop:∀(l:List PV),List.drop us.length (List.take (us.length+vs.length) (List.drop off l))=List.take vs.length (List.drop (off+us.length) l):=by intro l;rw[List.drop_take,Fy];congr 1;omega
     rw[hdrop,hdrop] at e2;have hrest:=W3 d ih xs ys cs ds hcx hcy fs (off+us.length) vs r2 hvs (by omega) (by omega) e2 Bf hD;have hu:∃dd,P.underlying f.type=some dd:=by
      cases d with
      |zero=>simp[sq] at hus
      |succ d=>unfold sq at hus;split at hus<;>first|exact⟨_,by assumption⟩|cases hus
     obtain⟨dd,hdd⟩:=hu;have cx:qc M ((cs.drop off).take us.length) ((xs.toList.drop off).take us.length):=by
      intro j c v hc hv;rw[Cp] at hc hv;split at hc
      .rename_i hj;rw[if_pos hj] at hv;rw[Cr] at hc hv;exact hcx _ c v hc hv
      .cases hc
     have cy:qc M ((ds.drop off).take us.length) ((ys.toList.drop off).take us.length):=by
      intro j c v hc hv;rw[Cp] at hc hv;split at hc
      .rename_i hj;rw[if_pos hj] at hv;rw[Cr] at hc hv;exact hcy _ c v hc hv
      .cases hc
     have lx:((xs.toList.drop off).take us.length).length=us.length:=by simp;omega
     have ly:((ys.toList.drop off).take us.length).length=us.length:=by simp;omega
     have pick:∀(zs:Array Value),off+us.length<=zs.size->∃v,(part f.type zs f.offset).run P w= .ok v w∧(if Lr P f.type then v= .agg ((zs.toList.drop off).take us.length).toArray else(zs.toList.drop off).take us.length=[v]):=by
      intro zs hz;rw[hnm.2];by_cases ha:Lr P f.type=true
      .refine⟨_,dz w ha hsz (Rm hdd),?_⟩;rw[if_pos ha];congr 1;apply Array.ext';simp[P1,Jy]
      .have ha':Lr P f.type=false:=by simpa using ha
       have hone:us.length=1:=by
        cases d with
        |zero=>simp[sq] at hus
        |succ d=>
         unfold sq at hus;split at hus
         .simp at hus;subst hus;rfl
         .simp at hus;subst hus;rfl
         .simp at hus;subst hus;rfl
         .rename_i hst;simp[Lr,hst] at ha'
         .cases hus
       have hlt:off<zs.toList.length:=by simp;omega
       refine⟨zs.toList[off],dy w ha' (by rw[hdd];rfl) (by rw[<-B9];exact B3 hlt),?_⟩;rw[if_neg ha,hone,Et hlt];rfl
     obtain⟨vx,px,qx⟩:=pick xs (by omega);obtain⟨vy,py,qy⟩:=pick ys (by omega);have heq:=ih f.type us hus _ _ _ _ r1 lx ly cx cy e1 vx vy qx qy Bf hD;simp only[Op.eqFields,Sem.run_ite,Sem.run_bind,px,py,heq,Result.andThen_ok];rw[if_pos hnm.1];cases r1 with
     |false=>simp
     |true=>simpa using hrest
    .cases h
   .cases h
def ax:∀(d:Nat) (t:TypeId) (ts:List Sc),sq P d t=some ts->∀(cs ds:List PV) (X Y:List Value) (r:Bool),X.length=ts.length->Y.length=ts.length->qc M cs X->qc M ds Y->Hs ts cs ds=some r->
   ∀(x y:Value),(if Lr P t then x= .agg X.toArray else X=[x])->(if Lr P t then y= .agg Y.toArray else Y=[y])->∀Bf,d<Bf->(Op.equalIn Bf t x y).run P w= .ok r w
 |0,t,ts,h,_,_,_,_,_,_,_,_,_,_,_,_,_,_,_,_=>by simp[sq] at h
 |d+1,t,ts,h,cs,ds,X,Y,r,hX,hY,hcx,hcy,he,x,y,hx,hy,Bf,hD=>by
  obtain⟨Bf,rfl⟩:∃m,Bf=m+1:=⟨Bf - 1,by omega⟩;have one:∀(s:Sc),ts=[s]->Lr P t=false->(match s with| .b=>P.underlying t=some .bool| .i k=>P.underlying t=some (.int k)| .s=>P.underlying t=some .string)->
    (Op.equalIn (Bf+1) t x y).run P w= .ok r w:=by
   intro s hs ha ht;subst hs;rw[ha] at hx hy;simp only[B5,if_false] at hx hy;subst hx;subst hy;obtain⟨l1,l2⟩:=K9 he
   match cs,ds,l1,l2 with
   |[c],[e],_,_=>
    simp only[Hs] at he;split at he
    .rename_i a b h1 h2;simp only[Bn] at h2 he;subst h2;subst he;rw[Mc];exact Gv3 w Bf ht h1 (hcx 0 c x rfl rfl) (hcy 0 e y rfl rfl)
    .cases he
  unfold sq at h;split at h
  .rename_i hu;simp only[Bn] at h;exact one .b h.symm (by simp[Lr,hu]) hu
  .rename_i k hu;simp only[Bn] at h;exact one (.i k) h.symm (by simp[Lr,hu]) hu
  .rename_i hu;simp only[Bn] at h;exact one .s h.symm (by simp[Lr,hu]) hu
  .rename_i fs hu;split at h
   .cases h
   .rename_i hs;have ha:Lr P t=true:=by simp[Lr,hu]
    rw[ha] at hx hy;simp only[if_true] at hx hy;subst hx;subst hy;have hf:P.fieldsOf t=fs:=by simp[Program.fieldsOf,hu]
    rw[run_equalIn_struct w Bf t _ _ (by rw[hf];exact hu) (by simpa using hs),hf];obtain⟨l1,l2⟩:=K9 he;refine W3 w d (ax d) X.toArray Y.toArray cs ds (by simpa using hcx) (by simpa using hcy) fs.toList 0 ts r h (by simp[hX]) (by simp[hY]) ?_ Bf (by omega);simp only[Gp];rw[Fv (by omega),Fv (by omega)];exact he
  .cases h
def Hp0 {op:BinOp} {neg ag:Bool} {ts:List Sc} {p q r:PV} {x y:Value} {t:TypeId} (xo yo:Operand) (hop:op=if neg then .neq else .eql) (ha:Lr P t=ag) (ht:sq P 20 t=some ts) (hsz:True)
  (hg:P.eqGuardType P.depth t=false) (hb:ag=false->P.underlying t=some .bool) (h:Nf neg ag ts p q=some r) (hx:Rep M p x) (hy:Rep M q y):
  ∃v,(do eqGuard op t xo yo x y;binOp op t x y:Sem Value).run P w= .ok v w∧Rep M r v:=by
 subst hop;have agg:∀(X Y:Array Value) (r:Bool),(Op.equalIn 10000 t (.agg X) (.agg Y)).run P w= .ok r w->
   (do eqGuard (if neg then BinOp.neq else .eql) t xo yo (.agg X) (.agg Y);binOp (if neg then BinOp.neq else .eql) t (.agg X) (.agg Y):Sem Value).run P w= .ok (.bool (if neg then !r else r)) w:=by
  intro X Y r hr;rw[Sem.run_bind,run_eqGuard_agg w _ t xo yo X Y hg,Result.andThen_ok];cases neg with
  |true=>simp only[if_true];rw[run_neq_struct,hr];rfl
  |false=>simp only[B5,if_false];rw[run_eql_struct,hr];rfl
 unfold Nf at h;split at h
 .rename_i cs ds;obtain⟨r',hr',rfl⟩:=Bs.1 h;cases hx with
  |a _ X hlx hx1 hx=>
   cases hy with
   |a _ Y hly hy1 hy=>
    obtain⟨l1,l2⟩:=K9 hr';refine⟨_,agg X Y r' ?_,.b _⟩;refine ax w 20 t ts ht cs ds X.toList Y.toList r' (by simp[hlx,l1]) (by simp[hly,l2]) (fun j c v hc hv=>hx j c v hc (by rw[<-B9];exact hv)) (fun j c v hc hv=>hy j c v hc (by rw[<-B9];exact hv)) hr' _ _ ?_ ?_ 10000 (by omega)
    .rw[if_pos ha]
    .rw[if_pos ha]
 .rename_i p q;split at h
  .rename_i hs;simp only[Bt] at hs;obtain⟨r',hr',rfl⟩:=Bs.1 h;have hu:=hb rfl;have hts:ts=[.b]:=by simp[sq,hu] at ht;exact ht.symm
   subst hts;simp only[Hs] at hr';split at hr'
   .rename_i a b h1 h2;simp only[Bn] at h2 hr';subst h2;subst hr';rw[Mc];unfold Dl3 at h1;split at h1
    .simp only[Bn] at h1;subst h1;rw[hx.bool,hy.bool];cases neg with
     |true=>
      simp only[if_true];exact⟨_,by simp[eqGuard,binOp,Op.equal,Op.maxDepth,run_equalIn_bool' w _ t _ _ hu],.b _⟩
     |false=>
      simp only[B5,if_false];exact⟨_,by simp[eqGuard,binOp,Op.equal,Op.maxDepth,run_equalIn_bool' w _ t _ _ hu],.b _⟩
    .rename_i hh;cases hh
    .rename_i hh;cases hh
    .cases h1
   .cases hr'
  .cases h
 .cases h
end
def add_lit (g off j:Nat):(⟨g,off,none⟩:Addr).add j=⟨g,off+j,none⟩:=by unfold Go.Addr.add;split<;>simp_all
def c7 {D:Type}:∀(l:List D) (a y:D),(l++[a]).set l.length y=l++[y]
 |[],a,y=>rfl
 |x::l,a,y=>by simp only[Db,Cq,List.set_cons_succ,c7 l a y]
def cw:∀{cs:List SV} {k:Nat} {r:Option E} {x:E},U5 cs k r=some x->(∀y,r=some y->y=x)∧∀j,j<cs.length->cs[j]? =some (.e (.proj (k+j) x))
 |[],k,r,x,h=>by simp only[U5] at h;subst h;exact⟨fun y hy=>by injection hy with hy;exact hy.symm,fun j hj=>by simp at hj⟩
 |c::cs,k,r,x,h=>by
  cases c with
  |e z=>
   cases z with
   |proj j y=>
    cases r with
    |none=>
     simp only[U5] at h;split at h
     .rename_i hjk;subst hjk;obtain⟨g1,g2⟩:=cw h;refine⟨fun y hy=>(by cases hy),fun i hi=> ?_⟩;have hxy:=g1 y rfl;subst hxy;cases i with
      |zero=>rfl
      |succ i=>
       have:=g2 i (by simpa using hi);rw[Fs,this];simp only[Bn,SV.e.injEq,E.proj.injEq,and_true];omega
     .cases h
    |some z=>
     simp only[U5] at h;split at h
     .rename_i hjk;simp only[Bt,decide_eq_true_eq] at hjk;obtain⟨hjk,hs⟩:=hjk;subst hjk;have hs:=E.same_eq _ _ hs;subst hs;obtain⟨g1,g2⟩:=cw h;have hxy:=g1 y rfl;subst hxy;refine⟨fun y hy=>(by injection hy with hy;exact hy.symm),fun i hi=> ?_⟩;cases i with
      |zero=>rfl
      |succ i=>
       have:=g2 i (by simpa using hi);rw[Fs,this];simp only[Bn,SV.e.injEq,E.proj.injEq,and_true];omega
     .cases h
   |_=>simp[U5] at h
  |_=>simp[U5] at h
def Uw {C:Cx} {cs:List SV} {vs:Array Value} (h:Cd C cs vs.toList) (h1:∀u,u∈vs.toList->One u):Cw C (nn cs) (.agg vs):=by
 unfold nn;split
 .rename_i x hx;obtain⟨_,g⟩:=cw hx;have hlen:=h.length;cases hcs:cs with
  |nil=>subst hcs;simp[U5] at hx
  |cons c0 r0=>
   have hpos:0<cs.length:=by rw[hcs];simp
   rw[<-hcs];have each:∀j,j<cs.length->∃p c v,x.ev C.J=some p∧p.cells[j]? =some c∧vs.toList[j]? =some v∧Rep C.M c v:=by intro j hj;obtain⟨v,hv,hr⟩:=h.get j _ (g j hj);simp only[Cw,E.ev,Bl,Ig] at hr;obtain⟨c,⟨p,hp,hc⟩,hr⟩:=hr;exact⟨p,c,v,hp,hc,hv,hr⟩
   obtain⟨p,_,_,hp,_⟩:=each 0 hpos;have each':∀j,j<cs.length->∃c v,p.cells[j]? =some c∧vs.toList[j]? =some v∧Rep C.M c v:=by intro j hj;obtain⟨p',c,v,h1,h2,h3,h4⟩:=each j hj;rw[hp] at h1;injection h1 with h1;subst h1;exact⟨c,v,h2,h3,h4⟩
   have hle:cs.length<=p.cells.length:=by obtain⟨c,_,hc,_⟩:=each' (cs.length - 1) (by omega);have:=(Br.1 hc).1;omega
   simp only[Cw,E.ev,hp,B0,Ig,if_pos hle,Gp];refine⟨_,rfl,Rep.agg_mk (by simp[ig hle];simpa using hlen) h1 fun j q u hq hu=> ?_⟩;rw[Cp] at hq;split at hq
   .rename_i hj;obtain⟨c,v,k1,k2,k3⟩:=each' j hj;rw[hq] at k1;rw[hu] at k2;injection k1 with k1;injection k2 with k2;subst k1;subst k2;exact k3
   .cases hq
 .split
  .simp only[Cw];exact⟨vs,rfl,h1,h⟩
  split
  .rename_i es hes;obtain⟨ps,g1,g2,g3⟩:=yr hes h;simp only[Cw,E.ev,g1,Cc];exact⟨_,rfl,Rep.agg_mk g2 h1 g3⟩
  .simp only[Cw];exact⟨vs,rfl,h1,h⟩
def split_ok {C:Cx} {x:E} {cs:List PV} {vs:Array Value} (hx:x.ev C.J=some (.a cs)) (hl:vs.size=cs.length) (h:∀(j:Nat) (c:PV) (v:Value),cs[j]? =some c->vs[j]? =some v->Rep C.M c v):
  Cd C (Vb cs.length x) vs.toList:=by
 refine Cd.mk (by simp[Vb,hl]) fun j y v hy hv=> ?_;simp only[Vb,Dk,Bs] at hy;obtain⟨k,hk,rfl⟩:=hy;rw[Dn (by have:=(Br.1 hv).1;simp at this;omega)] at hk;injection hk with hk;subst hk;have hj:j<cs.length:=by have:=(Br.1 hv).1;simp at this;omega
 simp only[Cw,E.ev,hx,B0,PV.cells];exact⟨cs[j],B3 hj,h j _ v (B3 hj) (by rw[<-B9];exact hv)⟩
section
variable {P:Program} {C:Cx}
def V5 {v:Value} (h:One v):v.cells= #[v]:=by cases v<;>first|rfl|simp[One,Value.oneCell'] at h
def J9 {m:List (Nat×Blk)} {t:TypeId} {sv:SV} {v:Value} {ws:List W} {vs:List SV} (hm:C.m=m) (h:cellsOf P m t sv=some (ws,vs)) (hws:∀x,W.chk x∈ws->∃p,x.ev C.J=some p)
  (harr:∀s e sz x ro,mget m s=some (.arr e sz x ro)->One (C.hv s)) (hr:Cw C sv v):
  v.cells.size=Cj P t∧vs.length=Cj P t∧(∀u,u∈v.cells.toList->One u)∧Cd C vs v.cells.toList:=by
 have single:∀{sv':SV},One v->Cj P t=1->Cw C sv' v->v.cells.size=Cj P t∧[sv'].length=Cj P t∧(∀u,u∈v.cells.toList->One u)∧Cd C [sv'] v.cells.toList:=by intro sv' h1 ht hr;rw[V5 h1,ht];refine⟨rfl,rfl,fun u hu=>by simp at hu;subst hu;exact h1,?_⟩;simp only[Cd];exact⟨v,[],rfl,hr,rfl⟩
 unfold cellsOf at h;split at h
 .split at h
  .rename_i es;split at h
   .rename_i hl;simp only[Bn,B4] at h;obtain⟨rfl,rfl⟩:=h;simp only[Cw,E.ev,Bs] at hr;obtain⟨p,⟨ps,hps,rfl⟩,hr⟩:=hr;obtain⟨l1,l2⟩:=Sz hps;cases hr with
    |a _ us hls h1 hh=>
     refine⟨by show us.size=_;rw[hls,l1,hl],by simp[hl],h1,Cd.mk (by show (es.map SV.e).length=us.toList.length;simp[hls,l1]) fun j y u hy hu=> ?_⟩;simp only[Dk,Bs] at hy;obtain⟨x,hx,rfl⟩:=hy;obtain⟨p,hp,hev⟩:=l2 j x hx;simp only[Cw];exact⟨p,hev,hh j p u hp (by rw[<-B9];exact hu)⟩
   .cases h
  .rename_i x _;simp only[Bn,B4] at h;obtain⟨rfl,rfl⟩:=h;obtain⟨q,hq⟩:=hws _ (Cl.2 rfl);simp only[Cw] at hr;obtain⟨p,hp,hr⟩:=hr;simp only[E.ev,hp,B0] at hq;split at hq
   .rename_i cs;split at hq
    .rename_i hl;cases hr with
     |a _ us hls h1 hh=>
      refine⟨by show us.size=_;rw[hls,hl],by simp[Vb],h1,?_⟩;rw[<-hl];exact split_ok hp hls hh
    .cases hq
   .cases hq
  .rename_i xs;split at h
   .rename_i hl;simp only[Bn,B4] at h;obtain⟨rfl,rfl⟩:=h;simp only[Cw] at hr;obtain⟨us,rfl,h1,h2⟩:=hr;have:=h2.length;exact⟨by show us.size=_;rw[<-hl,this];simp,hl,h1,h2⟩
   .cases h
  .cases h
 .split at h
  .rename_i ht;have scal:∀(x:E),W.chk (.scal x)∈ws->(∃p,x.ev C.J=some p∧Rep C.M p v)->One v:=by
    intro x hx hr;obtain⟨q,hq⟩:=hws _ hx;obtain⟨p,hp,hr⟩:=hr;simp only[E.ev,hp,B0] at hq;split at hq
    .rename_i hs;exact hr.one hs
    .cases hq
   split at h
   .rename_i x;simp only[Bn,B4] at h;obtain⟨rfl,rfl⟩:=h;exact single (scal x (Cl.2 rfl) (by simpa only[Cw] using hr)) ht hr
   .rename_i x;simp only[Bn,B4] at h;obtain⟨rfl,rfl⟩:=h;simp only[Cw] at hr;obtain⟨xs,a,h1,h2,h3⟩:=hr;exact single (scal x (Cl.2 rfl) ⟨_,h1,h3⟩) ht (by simp only[Cw];exact⟨_,h1,h3⟩)
   .rename_i s;split at h
    .rename_i hb;simp only[Bn,B4] at h;obtain⟨rfl,rfl⟩:=h;refine single ?_ ht hr;simp only[Cw] at hr;subst hr;exact harr s _ _ _ _ hb
    .cases h
   .simp only[Bn,B4] at h;obtain⟨rfl,rfl⟩:=h;refine single ?_ ht hr;simp only[Cw] at hr;subst hr;rfl
   .simp only[Bn,B4] at h;obtain⟨rfl,rfl⟩:=h;refine single ?_ ht hr;simp only[Cw] at hr;subst hr;rfl
   .simp only[Bn,B4] at h;obtain⟨rfl,rfl⟩:=h;refine single ?_ ht hr;simp only[Cw] at hr;obtain⟨p,_,ad,el,rfl,_⟩:=hr;rfl
   .simp only[Bn,B4] at h;obtain⟨rfl,rfl⟩:=h;refine single ?_ ht hr;simp only[Cw] at hr;obtain⟨_,e,sz,x,ro,xs,k,iv,_,_,_,_,_,rfl⟩:=hr;rfl
   .simp only[Bn,B4] at h;obtain⟨rfl,rfl⟩:=h;refine single ?_ ht hr;simp only[Cw] at hr;subst hr;rfl
   .simp only[Bn,B4] at h;obtain⟨rfl,rfl⟩:=h;refine single ?_ ht hr;simp only[Cw] at hr;obtain⟨cv,rfl,_⟩:=hr;rfl
   .cases h
  .cases h
def Dz2 {m:List (Nat×Blk)} {kp:Bool} {t:TypeId} {sv:SV} {v:Value} {ws:List W} {vs:List SV} (hm:C.m=m) (h:Dz3 P m kp t sv=some (ws,vs)) (hws:∀x,W.chk x∈ws->∃p,x.ev C.J=some p)
  (harr:∀s e sz x ro,mget m s=some (.arr e sz x ro)->One (C.hv s)) (hr:Cw C sv v):
  v.cells.size=Cj P t∧vs.length=Cj P t∧(∀u,u∈v.cells.toList->One u)∧Cd C vs v.cells.toList:=by
 unfold Dz3 at h;split at h
 .rename_i sz x;split at h
  .rename_i ht;simp only[Bn,B4] at h;obtain⟨rfl,rfl⟩:=h;have h1:One v:=by
    obtain⟨q,hq⟩:=hws _ (Cl.2 rfl);simp only[Cw] at hr;obtain⟨xs,a,h1,h2,h3⟩:=hr;simp only[E.ev,h1,B0] at hq;split at hq
    .rename_i hs;exact h3.one hs
    .cases hq
   rw[V5 h1,ht.2];refine⟨rfl,rfl,fun u hu=>by simp at hu;subst hu;exact h1,?_⟩;simp only[Cd];exact⟨v,[],rfl,hr,rfl⟩
  .cases h
 .exact J9 hm h hws harr hr
def H2 {t:TypeId} {cs:List SV} (h:Jd P t=some cs):∃i z,P.info? t=some i∧i.zero=some z∧z.cells.size=i.size∧(∀u,u∈z.cells.toList->One u)∧Cd C cs z.cells.toList:=by
 unfold Jd at h;split at h
 .rename_i i hi;split at h
  .rename_i z hz;split at h
   .cases h
   .rename_i hc;simp only[Cz,Dp,bne_iff_ne,ne_eq,not_or,zn,Decidable.not_not,Ds] at hc;simp only[Bn] at h;subst h;refine⟨i,z,hi,hz,hc.2,fun u hu=>hc.1 u hu,Cd.mk (by simp) fun j y u hy hu=> ?_⟩;simp only[Dk,Bs] at hy;obtain⟨q,hq,rfl⟩:=hy;rw[List.getElem?_zip_eq_some] at hq;rw[hu] at hq;obtain⟨h1,_⟩:=hq;injection h1 with h1;rw[<-h1];exact Y6 _ _ _
  .cases h
 .cases h
def Cd.setCells:∀{vs:List SV} {cs:List SV} {us ys:List Value} {off:Nat},Cd C cs us->Cd C vs ys->off+vs.length<=cs.length->Cd C (Gs cs off vs) (us.take off++ys++us.drop (off+ys.length))
 |[],cs,us,ys,off,h,hv,_=>by simp only[Cd] at hv;subst hv;simpa [Gs] using h
 |v::vs,cs,us,ys,off,h,hv,hl=>by
  simp only[Cd] at hv;obtain⟨y,r,rfl,h1,h2⟩:=hv;have hlen:=h.length;have ih:=Cd.setCells (off:=off+1) (h.set off h1) h2 (by simp at hl ⊢;omega);simp only[Gs];have e:(us.set off y).take (off+1)++r++(us.set off y).drop (off+1+r.length)=us.take off++(y::r)++us.drop (off+(y::r).length):=by
   have hoff:off<us.length:=by simp at hl;omega
   rw[List.take_set,List.take_succ_eq_append_getElem hoff,List.drop_set_of_lt (by omega)];have:(us.take off++[us[off]]).set off y=us.take off++[y]:=by
    have hl2:(us.take off).length=off:=by rw[Cv];omega
    have:=c7 (us.take off) us[off] y;rw[hl2] at this;exact this
   rw[this];simp[G1,Nat.add_comm 1]
  rw[e] at ih;exact ih
variable (w:World)
def L4 {t:TypeId} {a:Addr} {us:List Value} (ha:Lr P t=true) (hn:us.length=Cj P t) (h:∀j u,us[j]? =some u->w.cell? (a.add j)=some u):(loadVar t a).run P w= .ok (.agg us.toArray) w:=by
 have hl:=run_loadCells_list (P:=P) w a us h;unfold Lr at ha;have hi:∀d,P.underlying t=some d->(sizeOf t).run P w= .ok us.length w:=by intro d hd;obtain⟨i,hi⟩:=Dt.1 (Rm hd);simp[sizeOf,typeInfo,hi,hn,Cj]
 split at ha
 .rename_i h;simp[loadVar,isAgg,run_underlying h,hi _ h,hl]
 .rename_i h;simp[loadVar,isAgg,run_underlying h,hi _ h,hl]
 .cases ha
def Pb {t:TypeId} {a:Addr} {v:Value} (ha:Lr P t=false) (hu:(P.underlying t).isSome) (h:w.cell? a=some v):(loadVar t a).run P w= .ok v w:=by obtain⟨d,hd⟩:=Dt.1 hu;unfold Lr at ha;cases d<;>simp_all [loadVar,isAgg,run_underlying hd]
end
section
variable {P:Program} {w0:Fr} {Oe:Nat->Option Nat} {J:List PV} {U:St} {a:Act} {w:World} {K:Nat->Nat} {hv:Nat->Value} {O:Nat->Option Nat} {G:Option E} {o:Oper} {ws:List W}
def Chk (J:List PV) (ws:List W):Prop:=∀x,W.chk x∈ws->∃p,x.ev J=some p
def Chk.g (hc:Chk J ws) (hG:GOk J G) {x:E} (hx:Hp G x∈ws):∃p,x.ev J=some p:=by
 unfold Hp at hx;obtain⟨p,hp⟩:=hc _ hx;cases G with
 |none=>exact⟨p,hp⟩
 |some g=>
  simp only[E.ev,hG g rfl,B0] at hp;exact⟨p,hp⟩
def Chk.g1 {x:E} (hc:Chk J [Hp G x]) (hG:GOk J G):∃p,x.ev J=some p:=hc.g hG (Cl.2 rfl)
def GOk.conj (hG:GOk J G) {x:E} {b:Bool} (hx:x.ev J=some (.b b)) (hb:b=true):GOk J (some (Bx3 G x)):=by
 subst hb;intro g hg;injection hg with hg;subst hg;cases G with
 |none=>exact hx
 |some g=>simp only[Bx3,E.ev,hG g rfl,B0,hx]
def Cm2 {x:Operand} {sv:SV} (ho:o.op= .move x∨o.op= .assign x) (h:Rel w0 Oe J U a.tmps w K hv O) (hG:GOk J G) (hx:opd P U G o.type x=some sv):
  Fc P o a w (Ix w0 Oe J U a.tmps (Hz U) sv):=by
 refine Fc.value (v:=a.eval x) (w':=w) ?_ (.keep h (F9 (ds:=a.defers) hG rfl hx h.tmps));rcases ho with ho|ho<;>simp[execOp,ho]
def Fp8 {c x y:Operand} {ec ea eb:E} (ho:o.op= .pick c x y) (h:Rel w0 Oe J U a.tmps w K hv O) (hG:GOk J G) (hc:G8 P U G 0 c=some ec)
  (ha:G8 P U (some (Bx3 G ec)) o.type x=some ea) (hb:G8 P U (some (Bx3 G (.un .not ec))) o.type y=some eb) (hk:Chk J [Hp G (.ite ec ea eb)]):
  Fc P o a w (Ix w0 Oe J U a.tmps (Hz U) (.e (.ite ec ea eb))):=by
 obtain⟨r,hr⟩:=hk.g1 hG;obtain⟨p,hp,hpr⟩:=E6 (ds:=a.defers) (C:=⟨J,C5 w O,K,hv,U.m⟩) hG rfl hc h.tmps;have hr':=hr;simp only[E.ev,hp,B0] at hr';split at hr'
 .have hb':a.eval c= .bool true:=hpr.bool;obtain⟨q,hq,hqr⟩:=E6 (ds:=a.defers) (C:=⟨J,C5 w O,K,hv,U.m⟩) (hG.conj hp rfl) rfl ha h.tmps;refine Fc.value (v:=a.eval x) (w':=w) (by simp[execOp,ho,hb',asBool]) (.keep h ?_);simp only[Cw];rw[hq] at hr';injection hr' with hr';subst hr';exact⟨q,hr,hqr⟩
 .have hb':a.eval c= .bool false:=hpr.bool;obtain⟨q,hq,hqr⟩:=E6 (ds:=a.defers) (C:=⟨J,C5 w O,K,hv,U.m⟩) (hG.conj (x:= .un .not ec) (b:=true) (by simp[E.ev,hp,X.un]) rfl) rfl hb h.tmps;refine Fc.value (v:=a.eval y) (w':=w) (by simp[execOp,ho,hb',asBool]) (.keep h ?_);simp only[Cw];rw[hq] at hr';injection hr' with hr';subst hr';exact⟨q,hr,hqr⟩
 .cases hr'
def Hg4 {op:BinOp} {xt yt:TypeId} {x y:Operand} {ex ey:E} (ho:o.op= .binOp op xt x y yt) (h:Rel w0 Oe J U a.tmps w K hv O) (hG:GOk J G) (hx:G8 P U G xt x=some ex) (hy:G8 P U G yt y=some ey)
  (hk:Chk J [Hp G (.bin op ex ey)]):Fc P o a w (Ix w0 Oe J U a.tmps (Hz U) (.e (.bin op ex ey))):=by
 obtain⟨r,hr⟩:=hk.g1 hG;obtain⟨p,hp,hpr⟩:=E6 (ds:=a.defers) (C:=⟨J,C5 w O,K,hv,U.m⟩) hG rfl hx h.tmps;obtain⟨q,hq,hqr⟩:=E6 (ds:=a.defers) (C:=⟨J,C5 w O,K,hv,U.m⟩) hG rfl hy h.tmps;have hr':=hr;simp only[E.ev,hp,hq,B0] at hr';obtain⟨v,hv1,hv2⟩:=Hs3 (P:=P) w xt x y hr' hpr hqr;refine Fc.value (v:=v) (w':=w) ?_ (.keep h ?_)
 .simp only[execOp,ho];rw[Sem.run_bind];have e:a.eval=(Act.mk a.tmps a.defers).eval:=rfl;rw[e,hv1];rfl
 .simp only[Cw];exact⟨r,hr,hv2⟩
def En5 {op:BinOp} {neg ag:Bool} {ts:List Sc} {xt yt:TypeId} {x y:Operand} {ex ey:E} (ho:o.op= .binOp op xt x y yt) (hop:op=if neg then .neq else .eql) (hag:Lr P xt=ag) (hts:sq P 20 xt=some ts)
  (hgt:P.eqGuardType P.depth xt=false) (hbt:ag=false->P.underlying xt=some .bool)
  (h:Rel w0 Oe J U a.tmps w K hv O) (hG:GOk J G) (hx:G8 P U G xt x=some ex) (hy:G8 P U G yt y=some ey)
  (hk:Chk J [Hp G (.eqs neg ag ts ex ey)]):Fc P o a w (Ix w0 Oe J U a.tmps (Hz U) (.e (.eqs neg ag ts ex ey))):=by
 obtain⟨r,hr⟩:=hk.g1 hG;obtain⟨p,hp,hpr⟩:=E6 (ds:=a.defers) (C:=⟨J,C5 w O,K,hv,U.m⟩) hG rfl hx h.tmps;obtain⟨q,hq,hqr⟩:=E6 (ds:=a.defers) (C:=⟨J,C5 w O,K,hv,U.m⟩) hG rfl hy h.tmps;have hr':=hr;simp only[E.ev,hp,hq,B0] at hr';obtain⟨v,hv1,hv2⟩:=Hp0 (P:=P) w x y hop hag hts trivial hgt hbt hr' hpr hqr;refine Fc.value (v:=v) (w':=w) ?_ (.keep h ?_)
 .simp only[execOp,ho];rw[Sem.run_bind];have e:a.eval=(Act.mk a.tmps a.defers).eval:=rfl;rw[e,hv1];rfl
 .simp only[Cw];exact⟨r,hr,hv2⟩
def Il0 {op:UnOp} {xt:TypeId} {x:Operand} {ex:E} (ho:o.op= .unOp op xt x) (h:Rel w0 Oe J U a.tmps w K hv O) (hG:GOk J G) (hx:G8 P U G 0 x=some ex) (hk:Chk J [Hp G (.un op ex)]):
  Fc P o a w (Ix w0 Oe J U a.tmps (Hz U) (.e (.un op ex))):=by
 obtain⟨r,hr⟩:=hk.g1 hG;obtain⟨p,hp,hpr⟩:=E6 (ds:=a.defers) (C:=⟨J,C5 w O,K,hv,U.m⟩) hG rfl hx h.tmps;have hr':=hr;simp only[E.ev,hp,B0] at hr';obtain⟨v,hv1,hv2⟩:=Iv9 (P:=P) w hr' hpr;refine Fc.value (v:=v) (w':=w) ?_ (.keep h ?_)
 .have e:a.eval=(Act.mk a.tmps a.defers).eval:=rfl;simp only[execOp,ho,Sem.run_bind];rw[e,hv1];rfl
 .simp only[Cw];exact⟨r,hr,hv2⟩
def Fr1 {src dst:TypeId} {k k':IntKind} {x:Operand} {ex:E} (ho:o.op= .convert src dst x) (hs:P.underlying src=some (.int k')) (hd:P.underlying dst=some (.int k)) (h:Rel w0 Oe J U a.tmps w K hv O) (hG:GOk J G)
  (hx:G8 P U G 0 x=some ex) (hk:Chk J [Hp G (.conv k ex)]):Fc P o a w (Ix w0 Oe J U a.tmps (Hz U) (.e (.conv k ex))):=by
 obtain⟨r,hr⟩:=hk.g1 hG;obtain⟨p,hp,hpr⟩:=E6 (ds:=a.defers) (C:=⟨J,C5 w O,K,hv,U.m⟩) hG rfl hx h.tmps;have hr':=hr;simp only[E.ev,hp,B0] at hr';unfold Ad9 at hr';split at hr'
 .rename_i kk n;injection hr' with hr';have hv1:a.eval x= .int kk n:=hpr.int;refine Fc.value (v:= .int k (k.wrap n)) (w':=w) ?_ (.keep h ?_)
  .simp[execOp,ho,convert,run_underlying hs,run_underlying hd,hv1,Conv.intToInt]
  .simp only[Cw];exact⟨r,hr,by rw[<-hr'];exact .i _ _⟩
 .cases hr'
def Ek9 {src dst:TypeId} {x:Operand} {ex:E} (ho:o.op= .convert src dst x) (hs:P.underlying src=some .string) (hd:P.underlying dst=some .string) (h:Rel w0 Oe J U a.tmps w K hv O) (hG:GOk J G)
  (hx:G8 P U G 0 x=some ex) (hk:Chk J [Hp G (.bin .eql ex (.c (.s [])))]):Fc P o a w (Ix w0 Oe J U a.tmps (Hz U) (.e ex)):=by
 obtain⟨r,hr⟩:=hk.g1 hG;obtain⟨p,hp,hpr⟩:=E6 (ds:=a.defers) (C:=⟨J,C5 w O,K,hv,U.m⟩) hG rfl hx h.tmps;simp only[E.ev,hp,B0] at hr;have hstr:∃s,p= .s s:=by cases p<;>simp[X.bin] at hr;exact⟨_,rfl⟩
 obtain⟨s,rfl⟩:=hstr;obtain⟨y,hy,_⟩:=hpr.str;have hv1:a.eval x= .string y:=hy;refine Fc.value (v:= .string y) (w':=w) (by simp[execOp,ho,convert,run_underlying hs,run_underlying hd,hv1]) (.keep h ?_);simp only[Cw];exact⟨_,hp,by rw[<-hy];exact hpr⟩
def O4 {t:TypeId} {x:Operand} {f off:Nat} {ft:TypeId} {p q:SV} (ho:o.op= .fieldAddr t x f) (hf:S2 P t f=some (off,ft)) (hz:Cj P ft≠0) (h:Rel w0 Oe J U a.tmps w K hv O) (hr:Cw ⟨J,C5 w O,K,hv,U.m⟩ p (a.eval x))
  (hq:(∃s k,p= .bp s k∧q= .bp s (k+off))∨(∃y k,p= .ip y k∧q= .ip y (k+off))∨(∃s i k,p= .ap s i k∧q= .ap s i (k+off))):
  Fc P o a w (Ix w0 Oe J U a.tmps (Hz U) q):=by
 have run:∀ad,a.eval x= .pointer (some ad)->(execOp a.eval o).run P w= .ok (.value (.pointer (some (ad.add off)))) w:=by
  intro ad had;unfold S2 at hf;split at hf
  .rename_i fs hu;obtain⟨fl,hfl,he⟩:=Bs.1 hf;simp only[B4] at he;obtain⟨rfl,rfl⟩:=he;have hsz:(sizeOf fl.type).run P w= .ok (Cj P fl.type) w:=by
    cases hi:P.info? fl.type with
    |none=>exact absurd (by simp[Cj,hi]) hz
    |some i=>simp[sizeOf,typeInfo,hi,Cj]
   simp[execOp,ho,Instr.fieldAt,run_underlying hu,hfl,Instr.sureAddr,had,fieldPlace,hsz,hz]
  .cases hf
 rcases hq with⟨s,k,rfl,rfl⟩|⟨y,k,rfl,rfl⟩|⟨s,i,k,rfl,rfl⟩
 .simp only[Cw] at hr;refine Fc.value (run _ hr) (.keep h ?_);simp only[Cw,add_lit]
 .simp only[Cw] at hr;obtain⟨pv,hp,ad,el,had,h1,h2,h3⟩:=hr;refine Fc.value (run _ had) (.keep h ?_);simp only[Cw];refine⟨pv,hp,ad.add off,fun j=>el (off+j),rfl,fun j c hc=> ?_,fun j c hc=> ?_,fun j c hc=> ?_⟩
  .rw[Addr.add_add];exact h1 _ c (by rw[Cr] at hc ⊢;rw[<-G1];exact hc)
  .exact h2 _ c (by rw[Cr] at hc ⊢;rw[<-G1];exact hc)
  .exact h3 _ c (by rw[Cr] at hc ⊢;rw[<-G1];exact hc)
 .simp only[Cw] at hr;obtain⟨hnap,ee,sz,xx,ro,xs,kk,iv,g1,g2,g3,g4,g5,had⟩:=hr;refine Fc.value (run _ had) (.keep h ?_);simp only[Cw];exact⟨hnap,ee,sz,xx,ro,xs,kk,iv,g1,g2,g3,g4,g5,by rw[add_lit,G1]⟩
def M8 {t:TypeId} {x:Operand} {f off:Nat} {ft:TypeId} {p q:SV} (ho:o.op= .fieldAddr t x f) (hf:S2 P t f=some (off,ft)) (hz:Cj P ft≠0) (h:Rel w0 Oe J U a.tmps w K hv O) (hG:GOk J G) (hx:opd P U G 0 x=some p)
  (hq:(∃s k,p= .bp s k∧q= .bp s (k+off))∨(∃y k,p= .ip y k∧q= .ip y (k+off))∨(∃s i k,p= .ap s i k∧q= .ap s i (k+off))):
  Fc P o a w (Ix w0 Oe J U a.tmps (Hz U) q):=by
 have hr:=F9 (ds:=a.defers) (C:=⟨J,C5 w O,K,hv,U.m⟩) hG rfl hx h.tmps;exact O4 ho hf hz h hr hq
def En3 {C:Cx} {y:E} {v:Value} {q:PV} (hr:Cw C (.e y) v) (hd:(E.der y).ev C.J=some q):Cw C (.ip (.der y) 0) v:=by simp only[Cw] at hr ⊢;obtain⟨p,hp,hpr⟩:=hr;refine⟨q,hd,?_⟩;simp only[E.ev,hp,B0] at hd;cases p<;>simp only[xz,Bn,reduceCtorEq] at hd;subst hd;exact hpr.ptr
def X3 {t:TypeId} {x:Operand} {f off:Nat} {ft:TypeId} {y:E} (ho:o.op= .fieldAddr t x f) (hf:S2 P t f=some (off,ft)) (hz:Cj P ft≠0) (h:Rel w0 Oe J U a.tmps w K hv O) (hG:GOk J G) (hx:opd P U G 0 x=some (.e y)) (hk:Chk J [Hp G (.der y)]):
  Fc P o a w (Ix w0 Oe J U a.tmps (Hz U) (.ip (.der y) off)):=by
 have hr:=F9 (ds:=a.defers) (C:=⟨J,C5 w O,K,hv,U.m⟩) hG rfl hx h.tmps;obtain⟨q,hq⟩:=hk.g1 hG;exact O4 ho hf hz h (En3 hr hq) (.inr (.inl ⟨_,0,rfl,by rw[Ig]⟩))
def Bj2 {x:Operand} {i:Nat} {xs:List SV} {v:SV} (ho:o.op= .extract x i) (h:Rel w0 Oe J U a.tmps w K hv O) (hG:GOk J G) (hx:opd P U G 0 x=some (.tup xs)) (hi:xs[i]? =some v):
  Fc P o a w (Ix w0 Oe J U a.tmps (Hz U) v):=by
 have hr:=F9 (ds:=a.defers) (C:=⟨J,C5 w O,K,hv,U.m⟩) hG rfl hx h.tmps;simp only[Cw] at hr;obtain⟨vs,hvs,hr⟩:=hr;have hvs':a.eval x= .tuple vs:=hvs;obtain⟨u,hu,hru⟩:=hr.get i v hi;have hu':vs[i]? =some u:=by rw[<-B9];exact hu
 exact Fc.value (v:=u) (w':=w) (by simp[execOp,ho,Instr.extract,hvs',hu']) (.keep h hru)
def uq {f:FuncId} {first captured:Array Operand} {cs:List SV} (ho:o.op= .makeFunc (.func f) first captured) (hf:first.isEmpty=true) (h:Rel w0 Oe J U a.tmps w K hv O) (hG:GOk J G) (hx:args P U G captured.toList []=some cs):
  Fc P o a w (Ix w0 Oe J U a.tmps (Hz U) (.clo f cs)):=by
 have hr:=Xh (ds:=a.defers) (C:=⟨J,C5 w O,K,hv,U.m⟩) hG rfl h.tmps hx;have hf':first= #[]:=by simpa using hf
 refine Fc.value (v:= .func (.func f) #[] (captured.map a.eval)) (w':=w) (by simp[execOp,ho,Instr.makeFunc,hf']) (.keep h ?_);simp only[Cw];exact⟨_,rfl,by simpa using hr⟩
def Kf {x:Operand} {p:SV} (ho:o.op= .nilCheck x) (h:Rel w0 Oe J U a.tmps w K hv O) (hG:GOk J G) (hx:opd P U G 0 x=some p)
  (hp:(∃y,p= .e y∧Chk J [Hp G (.scal y)])∨(∃s k,p= .bp s k)∨(∃y k,p= .ip y k)∨(∃s i k,p= .ap s i k)∨∃g cs,p= .clo g cs):Fc P o a w (Ix w0 Oe J U a.tmps (Hz U) p):=by
 have hr:=F9 (ds:=a.defers) (C:=⟨J,C5 w O,K,hv,U.m⟩) hG rfl hx h.tmps;have e:a.eval=(Act.mk a.tmps a.defers).eval:=rfl;rw[<-e] at hr;refine Fc.value (v:=a.eval x) (w':=w) ?_ (.keep h hr);rcases hp with⟨y,rfl,hk⟩|⟨s,k,rfl⟩|⟨y,k,rfl⟩|⟨s,i,k,rfl⟩|⟨g,cs,rfl⟩
 .obtain⟨r,hr1⟩:=hk.g1 hG;simp only[Cw] at hr;obtain⟨q,hq,hqr⟩:=hr;simp only[E.ev,hq,B0] at hr1;split at hr1
  .rename_i hs;have hv1:a.eval x=(Act.mk a.tmps a.defers).eval x:=rfl;generalize hu:a.eval x=u at hqr;cases hqr<;>first|(simp[PV.scal] at hs;done)|simp[execOp,ho,hu]
  .cases hr1
 .simp only[Cw] at hr;simp[execOp,ho,hr]
 .simp only[Cw] at hr;obtain⟨q,_,ad,el,had,_⟩:=hr;simp[execOp,ho,had]
 .simp only[Cw] at hr;obtain⟨_,_,_,_,_,_,_,_,_,_,_,_,_,had⟩:=hr;simp[execOp,ho,had]
 .simp only[Cw] at hr;obtain⟨cv,had,_⟩:=hr;simp[execOp,ho,had]
def d6 {x i:E} {sz:Nat} {xs:List PV} {k:IntKind} {iv:Int} (hx:x.ev J=some (.l sz xs)) (hi:i.ev J=some (.i k iv)) (h0:0<=iv) (hlt:iv.toNat<xs.length) (hm:xs.length<=maxLen)
  (hr:∃r,(u9 x i).ev J=some r):iv.toNat=xs.length - 1:=by
 obtain⟨r,hr⟩:=hr;simp only[maxLen] at hm;simp only[u9,Gd2,E.ev,hx,hi,B0,H7,X.bin,Gd,if_true] at hr;rw[IntWalk.i64_in _ ⟨by omega,by omega⟩] at hr;by_cases hkk:k= .i64
 .subst hkk;simp only[if_true,B0] at hr;by_cases hn:iv=(xs.length:Int) - 1
  .omega
  .rw[show (iv==(xs.length:Int) - 1)=false by simpa using hn] at hr;simp[PV.scal] at hr
 .simp[hkk] at hr
def nt {C:Cx} {ro:Ro} {t:TypeId} {off n j sz k:Nat} {sv:SV} {vs:List Value} (h:Ab7 P ro t off n=some (j,sv)) (hr:Hr C sz k vs ro.lk) (hk:0<k):
  j<n∧∃u,vs[(k - 1)*sz+(off+j)]? =some u∧Cw C sv u:=by
 unfold Ab7 at h;split at h
 .rename_i lo q hl;split at h
  .rename_i hle;simp only[Bn,B4] at h;obtain⟨rfl,rfl⟩:=h;rw[hl] at hr;have hr':=hr hk;rw[show off+(lo - off)=lo by omega];refine⟨by omega,_,hr',?_⟩;cases q<;>simp only[Cw]
  .cases h
 .cases h
def En0 {D:Type}:∀{l:List D} {j:Nat} {u:D},l[j]? =some u->l.set j u=l
 |x::l,0,u,h=>by simp at h;subst h;rfl
 |x::l,j+1,u,h=>by simp only[List.set_cons_succ];rw[En0 (by simpa using h)]
def Ab6 {t:TypeId} {p sv:SV} {v0:Value} {tm:Array Value} (h:Rel w0 Oe J U tm w K hv O) (hG:GOk J G) (hr:Cw ⟨J,C5 w O,K,hv,U.m⟩ p v0) (hne:∀y,p≠ .e y) (hl:Qg P U G t p=some (ws,sv)) (hk:Chk J ws):
  ∃ad v,v0= .pointer (some ad)∧(loadVar t ad).run P w= .ok v w∧Cw ⟨J,C5 w O,K,hv,U.m⟩ sv v:=by
 have fin:∀ad v,v0= .pointer (some ad)->(loadVar t ad).run P w= .ok v w->Cw ⟨J,C5 w O,K,hv,U.m⟩ sv v->∃ad v,v0= .pointer (some ad)∧(loadVar t ad).run P w= .ok v w∧Cw ⟨J,C5 w O,K,hv,U.m⟩ sv v:=fun ad v a b c=>⟨ad,v,a,b,c⟩;unfold Qg at hl;split at hl
 .cases hl
 .rename_i hun;have hun':(P.underlying t).isSome=true:=by cases hh:P.underlying t<;>simp_all
  split at hl
  .rename_i s off;simp only[Cw] at hr;split at hl
   .rename_i cs ro hb;obtain⟨_,_,vs,T,g3,g4,g5,_⟩:=h.mem s _ hb;split at hl
    .rename_i hag;dsimp only at hl;split at hl
     .rename_i hle;simp only[Bn,B4] at hl;obtain⟨rfl,rfl⟩:=hl;have hlen:=g5.length;have hsub:Cd ⟨J,C5 w O,K,hv,U.m⟩ ((cs.drop off).take (Cj P t)) ((vs.toList.drop off).take (Cj P t)):=by
       refine Cd.mk (by simp[hlen]) fun j y u hy hu=> ?_;rw[Cp] at hy hu;split at hy
       .rename_i hj;rw[if_pos hj] at hu;rw[Cr] at hy hu;obtain⟨u',hu',hr'⟩:=g5.get _ y hy;rw[hu] at hu';injection hu' with hu';subst hu';exact hr'
       .cases hy
      refine fin _ _ hr (L4 w (us:=(vs.toList.drop off).take (Cj P t)) hag (by simp at hlen ⊢;omega) fun j u hu=> ?_) (Uw (by simpa using hsub) fun u hu=> ?_)
      .rw[Cp] at hu;split at hu
       .rw[Cr,B9] at hu;rw[add_lit,cell_of_row w (K s) (off+j) vs T (0,0) g3];exact hu
       .cases hu
      .exact g4 u (Fx (Fw (by simpa using hu)))
     .cases hl
    .rename_i hag;obtain⟨c,hc,he⟩:=Bs.1 hl;simp only[B4] at he;obtain⟨rfl,rfl⟩:=he;obtain⟨u,hu,hru⟩:=g5.get off c hc;refine fin _ u hr (Pb w (by simpa using hag) hun' ?_) hru;rw[cell_of_row w (K s) off vs T (0,0) g3,<-B9];exact hu
   .cases hl
  .rename_i y off;simp only[Cw] at hr;obtain⟨p,hp,ad,el,had,h1,h2,h3⟩:=hr;have hp':y.ev J=some p:=hp;have cell:∀j c,(p.cells.drop off)[j]? =some c->w.cell? (ad.add j)=some (el j):=fun j c hc=>(M1 (h1 j c hc)).1;split at hl
   .rename_i hag;simp only[Bn,B4] at hl;obtain⟨rfl,rfl⟩:=hl;obtain⟨r,hr⟩:=hk.g1 hG;have hr':=hr;simp only[E.ev,hp',B0] at hr';split at hr'
    .rename_i hle;injection hr' with hr';have each:∀j,j<Cj P t->∃c,(p.cells.drop off)[j]? =some c:=fun j hj=>⟨_,B3 (by simp;omega)⟩;refine fin ad _ had (L4 w (us:=(List.range (Cj P t)).map el) hag (by simp) fun j u hu=> ?_) ?_
     .simp only[Dk,Bs] at hu;obtain⟨k,hk',rfl⟩:=hu;have hj:j<Cj P t:=by have:=(Br.1 hk').1;simpa using this
      rw[Dn hj] at hk';injection hk' with hk';subst hk';obtain⟨c,hc⟩:=each j hj;exact cell j c hc
     .simp only[Cw];refine⟨r,hr,?_⟩;rw[<-hr'];refine Rep.agg_mk (by simp;omega) (fun u hu=> ?_) fun j c u hc hu=> ?_
      .simp only[Dm0,Ih] at hu;obtain⟨k,hk',rfl⟩:=hu;obtain⟨c,hc⟩:=each k hk';exact h2 k c hc
      .rw[Cp] at hc;split at hc
       .rename_i hj;simp only[Dk,Bs,Dn hj] at hu;obtain⟨k,hk',rfl⟩:=hu;injection hk' with hk';subst hk';exact h3 j c hc
       .cases hc
    .cases hr'
   .rename_i hag;simp only[Bn,B4] at hl;obtain⟨rfl,rfl⟩:=hl;obtain⟨r,hr⟩:=hk.g1 hG;have hr':=hr;simp only[E.ev,hp',B0] at hr';have hd:(p.cells.drop off)[0]? =some r:=by rw[Cr];exact hr'
    refine fin ad (el 0) had (Pb w (by simpa using hag) hun' ?_) ?_
    .have:=cell 0 r hd;simpa [Go.Addr.add] using this
    .simp only[Cw];exact⟨r,hr,h3 0 r hd⟩
  .rename_i s i off;simp only[Cw] at hr;obtain⟨_,ee,sz,y,ro,xs,kk,iv,g1,g2,g3,g4,g5,had⟩:=hr;split at hl
   .rename_i e' sz' y' ro' hb;have g1':mget U.m s=some (.arr ee sz y ro):=g1;rw[hb] at g1';injection g1' with g1';injection g1' with q1 q2 q3 q4;subst q1;subst q2;subst q3;subst q4;have g2':y'.ev J=some (.l sz' xs):=g2;have g3':i.ev J=some (.i kk iv):=g3;obtain⟨_,xs',vs,k1,k2,k3,k4,k5⟩:=h.mem s _ hb;have k1':y'.ev J=some (.l sz' xs'):=k1;rw[g2'] at k1';injection k1' with k1';injection k1' with _ k1';subst k1';have hxi:xs[iv.toNat]? =some (xs[iv.toNat]'g5):=B3 g5;obtain⟨m1,m2⟩:=k3 _ _ hxi;have hidx:(E.idx sz' y' i).ev J=some (xs[iv.toNat]'g5):=by simp only[E.ev,g2',g3',B0,Lg,if_true,if_pos g4];exact hxi
    have hblk:∃cap,0<cap∧hv s= .slice (some ⟨K s,0,none⟩) xs.length cap:=by
     rcases k2.2 with⟨_,_,hn⟩|⟨g,cap,cur,e1,e1c,_⟩
     .omega
     .have e1':hv s= .slice (some ⟨g,0,none⟩) xs.length cap:=e1;have:=(k4 g (by show Dd (hv s)=_;rw[e1'];simp only[Dd,if_neg (show¬cap=0 by omega)])).1;have this':g=K s:=this;exact⟨cap,by omega,by rw[e1',this']⟩
    obtain⟨cap,hcp,hcap⟩:=hblk;have cell:∀j u,vs[j]? =some u->w.cell? ⟨K s,j,none⟩=some u:=by intro j u hu;have:=k2.cells (g:=K s) (by have:hv s=_:=hcap;show Dd (hv s)=_;rw[this];simp only[Dd,if_neg (show¬cap=0 by omega)]) j u hu;rwa[add_lit,Ig] at this
    have hmax:xs.length<=maxLen:=by
     rcases k2.2 with⟨_,_,hn⟩|⟨g,cap,cur,_,_,_,_,e4,e5,_⟩
     .omega
     .exact Ep e4 e5
    split at hl
    .rename_i hag;have main:∀r,(E.sub off (Cj P t) (.idx sz' y' i)).ev J=some r->∃us:List Value,(loadVar t ⟨K s,iv.toNat*sz'+off,none⟩).run P w= .ok (.agg us.toArray) w∧Rep (C5 w O) r (.agg us.toArray)∧
       (∃cs,r= .a cs∧cs.length=Cj P t)∧(∀u,u∈us->One u)∧us.length=Cj P t∧∀j,j<Cj P t->us[j]? =vs[iv.toNat*sz'+(off+j)]? :=by
      intro r hr';rw[E.ev,hidx] at hr';simp only[B0] at hr';split at hr'
      .rename_i hle;injection hr' with hr';have each:∀j,j<Cj P t->∃c u,((xs[iv.toNat]'g5).cells.drop off)[j]? =some c∧vs[iv.toNat*sz'+(off+j)]? =some u∧One u∧Rep (C5 w O) c u:=by intro j hj;have hc:((xs[iv.toNat]'g5).cells)[off+j]? =some _:=B3 (by omega);obtain⟨u,u1,u2,u3⟩:=m2 _ _ hc;exact⟨_,u,by rw[Cr];exact hc,u1,u2,u3⟩
       have hvl:∀j,j<Cj P t->vs[iv.toNat*sz'+(off+j)]? =some (vs.getD (iv.toNat*sz'+(off+j)) undef):=by intro j hj;obtain⟨c,u,_,hu,_⟩:=each j hj;simp[C4,hu]
       have hone:∀u,u∈(List.range (Cj P t)).map (fun j=>vs.getD (iv.toNat*sz'+(off+j)) undef)->One u:=fun u hu=>by simp only[Dm0,Ih] at hu;obtain⟨k,hk',rfl⟩:=hu;obtain⟨c,u,_,hu,h1,_⟩:=each k hk';simp only[C4,hu,Ez];exact h1
       refine⟨(List.range (Cj P t)).map fun j=>vs.getD (iv.toNat*sz'+(off+j)) undef,L4 w hag (by simp) fun j u hu=> ?_,?_,⟨_,hr'.symm,by simp;omega⟩,hone,by simp,fun j hj=> ?_⟩
       .simp only[Dk,Bs] at hu;obtain⟨k,hk',rfl⟩:=hu;have hj:j<Cj P t:=by have:=(Br.1 hk').1;simpa using this
        rw[Dn hj] at hk';injection hk' with hk';subst hk';rw[add_lit,G1];exact cell _ _ (hvl j hj)
       .rw[<-hr'];refine Rep.agg_mk (by simp;omega) (by simpa using hone) fun j c u hc hu=> ?_;rw[Cp] at hc;split at hc
        .rename_i hj;simp only[Dk,Bs,Dn hj] at hu;obtain⟨k,hk',rfl⟩:=hu;injection hk' with hk';subst hk';obtain⟨c',u,hc',hu,_,h3⟩:=each j hj;rw[hc] at hc';injection hc' with hc';subst hc';simp only[C4,hu,Ez];exact h3
        .cases hc
       .rw[Dk,Dn hj,hvl j hj];rfl
      .cases hr'
     split at hl
     .rename_i j sv' hlk;simp only[Bn,B4] at hl;obtain⟨rfl,rfl⟩:=hl;obtain⟨r,hr⟩:=Chk.g hk hG (.head _);have hlast:=d6 g2' g3' g4 g5 hmax (Chk.g hk hG (.tail _ (.head _)));obtain⟨us,m1,m2',⟨cs,rfl,m3⟩,m4,m5,m6⟩:=main r hr;refine fin _ _ had m1 ?_;simp only[Cw];have hsp:Cd ⟨J,C5 w O,K,hv,U.m⟩ (Vb (Cj P t) (.sub off (Cj P t) (.idx sz' y' i))) us:=by rw[<-m3];rw[<-m3] at hr;have:=split_ok (C:=⟨J,C5 w O,K,hv,U.m⟩) (vs:=us.toArray) hr (by simp[m5,m3]) fun j c v hc hv=>(m2'.cells (by simp)).2.2 j c v hc (by simpa [Value.cells] using hv);simpa using this
      have hj:j<Cj P t∧∃u,us[j]? =some u∧Cw ⟨J,C5 w O,K,hv,U.m⟩ sv' u:=by obtain⟨q1,u,q2,q3⟩:=nt hlk k5 (by omega);refine⟨q1,u,?_,q3⟩;rw[m6 j q1,hlast];exact q2
      obtain⟨_,u,hu,hsv⟩:=hj;refine⟨_,rfl,by simpa using m4,?_⟩;have:=hsp.set j hsv;rw[En0 hu] at this;simpa using this
     .simp only[Bn,B4] at hl;obtain⟨rfl,rfl⟩:=hl;obtain⟨r,hr⟩:=hk.g1 hG;obtain⟨us,m1,m2',_⟩:=main r hr;refine fin _ _ had m1 ?_;simp only[Cw];exact⟨r,hr,m2'⟩
    .rename_i hag;have main:∀r,(E.proj off (.idx sz' y' i)).ev J=some r->∃u,vs[iv.toNat*sz'+off]? =some u∧Rep (C5 w O) r u∧(loadVar t ⟨K s,iv.toNat*sz'+off,none⟩).run P w= .ok u w:=by intro r hr';rw[E.ev,hidx] at hr';simp only[B0] at hr';obtain⟨u,u1,u2,u3⟩:=m2 _ _ hr';exact⟨u,u1,u3,Pb w (by simpa using hag) hun' (cell _ _ u1)⟩
     split at hl
     .rename_i j sv' hlk;simp only[Bn,B4] at hl;obtain⟨rfl,rfl⟩:=hl;obtain⟨r,hr⟩:=Chk.g hk hG (.head _);have hlast:=d6 g2' g3' g4 g5 hmax (Chk.g hk hG (.tail _ (.head _)));obtain⟨u,u1,u2,u3⟩:=main r hr;refine fin _ u had u3 ?_;obtain⟨q1,u',q2,q3⟩:=nt hlk k5 (by omega);obtain rfl:j=0:=by omega
      rw[<-hlast,G6,u1] at q2;injection q2 with q2;subst q2;exact q3
     .simp only[Bn,B4] at hl;obtain⟨rfl,rfl⟩:=hl;obtain⟨r,hr⟩:=hk.g1 hG;obtain⟨u,u1,u2,u3⟩:=main r hr;refine fin _ u had u3 ?_;simp only[Cw];exact⟨r,hr,u2⟩
   .cases hl
  .exact absurd rfl (hne _)
  .cases hl
def Cr0 {t:TypeId} {p sv:SV} {v0:Value} {tm:Array Value} (h:Rel w0 Oe J U tm w K hv O) (hG:GOk J G) (hr:Cw ⟨J,C5 w O,K,hv,U.m⟩ p v0) (hl:Qg P U G t p=some (ws,sv)) (hk:Chk J ws):
  ∃ad v,v0= .pointer (some ad)∧(loadVar t ad).run P w= .ok v w∧Cw ⟨J,C5 w O,K,hv,U.m⟩ sv v:=by
 by_cases hp:∃y,p= .e y
 .obtain⟨y,rfl⟩:=hp;have hl':Qg P U G t (.ip (.der y) 0)=some (ws,sv):=hl;refine Ab6 h hG (En3 (q:=((E.der y).ev J).getD .u) hr ?_) (fun y e=>by cases e) hl' hk;have key:∀z:E,(∀r,z.ev J=some r->((E.der y).ev J).isSome=true)->Chk J [Hp G z]->(E.der y).ev J=some (((E.der y).ev J).getD .u):=by intro z hz hk;obtain⟨r,hr⟩:=hk.g1 hG;have:=hz r hr;obtain⟨q,hq⟩:=Dt.1 this;rw[hq];rfl
  unfold Qg at hl;split at hl
  .cases hl
  .dsimp only at hl;split at hl
   .simp only[Bn,B4] at hl;obtain⟨rfl,_⟩:=hl;refine key _ (fun r hr=> ?_) hk;simp only[E.ev] at hr ⊢;obtain⟨q,hq,_⟩:=Bl.1 hr;rw[hq];rfl
   .simp only[Bn,B4] at hl;obtain⟨rfl,_⟩:=hl;refine key _ (fun r hr=> ?_) hk;simp only[E.ev] at hr ⊢;obtain⟨q,hq,_⟩:=Bl.1 hr;rw[hq];rfl
 .exact Ab6 h hG hr (fun y e=>hp ⟨y,e⟩) hl hk
def Fr0 {t:TypeId} {x:Operand} {p sv:SV} (ho:o.op= .load t x) (h:Rel w0 Oe J U a.tmps w K hv O) (hG:GOk J G) (hx:opd P U G 0 x=some p) (hl:Qg P U G t p=some (ws,sv)) (hk:Chk J ws):
  Fc P o a w (Ix w0 Oe J U a.tmps (Hz U) sv):=by
 have hr:=F9 (ds:=a.defers) (C:=⟨J,C5 w O,K,hv,U.m⟩) hG rfl hx h.tmps;obtain⟨ad,v,had,hlv,hrv⟩:=Cr0 h hG hr hl hk;have had':a.eval x= .pointer (some ad):=had;exact Fc.value (v:=v) (w':=w) (by simp[execOp,ho,Instr.loadAt,Instr.sureAddr,had',hlv]) (.keep h hrv)
end
section
variable {P:Program} {w0:Fr} {Oe:Nat->Option Nat} {J:List PV} {U:St} {a:Act} {w:World} {K:Nat->Nat} {hv:Nat->Value} {O:Nat->Option Nat} {G:Option E} {o:Oper} {ws:List W}
def Rel.oneH (h:Rel w0 Oe J U a.tmps w K hv O):∀s e sz x ro,mget U.m s=some (.arr e sz x ro)->One (hv s):=by
 intro s e sz x ro hb;obtain⟨_,xs,vs,_,k2,_⟩:=h.mem s _ hb;rcases k2.2 with⟨_,hn,_⟩|⟨g,cap,cur,e1,_⟩
 .have:hv s=_:=hn;rw[this];rfl
 .have:hv s=_:=e1;rw[this];rfl
def d3 {cs:List SV} (h:X4 cs=true) {j:Nat} {x:SV} (hx:cs[j]? =some x) (s T:Nat):x≠ .slf s T:=by intro e;subst e;simp only[X4,Ds] at h;have:=h _ (B6 hx);simp[SV.isSlf] at this
def Cv2 {s T:Nat}:∀(vs:List SV) (cs:List SV) (off:Nat),X4 vs=true->(Gs cs off vs)[0]? =some (.slf s T)->cs[0]? =some (.slf s T)
 |[],cs,off,_,h=>h
 |v::vs,cs,off,hn,h=>by
  have hn':X4 vs=true:=by simp only[X4,Mb,Bt] at hn ⊢;exact hn.2
  have h1:=Cv2 vs (cs.set off v) (off+1) hn' h;rw[E4] at h1;split at h1
  .split at h1
   .exact absurd (Option.some.inj h1) (d3 hn (j:=0) rfl s T)
   .cases h1
  .exact h1
def Eq2 {t:TypeId} {cs:List SV} {s:Nat} (ho:o.op= .alloc t) (h:Rel w0 Oe J U a.tmps w K hv O) (hz:Jd P t=some cs) (hns:X4 cs=true):
  Fc P o a w (Ix w0 Oe J U a.tmps (H0 U.m U.n s (.box (if Ez8 P t then cs.set 0 (.slf s t) else cs) false)) (.bp s 0)):=by
 generalize hcs':(if Ez8 P t then cs.set 0 (.slf s t) else cs)=cs';obtain⟨i,z,hi,hzz,hsz,h1,_⟩:=H2 (C:=⟨J,C5 w O,K,hv,U.m⟩) hz;obtain⟨β',O',hβ,hrel⟩:=h.alloc (s:=s) (b:= .box cs' false) (n:=U.n) (.cells z.cells t) fun β' O' hb _ hO _=>by
  obtain⟨i',z',hi',hzz',_,_,hr⟩:=H2 (C:=⟨J,C5 (w.alloc (.cells z.cells t)) O',β',hv,(H0 U.m U.n s (.box cs' false)).m⟩) hz;rw[hi] at hi';injection hi' with hi';subst hi';rw[hzz] at hzz';injection hzz' with hzz';subst hzz';refine⟨by show w0.ok (β' s);rw[hb];exact .inl h.bel.size,fun _=>by show O' (β' s)=_;rw[hb];exact hO,z.cells,t,?_,h1,?_,?_⟩
  .show (w.alloc _).heap[β' s]? =_;rw[hb];exact heap_alloc_new w _
  .generalize (Cx.mk J (C5 (w.alloc (.cells z.cells t)) O') β' hv (H0 U.m U.n s (.box cs' false)).m)=C' at hr;rw[<-hcs'];split
   .rename_i hbl;refine Cd.mk (by simp[hr.length]) fun j y u hy hu=> ?_;rw[E4] at hy;by_cases h0:0=j
    .subst h0;simp only[if_true] at hy;split at hy
     .injection hy with hy;subst hy;simp only[Ez8,hi,hzz,Bt] at hbl;have hbl2:=hbl.2;split at hbl2
      .rename_i hz0;rw[B9,hz0] at hu;injection hu with hu;subst hu;simp only[Cw];exact .inl trivial
      .cases hbl2
     .cases hy
    .rw[if_neg h0] at hy;obtain⟨v,hv1,hv2⟩:=hr.get j y hy;rw[hu] at hv1;injection hv1 with hv1;subst hv1;exact hv2
   .exact hr
  .rw[<-hcs'];intro s' T' hc;split at hc
   .rw[E4] at hc;simp only[if_true] at hc;split at hc
    .injection hc with hc;injection hc
    .cases hc
   .exact absurd rfl (d3 hns hc s' T')
 refine Fc.value (v:= .pointer (some ⟨w.heap.size,0,none⟩)) (w':=w.alloc (.cells z.cells t)) ?_ ⟨β',hv,O',hrel,?_⟩
 .simp[execOp,ho,Instr.alloc,zeroValue,typeInfo,hi,hzz,newVar,newRow]
 .simp only[Cw,hβ]
def Eh4 {M':Vw} {β':Nat->Nat} {hv':Nat->Value} {m:List (Nat×Blk)} {M:Vw} {s n:Nat} {b:Blk} (hβ:∀s',s'≠s->β' s'=K s') (hhv:∀s',s'≠s->hv' s'=hv s'):
  ∀s',s'≠s->(Cx.mk J M K hv m).At ⟨J,M',β',hv',(H0 m n s b).m⟩ s':=fun s' hs=>
 ⟨hβ s' hs,hhv s' hs,fun e sz x ro xs h1 h2=>⟨e,x,ro.kill s,xs,by have:mget (H0 m n s b).m s'=(mget m s').map (Blk.kill s):=L3 ⟨[],m,n⟩ hs b;show mget (H0 m n s b).m s'=_;have h1':mget m s'=some (.arr e sz x ro):=h1;rw[this,h1'];rfl,h2,B7 _⟩⟩
def Hg2 {t:TypeId} {x:Operand} {sv:SV} {cs:List SV} {s:Nat} {ro:Bool} (ho:o.op= .box t x) (h:Rel w0 Oe J U a.tmps w K hv O) (hG:GOk J G) (hx:opd P U G t x=some sv) (hc:cellsOf P U.m t sv=some (ws,cs)) (hns:X4 cs=true) (hk:Chk J ws):
  Fc P o a w (Ix w0 Oe J U a.tmps (H0 U.m U.n s (.box (SV.kills s cs) ro)) (.bp s 0)):=by
 have hr:=F9 (ds:=a.defers) (C:=⟨J,C5 w O,K,hv,U.m⟩) hG rfl hx h.tmps;have e:a.eval=(Act.mk a.tmps a.defers).eval:=rfl;rw[<-e] at hr;obtain⟨_,_,h1,h2⟩:=J9 (C:=⟨J,C5 w O,K,hv,U.m⟩) rfl hc hk h.oneH hr;obtain⟨β',O',hβ,hrel⟩:=h.alloc (s:=s) (b:= .box (SV.kills s cs) ro) (n:=U.n) (.cells (a.eval x).cells t) fun β' O' hb hbn hO hM=>by
  refine⟨by show w0.ok (β' s);rw[hb];exact .inl h.bel.size,fun _=>by show O' (β' s)=_;rw[hb];exact hO,(a.eval x).cells,t,?_,h1,?_,fun s' T' hh=>absurd rfl (d3 hns (kj hh) s' T')⟩
  .show (w.alloc _).heap[β' s]? =_;rw[hb];exact heap_alloc_new w _
  .exact Cd.kill (C:=⟨J,C5 w O,K,hv,U.m⟩) (C':=⟨J,C5 (w.alloc (.cells (a.eval x).cells t)) O',β',hv,(H0 U.m U.n s (.box (SV.kills s cs) ro)).m⟩) ⟨fun _ _ h=>h,hM⟩ (Eh4 hbn fun _ _=>rfl) _ _ h2
 refine Fc.value (v:= .pointer (some ⟨w.heap.size,0,none⟩)) (w':=w.alloc (.cells (a.eval x).cells t)) ?_ ⟨β',hv,O',hrel,?_⟩
 .simp[execOp,ho,Instr.box,newVar,newRow]
 .simp only[Cw,hβ]
def Gw {t:TypeId} {n:Nat} (hn:Cj P t=n) (h0:n≠0):(sizeOf t).run P w= .ok n w:=by
 cases hi:P.info? t with
 |none=>exact absurd (by simp[<-hn,Cj,hi]) h0
 |some i=>simp[sizeOf,typeInfo,hi,<-hn,Cj]
def j6 {t:TypeId} {x y:Operand} {g off:Nat} {cur:Array Value} {T:TypeId} {v:Value} (ho:o.op= .store t x y) (hx:a.eval x= .pointer (some ⟨g,off,none⟩)) (hy:a.eval y=v) (hg:w.heap[g]? =some (.cells cur T (0,0)))
  (hsz:v.cells.size=Cj P t) (h0:Cj P t≠0) (h1:∀u,u∈v.cells.toList->One u) (hle:off+v.cells.size<=cur.size):
  (execOp a.eval o).run P w= .ok .skip (w.setRow g (cur.toList.take off++v.cells.toList++cur.toList.drop (off+v.cells.size)).toArray):=by
 have hst:=run_storeCells_at P g off T v.cells.toList 0 cur w hg (by simpa using hle) h1;simp only[G6,Dv] at hst;simp only[execOp,ho,Instr.storeAt,Instr.sureAddr,hx,hy,storeVar,Sem.run_bind,Gw rfl h0,Result.andThen_ok,hsz,ne_eq,not_true_eq_false,if_false,Sem.run_pure];rw[hsz] at hst;rw[hst];rfl
def M4 {g:Nat} {w0:Fr} {w:World} (hb:Bel w0 w) (hBg:w0.ok g) (cs:Array Value):Bel w0 (w.setRow g cs):=
 hb.turn hBg rfl rfl rfl (B7 _) (by simp) fun k _ hk=>setRow_other w g k cs hk
def Qf {ss:List Nat} {m:List (Nat×Blk)} {s:Nat} (h:ss.contains s=false):mget (Mn ss m) s=mget m s:=by rw[Wd];cases mget m s<;>simp_all
def Cx6 {C C':Cx} {lk lk':Option (Nat×Option (Option Nat))} {off sz n iv:Nat} {vs:List SV} {Bz2 us us':List Value} {Q:Prop} (h:lk'=none∨V0 lk off vs=some (false,lk')∨V0 lk off vs=some (true,lk')∧Q)
  (hl:Hr C sz n us lk) (hq:Q->iv=n - 1) (hn:iv<n) (hc:Cd C' vs Bz2) (hoff:off+vs.length<=sz)
  (ho:∀p V,p<n*sz->p<iv*sz+off∨iv*sz+off+vs.length<=p->us[p]? =some V->us'[p]? =some V) (hi:∀k u,k<vs.length->Bz2[k]? =some u->us'[iv*sz+off+k]? =some u) (hlen:us.length=n*sz) (hh:C'.hv=C.hv):
  Hr C sz n us' lk':=by
 rcases h with rfl|h|⟨h,hQ⟩
 .trivial
 .unfold V0 at h;split at h
  .cases h
  .rename_i lo k;split at h
   .rename_i hlo;simp only[Bn,B4,true_and] at h;subst h;cases k with
    |none=>trivial
    |some t=>
     simp only[Hr] at hl ⊢;intro hn0;have hv:=hl hn0;have hlt:=(Br.1 hv).1;rw[hlen] at hlt;refine ho _ _ hlt ?_ hv;rcases Dl8 iv (n - 1) with hi'|hi'
     .have:(iv+1)*sz<=(n - 1)*sz:=C0 _ (by omega);rw[Dl,Gh] at this;omega
     .have:iv=n - 1:=by omega
      subst this;omega
   .split at h<;>simp at h
 .unfold V0 at h;have hiv:=hq hQ;split at h
  .cases h
  .rename_i lo k;split at h
   .simp at h
   .rename_i hlo;have fin:∀V,Bz2[lo - off]? =some V->us'[(n - 1)*sz+lo]? =some V:=fun V hV=>by have:=hi (lo - off) V (by omega) hV;rw[<-hiv,show iv*sz+lo=iv*sz+off+(lo - off) by omega];exact this
    split at h
    .rename_i s2 hvs;simp only[Bn,B4,true_and] at h;subst h;obtain⟨V,hV,hr⟩:=hc.get _ _ hvs;simp only[Cw] at hr;intro _;rw[fin V hV,hr,hh]
    .rename_i z hvs;simp only[Bn,B4,true_and] at h;subst h;obtain⟨V,hV,hr⟩:=hc.get _ _ hvs;simp only[Cw] at hr;intro _;rw[fin V hV,hr]
    .cases h
def Ek6 {t:TypeId} {x y:Operand} {p v:SV} {F:Eff} (ho:o.op= .store t x y) (h:Rel w0 Oe J U a.tmps w K hv O) (hG:GOk J G) (hx:opd P U G 0 x=some p) (hy:opd P U G t y=some v) (hs:s5 P U t p v=some (ws,F)) (hk:Chk J ws):
  Fc P o a w (Ix w0 Oe J U a.tmps F .und):=by
 have e:a.eval=(Act.mk a.tmps a.defers).eval:=rfl;have hr:=F9 (ds:=a.defers) (C:=⟨J,C5 w O,K,hv,U.m⟩) hG rfl hx h.tmps;have hrv:=F9 (ds:=a.defers) (C:=⟨J,C5 w O,K,hv,U.m⟩) hG rfl hy h.tmps;rw[<-e] at hr hrv;unfold s5 at hs;split at hs
 .cases hs
 .rename_i ws1 vs hc;split at hs
  .rename_i s off;split at hs
   .rename_i cs hb;split at hs
    .rename_i hle0;obtain⟨hle,hnsl⟩:=hle0;simp only[Bn,B4] at hs;obtain⟨rfl,rfl⟩:=hs;obtain⟨c1,c2,c3,c4⟩:=J9 (C:=⟨J,C5 w O,K,hv,U.m⟩) rfl hc hk h.oneH hrv;obtain⟨g1,g2,us,T,g3,g4,g5,g6⟩:=h.mem s _ hb;simp only[Cw] at hr;have hlen:=g5.length;have hlen':=c4.length;by_cases h0:Cj P t=0
     ·-- nothing is stored
      have hvs:vs=[]:=C1 (by omega);have hvc:(a.eval y).cells= #[]:=Array.eq_empty_of_size_eq_zero (by omega);have hti:∃i,P.info? t=some i:=by
       cases hi:P.info? t with
       |some i=>exact⟨i,rfl⟩
       |none=>
        exfalso;unfold cellsOf at hc;have hu:P.underlying t=none:=by simp[Program.underlying,hi]
        simp[Lr,hu,h0] at hc
      obtain⟨i,hi⟩:=hti;have hs0:i.size=0:=by simpa [Cj,hi] using h0
      refine .inr (.inl ⟨w,by simp[execOp,ho,Instr.storeAt,Instr.sureAddr,hr,storeVar,sizeOf,typeInfo,hi,hs0,hvc,storeCells],K,hv,O,?_,by simp only[Cw]⟩);subst hvs;exact h.put hb trivial (g2 rfl) h.bel rfl (fun _ _=>rfl) (fun e sz x ro xs hh=>by cases hh) ⟨g1,g2,us,T,g3,g4,(by
       refine Cd.le (C:=⟨J,C5 w O,K,hv,U.m⟩) (C':=⟨J,C5 w O,K,hv,Kj U.m s (.box (Gs cs off []) false)⟩) ⟨fun _ _ h=>h,Vw.Le.refl _⟩ (fun s'=>⟨rfl,rfl,fun e sz x ro xs h1 h2=> ?_⟩) _ _ g5;by_cases hss:s'=s
       .subst hss;have h1':mget U.m s'=some (.arr e sz x ro):=h1;rw[hb] at h1';cases h1'
       .exact⟨e,x,ro,xs,by show mget (Kj U.m s _) s'=_;rw[show mget (Kj U.m s (.box (Gs cs off []) false)) s'=mget U.m s' from Jk U hss _];exact h1,h2,B7 _⟩),g6⟩
     .have hsz':us.size=us.toList.length:=by simp
      refine .inr (.inl ⟨_,j6 (v:=a.eval y) ho hr rfl g3 c1 h0 c3 (by omega),K,hv,O,?_,by simp only[Cw]⟩);refine h.put hb trivial (g2 rfl) (M4 h.bel g1 _) (by simp) (fun c hc=>setRow_other w (K s) c _ hc) (fun e sz x ro xs hh=>by cases hh) ⟨g1,g2,_,T,setRow_heap w (K s) us _ T (0,0) g3,?_,?_,fun s' T' hh=>g6 s' T' (Cv2 _ _ _ hnsl hh)⟩
      .intro u hu;simp only[Dw] at hu;rcases hu with(hu|hu)|hu
       .exact g4 u (Fw hu)
       .exact c3 u hu
       .exact g4 u (Fx hu)
      .have hset:=Cd.setCells (off:=off) g5 c4 hle;have hM:(C5 w O).Le (C5 (w.setRow (K s) (us.toList.take off++(a.eval y).cells.toList++us.toList.drop (off+(a.eval y).cells.size)).toArray) O):=
        Ir (fun c _ hc=>setRow_other w (K s) c _ (fun e=>by subst e;exact absurd (hc 0 (g2 rfl)) (by omega))) (fun c _ lim hl=>⟨lim,hl,B7 _⟩) (fun c _ hn=>hn)
       rw[Dv] at hset;refine Cd.le (C:=⟨J,C5 w O,K,hv,U.m⟩) (C':=⟨J,_,K,hv,Kj U.m s (.box (Gs cs off vs) false)⟩) ⟨fun _ _ h=>h,hM⟩ (fun s'=>⟨rfl,rfl,fun e sz x ro xs h1 h2=> ?_⟩) _ _ hset;by_cases hss:s'=s
       .subst hss;have h1':mget U.m s'=some (.arr e sz x ro):=h1;rw[hb] at h1';cases h1'
       .exact⟨e,x,ro,xs,by show mget (Kj U.m s _) s'=_;rw[show mget (Kj U.m s (.box (Gs cs off vs) false)) s'=mget U.m s' from Jk U hss _];exact h1,h2,B7 _⟩
    .cases hs
   .cases hs
  .rename_i s i off;split at hs
   .rename_i ee sz xx lk es ss hb hts;split at hs
    .cases hs
    .rename_i hns;have hrl:∃lk',F=⟨Kj (Mn ss U.m) s (.arr ee sz (.set sz xx i off es) ⟨false,lk'⟩),U.n,none⟩∧W.chk (.set sz xx i off es)∈ws∧(∀x,x∈ws1->x∈ws)∧
       (lk'=none∨V0 lk off vs=some (false,lk')∨V0 lk off vs=some (true,lk')∧W.chk (u9 xx i)∈ws):=by
      split at hs<;>
      .rename_i hrl;simp only[Bn,B4] at hs;obtain⟨rfl,rfl⟩:=hs;exact⟨_,rfl,by simp,fun x hx=>F3 _ hx,by simp[hrl]⟩
     obtain⟨lk',rfl,hset,hsub,hlk'⟩:=hrl;have hns':ss.contains s=false:=by simpa using hns
     obtain⟨c1,c2,c3,c4⟩:=J9 (C:=⟨J,C5 w O,K,hv,U.m⟩) rfl hc (fun x hx=>hk x (hsub _ hx)) h.oneH hrv;obtain⟨q,hq⟩:=hk _ hset;obtain⟨O',hfr,hM,hop,hon⟩:=h.frz ss (n:=U.n);obtain⟨ps,k1,k2,k3⟩:=U9 h hM hts c4 (fun q hq=>hop q (by simpa using hq));have hb':mget (Mn ss U.m) s=some (.arr ee sz xx ⟨false,lk⟩):=by rw[Qf hns'];exact hb
     obtain⟨h0,xs,us,g1,g2,g3,g4,g5⟩:=hfr.mem s _ hb';have g1':xx.ev J=some (.l sz xs):=g1;simp only[Cw] at hr;obtain⟨_,ee',sz',xx',ro',xs',kk,iv,r1,r2,r3,r4,r5,had⟩:=hr;have r1':mget U.m s=some (.arr ee' sz' xx' ro'):=r1;rw[hb] at r1';injection r1' with r1';injection r1' with q1 q2 q3 q4;subst q1;subst q2;subst q3;subst q4;have r2':xx.ev J=some (.l sz xs'):=r2;rw[g1'] at r2';injection r2' with r2';injection r2' with _ r2';subst r2';have r3':i.ev J=some (.i kk iv):=r3;have hpl:ps.length=vs.length:=by rw[k2];exact(c4.length).symm
     have hq':=hq;simp only[E.ev,g1',r3',k1,B0,Pw,true_and,if_pos r4] at hq';have hxi:xs[iv.toNat]? =some (xs[iv.toNat]'r5):=B3 r5;rw[hxi] at hq';simp only[B0,Bs] at hq';obtain⟨y',hy',rfl⟩:=hq';obtain⟨m1,m2⟩:=g3 _ _ hxi;have hel:y'.cells.length=sz∧off+ps.length<=sz∧∀(j:Nat) (c:PV),y'.cells[j]? =some c->(off<=j∧j<off+ps.length∧ps[j - off]? =some c)∨((j<off∨off+ps.length<=j)∧(xs[iv.toNat]'r5).cells[j]? =some c):=by
      generalize xs[iv.toNat]'r5=x0 at hy' m1 m2;have sc:∀(cs:List PV) (off:Nat) (l:List PV),off+l.length<=cs.length->(setCells cs off l).length=cs.length∧∀(j:Nat) (c:PV),(setCells cs off l)[j]? =some c->(off<=j∧j<off+l.length∧l[j - off]? =some c)∨((j<off∨off+l.length<=j)∧cs[j]? =some c):=by
       intro cs off l
       induction l generalizing cs off with
       |nil=>intro _;exact⟨rfl,fun j c hc=> .inr ⟨by simp;omega,hc⟩⟩
       |cons d l ih=>
        intro hl;simp only[setCells];obtain⟨i1,i2⟩:=ih (cs.set off d) (off+1) (by simp at hl ⊢;omega);refine⟨by simpa using i1,fun j c hc=> ?_⟩;rcases i2 j c hc with⟨a1,a2,a3⟩|⟨a1,a2⟩
        .refine .inl ⟨by omega,by simp;omega,?_⟩;have:j - off=(j - (off+1))+1:=by omega
         rw[this,Fs];exact a3
        .rw[E4] at a2;split at a2
         .rename_i hj;split at a2
          .injection a2 with a2;subst a2;refine .inl ⟨by omega,by simp;omega,?_⟩;have:j - off=0:=by omega
           rw[this];rfl
          .cases a2
         .rename_i hj;refine .inr ⟨?_,a2⟩;simp only[Cq];omega
      unfold R4 at hy';split at hy'
      .rename_i cs0;split at hy'
       .rename_i hle;injection hy' with hy';subst hy';obtain⟨s1,s2⟩:=sc cs0 off ps hle;exact⟨by show (setCells cs0 off ps).length=_;rw[s1];exact m1,by have:cs0.length=sz:=m1;omega,s2⟩
       .cases hy'
      .rename_i p0 _;split at hy'
       .rename_i hsc;split at hy'
        .rename_i v0;split at hy'
         .rename_i hv0;injection hy' with hy';subst hy';rw[PV.scal_cells hsc] at m1;rw[PV.scal_cells hv0];refine⟨m1,by have h1:(1:Nat)=sz:=m1;simp;omega,fun j c hc=> .inl ?_⟩;cases j with
          |zero=>simp at hc;subst hc;exact⟨B7 _,by simp,rfl⟩
          |succ j=>simp at hc
         .cases hy'
        .cases hy'
       .cases hy'
     obtain⟨e1,e2,e3⟩:=hel;obtain⟨g,cap,cur,b1,b1c,b2,b3,b4,b5,b6,b7⟩:∃g cap cur,hv s= .slice (some ⟨g,0,none⟩) xs.length cap∧0<cap∧w0.ok g∧w.heap[g]? =some (.cells cur ee (0,0))∧xs.length<=cap∧cap<=maxLen∧cur.size=cap*sz∧cur.toList.take (xs.length*sz)=us:=by
      rcases g2.2 with⟨_,_,hn⟩|hh
      .omega
      .exact hh
     have hown:Dd (hv s)=some g:=by rw[b1];simp only[Dd,if_neg (show¬cap=0 by omega)]
     obtain⟨hg,lim,l1,l2,l3⟩:=g4 g hown;have hlast:W.chk (u9 xx i)∈ws->iv.toNat=xs.length - 1:=fun hw=>d6 g1' r3' r4 r5 (Ep b4 b5) (hk _ hw);have hg':g=K s:=hg;subst hg';have hlim:O' (K s)=some 0:=by rw[l1,l3 rfl]
     have hpos:iv.toNat*sz+off+ps.length<=xs.length*sz:=by have:(iv.toNat+1)*sz<=xs.length*sz:=C0 _ (by omega);rw[Dl,Gh] at this;omega
     have hcap:xs.length*sz<=cap*sz:=C0 _ b4;have hvcs:(a.eval y).cells.size=ps.length:=by rw[k2];simp
     have ht0:Cj P t=0->ps=[]:=fun h=>C1 (by omega);let row:List Value:=cur.toList.take (iv.toNat*sz+off)++(a.eval y).cells.toList++cur.toList.drop (iv.toNat*sz+off+(a.eval y).cells.size);have hrow:row.length=cur.size:=by simp only[row,Bp,Cv,Cn,Dv];omega
     have hget:∀j,row[j]? =if j<iv.toNat*sz+off then cur[j]? else if j<iv.toNat*sz+off+ps.length then(a.eval y).cells[j - (iv.toNat*sz+off)]? else cur[j]? :=by
      intro j;simp only[row];have t1:(cur.toList.take (iv.toNat*sz+off)).length=iv.toNat*sz+off:=by simp;omega
      by_cases hj:j<iv.toNat*sz+off
      .rw[if_pos hj,Cy,Cm (by rw[t1];exact hj),Cp,if_pos hj,B9]
      .rw[if_neg hj];by_cases hj2:j<iv.toNat*sz+off+ps.length
       .rw[if_pos hj2,Cy,Cf (by rw[t1];omega),t1,Cm (by simp;omega),B9]
       .rw[if_neg hj2,Cf (by simp only[Bp,t1,Dv];omega)];simp only[Bp,t1,Dv,Cr,B9];congr 1;omega
     have fin:∀w',(execOp a.eval o).run P w= .ok .skip w'->w'.heap.size=w.heap.size->(∀c,c≠K s->w'.heap[c]? =w.heap[c]?)->w'.heap[K s]? =some (.cells row.toArray ee (0,0))->Bel w0 w'->Fc P o a w (Ix w0 Oe J U a.tmps ⟨Kj (Mn ss U.m) s (.arr ee sz (.set sz xx i off es) ⟨false,lk'⟩),U.n,none⟩ .und):=by
      intro w' hrun hws hwo hwb hbel;refine .inr (.inl ⟨w',hrun,K,hv,O',?_,by simp only[Cw]⟩);have hput:=hfr.put (w':=w') (s:=s) (b0:= .arr ee sz xx ⟨false,lk⟩) (b:= .arr ee sz (.set sz xx i off es) ⟨false,lk'⟩) (n:=U.n) hb' hown hlim hbel hws hwo
       (fun e2 sz2 x2 ro2 xs2 hh hxx=>by cases hh;rw[g1'] at hxx;injection hxx with hxx;injection hxx with _ hxx;subst hxx;exact⟨ee,_,⟨false,lk'⟩,xs.set iv.toNat y',rfl,hq,by simp⟩) ?_
      .exact hput
      .have hM':(C5 w O').Le (C5 w' O'):=Ir (fun c _ hc=>hwo c (fun e=>by subst e;exact absurd (hc 0 hlim) (by omega))) (fun c _ lim hl=>⟨lim,hl,B7 _⟩) (fun c _ hn=>hn);refine⟨h0,xs.set iv.toNat y',row.take (xs.length*sz),hq,?_,?_,fun g' hg'=> ?_,?_⟩
       .have b1':hv s= .slice (some ⟨K s,0,none⟩) xs.length cap:=b1;show Own w' w0.ok ee sz (hv s) (xs.set iv.toNat y').length _;rw[I6,b1'];refine⟨by rw[Cv,hrow];omega,.inr ⟨K s,cap,row.toArray,rfl,b1c,b2,hwb,b4,b5,by simp[hrow,b6],by simp⟩⟩
       .intro j z hz;rw[E4] at hz;split at hz
        .rename_i hj;injection hz with hz;subst hz;refine⟨e1,fun k c hc=> ?_⟩;have hk':k<sz:=by rw[<-e1];exact(Br.1 hc).1
         have hlt:j*sz+k<xs.length*sz:=by have:(j+1)*sz<=xs.length*sz:=C0 _ (by omega);rw[Dl,Gh] at this;omega
         rw[Cp,if_pos hlt,hget];subst hj;rcases e3 k c hc with⟨a1,a2,a3⟩|⟨a1,a2⟩
         .rw[if_neg (by omega),if_pos (by omega)];have hk2:iv.toNat*sz+k - (iv.toNat*sz+off)=k - off:=by omega
          rw[hk2];have hkl:k - off<(a.eval y).cells.toList.length:=by rw[<-k2];exact(Br.1 a3).1
          refine⟨(a.eval y).cells.toList[k - off],by rw[<-B9];exact B3 hkl,c3 _ (H1 hkl),?_⟩;exact(k3 _ _ _ a3 (B3 hkl)).mono hM'
         .obtain⟨u,u1,u2,u3⟩:=m2 k c a2;refine⟨u,?_,u2,u3.mono hM'⟩;rw[<-b7,Cp,if_pos hlt,B9] at u1;rcases a1 with a1|a1
          .rw[if_pos (by omega)];exact u1
          .rw[if_neg (by omega),if_neg (by omega)];exact u1
        .rename_i hj;obtain⟨n1,n2⟩:=g3 j z hz;refine⟨n1,fun k c hc=> ?_⟩;obtain⟨u,u1,u2,u3⟩:=n2 k c hc;refine⟨u,?_,u2,u3.mono hM'⟩;have hk':k<sz:=by rw[<-n1];exact(Br.1 hc).1
         rw[<-b7,Cp] at u1;split at u1
         .rename_i hlt;rw[Cp,if_pos hlt,hget];rw[B9] at u1;rcases Dl8 j iv.toNat with hji|hji
          .have:(j+1)*sz<=iv.toNat*sz:=C0 _ (by omega);rw[Dl,Gh] at this;rw[if_pos (by omega)];exact u1
          .have:(iv.toNat+1)*sz<=j*sz:=C0 _ (by omega);rw[Dl,Gh] at this;rw[if_neg (by omega),if_neg (by omega)];exact u1
         .cases u1
       .have:g'=K s:=by have hg'':Dd (hv s)=some g':=hg';rw[hown] at hg'';injection hg'' with hg'';exact hg''.symm
        subst this;exact⟨rfl,0,hlim,Dz _,fun _=>rfl⟩
       .show Hr _ sz (xs.set iv.toNat y').length _ lk';rw[I6];refine Cx6 (us:=us) hlk' g5 (fun hw=>hlast hw) r5 c4 (by rw[<-hpl];exact e2) (fun p V hlt hp hV=> ?_) (fun k u hkl hu=> ?_) g2.1 rfl
        .rw[Cp,if_pos hlt,hget];rw[<-b7,Cp,if_pos hlt,B9] at hV;rw[<-hpl] at hp;rcases hp with hp|hp
         .rw[if_pos hp];exact hV
         .rw[if_neg (by omega),if_neg (by omega)];exact hV
        .rw[Cp,if_pos (by omega),hget,if_neg (by omega),if_pos (by omega)];rw[show iv.toNat*sz+off+k - (iv.toNat*sz+off)=k by omega];simpa using hu
     by_cases h00:Cj P t=0
     .have hps:=ht0 h00;subst hps;have hvc:(a.eval y).cells= #[]:=Array.eq_empty_of_size_eq_zero (by rw[hvcs];rfl);have hti:∃i,P.info? t=some i:=by
       cases hi:P.info? t with
       |some i=>exact⟨i,rfl⟩
       |none=>
        exfalso;unfold cellsOf at hc;have hu:P.underlying t=none:=by simp[Program.underlying,hi]
        simp[Lr,hu,h00] at hc
      obtain⟨ti,hti⟩:=hti;have hs0:ti.size=0:=by simpa [Cj,hti] using h00
      refine fin w (by simp[execOp,ho,Instr.storeAt,Instr.sureAddr,had,storeVar,sizeOf,typeInfo,hti,hs0,hvc,storeCells]) rfl (fun _ _=>rfl) ?_ h.bel;have:row=cur.toList:=by simp[row,hvc]
      rw[this];simpa using b3
     .refine fin _ (j6 (v:=a.eval y) ho had rfl b3 c1 h00 c3 (by omega)) (by simp) (fun c hc=>setRow_other w (K s) c _ hc) (setRow_heap w (K s) cur _ ee (0,0) b3) (M4 h.bel b2 _)
   .cases hs
  .cases hs
end
section
variable {P:Program} {w0:Fr} {Oe:Nat->Option Nat} {J:List PV} {U:St} {a:Act} {w:World} {K:Nat->Nat} {hv:Nat->Value} {O:Nat->Option Nat} {G:Option E} {o:Oper} {ws:List W}
def lv {t:TypeId} {x i:Operand} {ex ei:E} (ho:o.op= .index t x i) (ht:P.underlying t=some .string) (h:Rel w0 Oe J U a.tmps w K hv O) (hG:GOk J G) (hx:G8 P U G 0 x=some ex) (hi:G8 P U G 0 i=some ei)
  (hk:Chk J [Hp G (.sidx ex ei)]):Fc P o a w (Ix w0 Oe J U a.tmps (Hz U) (.e (.sidx ex ei))):=by
 obtain⟨r,hr⟩:=hk.g1 hG;obtain⟨p,hp,hpr⟩:=E6 (ds:=a.defers) (C:=⟨J,C5 w O,K,hv,U.m⟩) hG rfl hx h.tmps;obtain⟨q,hq,hqr⟩:=E6 (ds:=a.defers) (C:=⟨J,C5 w O,K,hv,U.m⟩) hG rfl hi h.tmps;have hr':=hr;simp only[E.ev,hp,hq,B0] at hr';unfold Vf at hr';split at hr'
 .rename_i s k n;split at hr'
  .rename_i hn;obtain⟨c,hc,rfl⟩:=Bs.1 hr';obtain⟨y,hy,hyd⟩:=hpr.str;have h1:a.eval x= .string y:=hy;have h2:a.eval i= .int k n:=hqr.int;have hlt:n.toNat<y.data.toList.length:=by rw[hyd];exact(Br.1 hc).1
   have hlt':n.toNat<y.size:=by rw[Dv] at hlt;exact hlt
   have hyc:y[n.toNat]'hlt'=c:=by
    have:y.data.toList[n.toNat]? =some c:=by rw[hyd];exact hc
    rw[B3 hlt] at this;injection this with this
   refine Fc.value (v:= .int .u8 c.toNat) (w':=w) ?_ (.keep h ?_)
   .have hnl:n<(y.size:Int):=by omega
    have hi':(if 0<=n then y[n.toNat]? else none)=some c:=by rw[if_pos hn,getElem?_pos y n.toNat hlt',hyc]
    simp only[execOp,ho,Instr.index,h1,h2,asIntOf,Sem.run_bind,Sem.run_pure,run_underlying ht,Result.andThen,hi']
   .simp only[Cw];exact⟨_,hr,.i _ _⟩
  .cases hr'
 .cases hr'
def lz {t e:TypeId} {x i:Operand} {sv:SV} {y ei:E} (ho:o.op= .indexAddr t x i) (ht:P.underlying t=some (.slice e)) (hz:Cj P e≠0) (h:Rel w0 Oe J U a.tmps w K hv O) (hG:GOk J G) (hx:opd P U G 0 x=some sv) (hy:sv.asE=some y)
  (hi:G8 P U G 0 i=some ei) (hk:Chk J [Hp G (.idx (Cj P e) y ei)]):Fc P o a w (Ix w0 Oe J U a.tmps (Hz U) (.ip (.idx (Cj P e) y ei) 0)):=by
 obtain⟨r,hr⟩:=hk.g1 hG;obtain⟨p,hp,hpr⟩:=SV.asE_ok hy (F9 (ds:=a.defers) (C:=⟨J,C5 w O,K,hv,U.m⟩) hG rfl hx h.tmps);obtain⟨q,hq,hqr⟩:=E6 (ds:=a.defers) (C:=⟨J,C5 w O,K,hv,U.m⟩) hG rfl hi h.tmps;have hp':y.ev J=some p:=hp;have hr':=hr;simp only[E.ev,hp',hq,B0] at hr';unfold Lg at hr';split at hr'
 .rename_i sz xs k n;split at hr'
  .rename_i hsz;subst hsz;split at hr'
   .rename_i hn;have h2:a.eval i= .int k n:=hqr.int;have hlt:=(Br.1 hr').1;generalize hv1:a.eval x=v1;have hpr':Rep (C5 w O) (.l (Cj P e) xs) v1:=by rw[<-hv1];exact hpr
    cases hpr' with
    |l _ _ base cap ad el hc hb hs hM h1 hh=>
     have hbase:base=some ad:=hb (fun e=>by subst e;simp at hlt);subst hbase;have hnl:n<(xs.length:Int):=by omega
     refine Fc.value (v:= .pointer (some (ad.add (n.toNat*Cj P e)))) (w':=w) ?_ (.keep h ?_)
     .simp[execOp,ho,Instr.indexAt,hv1,h2,asIntOf,run_underlying ht,hn,hnl,Gw (P:=P) (w:=w) rfl hz]
     .simp only[Cw,Gp];refine⟨r,hr,_,fun j=>el n.toNat j,rfl,fun j c hc=> ?_,fun j c hc=>h1 _ _ _ _ hr' hc,fun j c hc=>hh _ _ _ _ hr' hc⟩;rw[Addr.add_add];exact hM _ _ _ _ hr' hc
   .cases hr'
  .cases hr'
 .cases hr'
def dh {t e e':TypeId} {x i:Operand} {s sz:Nat} {y ei:E} {ro:Ro} (ho:o.op= .indexAddr t x i) (ht:P.underlying t=some (.slice e)) (hsz:sz=Cj P e) (hnap:s<NAP) (h:Rel w0 Oe J U a.tmps w K hv O) (hG:GOk J G) (hx:opd P U G 0 x=some (.h s)) (hb:mget U.m s=some (.arr e' sz y ro))
  (hi:G8 P U G 0 i=some ei) (hk:Chk J [Hp G (.idx sz y ei)]):Fc P o a w (Ix w0 Oe J U a.tmps (Hz U) (.ap s ei 0)):=by
 obtain⟨r,hr⟩:=hk.g1 hG;have hrx:=F9 (ds:=a.defers) (C:=⟨J,C5 w O,K,hv,U.m⟩) hG rfl hx h.tmps;simp only[Cw] at hrx;have hx1:a.eval x=hv s:=hrx;obtain⟨q,hq,hqr⟩:=E6 (ds:=a.defers) (C:=⟨J,C5 w O,K,hv,U.m⟩) hG rfl hi h.tmps;obtain⟨h0,xs,vs,g1,g2,g3,g4,_⟩:=h.mem s _ hb;have g1':y.ev J=some (.l sz xs):=g1;have hr':=hr;simp only[E.ev,g1',hq,B0] at hr';unfold Lg at hr';split at hr'
 .rename_i sz' xs' k n heq;injection heq with heq1 heq2;subst heq1;subst heq2;rw[if_pos rfl] at hr';split at hr'
  .rename_i hn;have h2:a.eval i= .int k n:=hqr.int;have hlt:=(Br.1 hr').1;have hnl:n<(xs.length:Int):=by omega
   rcases g2.2 with⟨_,_,hn0⟩|⟨g,cap,cur,e1,e1c,_⟩
   .omega
   .have e1':hv s= .slice (some ⟨g,0,none⟩) xs.length cap:=e1;have hg:=(g4 g (by show Dd (hv s)=_;rw[e1'];simp only[Dd,if_neg (show¬cap=0 by omega)])).1;have hg':g=K s:=hg;subst hg';refine Fc.value (v:= .pointer (some ⟨K s,n.toNat*sz,none⟩)) (w':=w) ?_ (.keep h ?_)
    .have hz:Cj P e≠0:=by omega
     simp[execOp,ho,Instr.indexAt,hx1,e1',h2,asIntOf,run_underlying ht,hn,hnl,Gw (P:=P) (w:=w) hsz.symm (by omega),add_lit]
    .simp only[Cw];exact⟨hnap,e',sz,y,ro,xs,k,n,hb,g1',hq,hn,by omega,by simp⟩
  .cases hr'
 .cases hr'
def df {t e e':TypeId} {x i:Operand} {s sz:Nat} {y i0 ei:E} {ro:Ro} (ho:o.op= .indexAddr t x i) (ht:P.underlying t=some (.slice e)) (hsz:sz=Cj P e) (h:Rel w0 Oe J U a.tmps w K hv O) (hG:GOk J G) (hx:opd P U G 0 x=some (.suf s i0)) (hb:mget U.m s=some (.arr e' sz y ro))
  (hi:G8 P U G 0 i=some ei) (hk:Chk J [Hp G (.idx sz (.lsl sz y i0 (.len y)) ei),Hp G (.bin .add i0 ei),Hp G (.bin .add i0 (.c (.i .i64 0)))]):Fc P o a w (Ix w0 Oe J U a.tmps (Hz U) (.ap s (.bin .add i0 ei) 0)):=by
 obtain⟨r,hr⟩:=Chk.g1 (x:= .idx sz (.lsl sz y i0 (.len y)) ei) (fun z hz=>hk z (by simp at hz ⊢;exact .inl hz)) hG;obtain⟨q2,hq2⟩:=Chk.g1 (x:= .bin .add i0 ei) (fun z hz=>hk z (by simp at hz ⊢;exact .inr (.inl hz))) hG;obtain⟨q3,hq3⟩:=Chk.g1 (x:= .bin .add i0 (.c (.i .i64 0))) (fun z hz=>hk z (by simp at hz ⊢;exact .inr (.inr hz))) hG;have hrx:=F9 (ds:=a.defers) (C:=⟨J,C5 w O,K,hv,U.m⟩) hG rfl hx h.tmps;simp only[Cw] at hrx;obtain⟨hnap,e2,sz2,x2,ro2,xs,k,iv,h1,h2,h3,h4,h5,h6⟩:=hrx;rw[hb] at h1;injection h1 with h1;injection h1 with _ j1 j2 _;subst j1;subst j2;have h6':a.eval x=Bz3 sz iv.toNat (hv s):=h6;obtain⟨q,hq,hqr⟩:=E6 (ds:=a.defers) (C:=⟨J,C5 w O,K,hv,U.m⟩) hG rfl hi h.tmps;obtain⟨h0,xs',vs,g1,g2,g3,g4,_⟩:=h.mem s _ hb;have g1':y.ev J=some (.l sz xs'):=g1;have h2':=h2;rw[g1'] at h2';injection h2' with h2';injection h2' with _ h2';subst h2';have hlen:(E.len y).ev J=some (.i .i64 (xs'.length:Int)):=by simp only[E.ev,g1',B0,H7]
 have hr':=hr;have h3':i0.ev J=some (.i k iv):=h3;simp only[E.ev,g1',h3',hq,B0,H7,Kt,if_true] at hr';rw[if_pos ⟨h4,by omega,Yh _⟩] at hr';simp only[B0] at hr';unfold Lg at hr';split at hr'
 .rename_i sz' zs k2 n heq;injection heq with heq1 heq2;subst heq1;subst heq2;rw[if_pos rfl] at hr';split at hr'
  .rename_i hn;have hlt:=(Br.1 hr').1;simp only[Cn,Cv,Eg] at hlt;have hi2:a.eval i= .int k2 n:=hqr.int;rcases g2.2 with⟨_,_,hn0⟩|⟨g,cap,cur,e1,e1c,_,_,e5,e6,_⟩
   .omega
   .have e1':hv s= .slice (some ⟨g,0,none⟩) xs'.length cap:=e1;have hg:=(g4 g (by show Dd (hv s)=_;rw[e1'];simp only[Dd,if_neg (show¬cap=0 by omega)])).1;have hg':g=K s:=hg;subst hg';rw[e1'] at h6';simp only[Bz3] at h6';rw[if_neg (by omega)] at h6';simp only[Cc] at h6';have hnl:n<((xs'.length - iv.toNat:Nat):Int):=by omega
    have hq2':=hq2;simp only[E.ev,h3',hq,B0,X.bin] at hq2';split at hq2'
    .rename_i hkk;subst hkk;simp only[Gd,Bn] at hq2';have hk64:k= .i64:=by
      simp only[E.ev,h3',B0,X.bin] at hq3;split at hq3
      .assumption
      .cases hq3
     subst hk64;have hmx:xs'.length<=maxLen:=Ep e5 e6;have hw:IntKind.i64.wrap (iv+n)=iv+n:=IntWalk.i64_in _ ⟨by omega,by simp only[maxLen] at hmx;omega⟩;rw[hw] at hq2';refine Fc.value (v:= .pointer (some ⟨K s,(iv+n).toNat*sz,none⟩)) (w':=w) ?_ (.keep h ?_)
     .have hz:Cj P e≠0:=by omega
      have ha:((⟨K s,0,none⟩:Addr).add (iv.toNat*sz)).add (n.toNat*sz)=⟨K s,(iv+n).toNat*sz,none⟩:=by
       have ht2:(iv+n).toNat=iv.toNat+n.toNat:=by omega
       rw[Addr.add_add,add_lit,ht2,Dl,Ig]
      have ha':((⟨K s,0,none⟩:Addr).add (iv.toNat*Cj P e)).add (n.toNat*Cj P e)=⟨K s,(iv+n).toNat*sz,none⟩:=by rw[<-hsz];exact ha
      simp[execOp,ho,Instr.indexAt,h6',hi2,asIntOf,run_underlying ht,hn,hnl,Gw (P:=P) (w:=w) hsz.symm (by omega),hsz,ha']
     .simp only[Cw];exact⟨hnap,e',sz,y,ro,xs',.i64,iv+n,hb,g1',by simp only[E.ev,h3',hq,B0,X.bin,if_true,Gd,hw],by omega,by omega,by simp⟩
    .cases hq2'
  .cases hr'
 .cases hr'
def En6 {c:Call} {x:Operand} {t:TypeId} {sv r:SV} (ho:o.op= .call c) (hc:c.callee= .builtin .cap) (ha:c.args.toList=[x]) (ht1:c.argTypes[0]? =some t) (h:Rel w0 Oe J U a.tmps w K hv O) (hG:GOk J G) (hx:opd P U G t x=some sv) (hsv:(∃n,sv= .nil n)∨∃n y,sv= .lit n y) (hl:u7 P U G t sv=some (ws,r)) (hk:Chk J ws):
  Fc P o a w (Ix w0 Oe J U a.tmps (Hz U) r):=by
 have hr:=F9 (ds:=a.defers) (C:=⟨J,C5 w O,K,hv,U.m⟩) hG rfl hx h.tmps;have hargs:c.args= #[x]:=by rw[<-D9 (xs:=c.args),ha]
 have slice:∀(b:Option Addr) (n cap:Nat) (e:TypeId),P.underlying t=some (.slice e)->a.eval x= .slice b n cap->(execOp a.eval o).run P w= .ok (.value (.int .i64 cap)) w:=by intro b n cap e hu hv1;simp[execOp,ho,resolve,hc,hargs,invoke,builtin,Builtin.cap_,ht1,run_underlying hu,hv1,goInt]
 unfold u7 at hl;split at hl
 .rename_i e hu;rcases hsv with⟨n,rfl⟩|⟨n,y,rfl⟩
  .simp only[Bn,B4] at hl;obtain⟨rfl,rfl⟩:=hl;simp only[Cw] at hr;refine Fc.value (slice _ _ _ e hu hr) (.keep h ?_);simp only[Cw,E.ev];exact⟨_,rfl,.i _ _⟩
  .simp only[SV.asE,Cc,Bn,B4] at hl;obtain⟨rfl,rfl⟩:=hl;simp only[Cw] at hr;obtain⟨xs,b,hy,hv1,hrep⟩:=hr;have hy':y.ev J=some (.l n xs):=hy;refine Fc.value (slice _ _ _ e hu hv1) (.keep h ?_);simp only[Cw,E.ev,hy',B0,H7];exact⟨_,rfl,.i _ _⟩
 .rcases hsv with⟨n,rfl⟩|⟨n,y,rfl⟩<;>simp at hl
 .cases hl
def Hg1 {c:Call} {x:Operand} {t:TypeId} {sv r:SV} (ho:o.op= .call c) (hc:c.callee= .builtin .len) (ha:c.args.toList=[x]) (ht1:c.argTypes[0]? =some t) (h:Rel w0 Oe J U a.tmps w K hv O) (hG:GOk J G) (hx:opd P U G t x=some sv) (hl:u7 P U G t sv=some (ws,r)) (hk:Chk J ws):
  Fc P o a w (Ix w0 Oe J U a.tmps (Hz U) r):=by
 have hr:=F9 (ds:=a.defers) (C:=⟨J,C5 w O,K,hv,U.m⟩) hG rfl hx h.tmps;have hargs:c.args= #[x]:=by rw[<-D9 (xs:=c.args),ha]
 have slice:∀(b:Option Addr) (n cap:Nat) (e:TypeId),P.underlying t=some (.slice e)->a.eval x= .slice b n cap->(execOp a.eval o).run P w= .ok (.value (.int .i64 n)) w:=by intro b n cap e hu hv1;simp[execOp,ho,resolve,hc,hargs,invoke,builtin,Builtin.len_,ht1,run_underlying hu,hv1,goInt]
 have str:∀(s:ByteArray),P.underlying t=some .string->a.eval x= .string s->(execOp a.eval o).run P w= .ok (.value (.int .i64 s.size)) w:=by intro s hu hv1;simp[execOp,ho,resolve,hc,hargs,invoke,builtin,Builtin.len_,ht1,run_underlying hu,hv1,goInt]
 unfold u7 at hl;split at hl
 .rename_i e hu;split at hl
  .simp only[Bn,B4] at hl;obtain⟨rfl,rfl⟩:=hl;simp only[Cw] at hr;refine Fc.value (slice _ _ _ e hu hr) (.keep h ?_);simp only[Cw,E.ev];exact⟨_,rfl,.i _ _⟩
  .rename_i s;split at hl
   .rename_i e' sz y ro hb;simp only[Bn,B4] at hl;obtain⟨rfl,rfl⟩:=hl;simp only[Cw] at hr;obtain⟨h0,xs,vs,g1,g2,g3,g4,_⟩:=h.mem s _ hb;have g1':y.ev J=some (.l sz xs):=g1;have hr1:a.eval x=hv s:=hr;have:∃b cap,hv s= .slice b xs.length cap:=by
     rcases g2.2 with⟨b,e1,e2⟩|⟨g,cap,cur,e1,_⟩
     .exact⟨b,0,by rw[e2];exact e1⟩
     .exact⟨_,cap,e1⟩
    obtain⟨b,cap,hbc⟩:=this;refine Fc.value (slice _ _ _ e hu (hr1.trans hbc)) (.keep h ?_);simp only[Cw,E.ev,g1',B0,H7];exact⟨_,rfl,.i _ _⟩
   .cases hl
  .rename_i s i;split at hl
   .rename_i e' sz y ro hb;simp only[Bn,B4] at hl;obtain⟨rfl,rfl⟩:=hl;simp only[Cw] at hr;obtain⟨_,e2,sz2,x2,ro2,xs,k,iv,h1,h2,h3,h4,h5,h6⟩:=hr;rw[hb] at h1;injection h1 with h1;injection h1 with _ j1 j2 _;subst j1;subst j2;obtain⟨h0,xs',vs,g1,g2,g3,g4,_⟩:=h.mem s _ hb;have g1':y.ev J=some (.l sz xs'):=g1;rw[h2] at g1';injection g1' with g1';injection g1' with _ g1';subst g1';have:∃b cap,hv s= .slice b xs.length cap∧xs.length<=maxLen:=by
     rcases g2.2 with⟨b,e1,e2⟩|⟨g,cap,cur,e1,_,_,_,e5,e6,_⟩
     .exact⟨b,0,by rw[e2];exact e1,by rw[e2];exact Dz _⟩
     .exact⟨_,cap,e1,Ep e5 e6⟩
    obtain⟨b,cap,hbc,hmx⟩:=this;have hr1:a.eval x=Bz3 sz iv.toNat (hv s):=h6;rw[hbc] at hr1;simp only[Bz3] at hr1;obtain⟨q,hq⟩:=hk.g1 hG;have hq':=hq;simp only[E.ev,h2,h3,B0,H7] at hq';simp only[X.bin] at hq';split at hq'
    .rename_i hk64;subst hk64;simp only[Gd,Bn] at hq';refine Fc.value (slice _ _ _ e hu hr1) (.keep h ?_);simp only[Cw];refine⟨q,hq,?_⟩;have hw:IntKind.i64.wrap ((xs.length:Int) - iv)=((xs.length - iv.toNat:Nat):Int):=by rw[IntWalk.i64_in _ ⟨by omega,by simp only[maxLen] at hmx;omega⟩];omega
     rw[<-hq',hw];exact .i _ _
    .cases hq'
   .cases hl
  .rename_i sv' _ _ _;obtain⟨y,hy,he⟩:=Bs.1 hl;simp only[B4] at he;obtain⟨rfl,rfl⟩:=he;obtain⟨p,hp,hpr⟩:=SV.asE_ok hy hr;have hp':y.ev J=some p:=hp;obtain⟨q,hq⟩:=hk.g1 hG;simp only[E.ev,hp',B0] at hq;unfold H7 at hq;split at hq
   .rename_i sz xs;generalize hv1:a.eval x=v1;have hpr':Rep (C5 w O) (.l sz xs) v1:=by rw[<-hv1];exact hpr
    cases hpr' with
    |l _ _ base cap ad el _ _ _ _ _ _=>
     refine Fc.value (slice _ _ _ e hu hv1) (.keep h ?_);simp only[Cw,E.ev,hp',B0,H7];exact⟨_,rfl,.i _ _⟩
   .cases hq
 .rename_i hu;split at hl
  .rename_i y;simp only[Bn,B4] at hl;obtain⟨rfl,rfl⟩:=hl;simp only[Cw] at hr;obtain⟨p,hp,hpr⟩:=hr;have hp':y.ev J=some p:=hp;obtain⟨q,hq⟩:=hk.g1 hG;simp only[E.ev,hp',B0] at hq;unfold Zk at hq;split at hq
   .rename_i s;obtain⟨z,hz,hzd⟩:=hpr.str;refine Fc.value (str z hu hz) (.keep h ?_);simp only[Cw,E.ev,hp',B0,Zk];refine⟨_,rfl,?_⟩;have:z.size=s.length:=by rw[<-hzd,Dv];rfl
    rw[this];exact .i _ _
   .cases hq
  .cases hl
 .cases hl
end
section
variable {P:Program} {w0:Fr} {Oe:Nat->Option Nat} {J:List PV} {U:St} {a:Act} {w:World} {K:Nat->Nat} {hv:Nat->Value} {O:Nat->Option Nat} {G:Option E} {o:Oper} {ws:List W}
def Cd.part {C:Cx} {cs:List SV} {vs:List Value} (h:Cd C cs vs) (off n:Nat):Cd C ((cs.drop off).take n) ((vs.drop off).take n):=by
 have hlen:=h.length;refine Cd.mk (by simp[hlen]) fun j y u hy hu=> ?_;rw[Cp] at hy hu;split at hy
 .rename_i hj;rw[if_pos hj] at hu;rw[Cr] at hy hu;obtain⟨u',hu',hr'⟩:=h.get _ y hy;rw[hu] at hu';injection hu' with hu';subst hu';exact hr'
 .cases hy
def Eb0 {y:E} (hy:y.isAgg=true) {p:PV} (hp:y.ev J=some p):∃cs,p= .a cs:=by
 cases y<;>simp only[E.isAgg,B5] at hy
 .simp only[E.ev,Bl] at hp;obtain⟨q,_,hp⟩:=hp;split at hp
  .injection hp with hp;exact⟨_,hp.symm⟩
  .cases hp
 .simp only[E.ev,Bs] at hp;obtain⟨q,_,hp⟩:=hp;exact⟨_,hp.symm⟩
 .simp only[E.ev,Bl] at hp;obtain⟨q,_,hp⟩:=hp;split at hp
  .split at hp
   .injection hp with hp;exact⟨_,hp.symm⟩
   .cases hp
  .cases hp
def U7 {t:TypeId} (hu:(P.underlying t).isSome):(P.info? t).isSome:=by obtain⟨d,hd⟩:=Dt.1 hu;exact Rm hd
def Cl9 {C:Cx} (hC:C.J=J) {n off:Nat} {ft:TypeId} {sv r:SV} {v:Value} (hG:GOk J G) (hp:Zz P G n off ft sv=some (ws,r)) (hk:Chk J ws) (hr:Cw C sv v):
  ∃vs u,v= .agg vs∧(part ft vs off).run P w= .ok u w∧Cw C r u:=by
 subst hC;unfold Zz at hp;split at hp
 .cases hp
 .rename_i hun;have hun':(P.underlying ft).isSome=true:=by cases hh:P.underlying ft<;>simp_all
  split at hp
  .rename_i y;simp only[Bn,B4] at hp;obtain⟨rfl,rfl⟩:=hp;simp only[Cw] at hr;obtain⟨p,hp,hpr⟩:=hr;have hcs:∃cs,p= .a cs:=by
    by_cases hy:y.isAgg=true
    .exact Eb0 hy hp
    .obtain⟨q,hq⟩:=hk.g (x:= .fit n y) hG (by simp[hy]);simp only[E.ev,hp,B0] at hq;split at hq
     .exact⟨_,rfl⟩
     .cases hq
   obtain⟨cs,rfl⟩:=hcs;cases hpr with
   |a _ vs hl h1 h=>
    obtain⟨q,hq⟩:=hk.g (x:=if Lr P ft then E.sub off (Cj P ft) y else .proj off y) hG (by simp);refine⟨vs,?_⟩;cases ha:Lr P ft with
    |true=>
     simp only[ha,if_true] at hq ⊢;refine⟨_,trivial,dz w ha rfl (U7 hun'),?_⟩;simp only[Cw];refine⟨q,hq,?_⟩;simp only[E.ev,hp,B0] at hq;by_cases hle:off+Cj P ft<=(PV.a cs).cells.length
     .rw[if_pos hle] at hq;injection hq with hq;subst hq;have hle':off+Cj P ft<=cs.length:=hle;show Rep _ (.a ((cs.drop off).take _)) _;refine .a _ _ (by simp;omega) (fun u hu=> ?_) fun j c u hc hu=> ?_
      .simp only[P1,Jy] at hu;exact h1 u (Fx (Fw hu))
      .rw[Cp] at hc;split at hc
       .rw[Cr] at hc;rw[Array.getElem?_extract] at hu;split at hu
        .exact h _ c u hc hu
        .cases hu
       .cases hc
     .rw[if_neg hle] at hq;cases hq
    |false=>
     simp only[ha,if_false,B5] at hq ⊢;have hq':=hq;simp only[E.ev,hp,B0,PV.cells] at hq';have hlt:=(Br.1 hq').1;have hu:vs[off]? =some (vs[off]'(by omega)):=E8 (by omega);refine⟨_,trivial,dy w ha hun' hu,?_⟩;simp only[Cw];exact⟨q,hq,h _ q _ hq' hu⟩
  .rename_i cs;simp only[Cw] at hr;obtain⟨vs,rfl,h1,h2⟩:=hr;have hlen:=h2.length;refine⟨vs,?_⟩;split at hp
   .rename_i ha;split at hp
    .rename_i hle;simp only[Bn,B4] at hp;obtain⟨rfl,rfl⟩:=hp;refine⟨_,rfl,dz w ha rfl (U7 hun'),Uw ?_ fun u hu=> ?_⟩
     .simp only[P1,Jy];have:=h2.part off (Cj P ft);rwa[Nat.add_sub_cancel_left]
     .simp only[P1,Jy] at hu;exact h1 u (Fx (Fw hu))
    .cases hp
   .rename_i ha;obtain⟨c,hc,he⟩:=Bs.1 hp;simp only[B4] at he;obtain⟨rfl,rfl⟩:=he;obtain⟨u,hu,hru⟩:=h2.get off c hc;exact⟨u,rfl,dy w (by simpa using ha) hun' (by rw[<-B9];exact hu),hru⟩
  .cases hp
def Ek8 {t:TypeId} {x:Operand} {f off:Nat} {ft:TypeId} {sv r:SV} (ho:o.op= .field t x f) (hf:S2 P t f=some (off,ft)) (h:Rel w0 Oe J U a.tmps w K hv O) (hG:GOk J G) (hx:opd P U G 0 x=some sv)
  (hp:Zz P G (Cj P t) off ft sv=some (ws,r)) (hk:Chk J ws):Fc P o a w (Ix w0 Oe J U a.tmps (Hz U) r):=by
 have hr:=F9 (ds:=a.defers) (C:=⟨J,C5 w O,K,hv,U.m⟩) hG rfl hx h.tmps;obtain⟨vs,u,h1,h2,h3⟩:=Cl9 (w:=w) (C:=⟨J,C5 w O,K,hv,U.m⟩) rfl hG hp hk hr;have h1':a.eval x= .agg vs:=h1;unfold S2 at hf;split at hf
 .rename_i fs hu;obtain⟨fl,hfl,he⟩:=Bs.1 hf;simp only[B4] at he;obtain⟨rfl,rfl⟩:=he;refine Fc.value (v:=u) (w':=w) ?_ (.keep h h3);simp[execOp,ho,Instr.field,run_underlying hu,hfl,h1',asAgg,h2]
 .cases hf
def lw {t e:TypeId} {x i:Operand} {n:Nat} {kk:IntKind} {k:Int} {sv r:SV} (ho:o.op= .index t x i) (ht:P.underlying t=some (.array n e)) (h:Rel w0 Oe J U a.tmps w K hv O) (hG:GOk J G) (hx:opd P U G 0 x=some sv)
  (hi:G8 P U G 0 i=some (.c (.i kk k))) (hb:0<=k∧k<n∧Cj P e≠0) (hp:Zz P G (n*Cj P e) (k.toNat*Cj P e) e sv=some (ws,r)) (hk:Chk J ws):Fc P o a w (Ix w0 Oe J U a.tmps (Hz U) r):=by
 have hr:=F9 (ds:=a.defers) (C:=⟨J,C5 w O,K,hv,U.m⟩) hG rfl hx h.tmps;obtain⟨vs,u,h1,h2,h3⟩:=Cl9 (w:=w) (C:=⟨J,C5 w O,K,hv,U.m⟩) rfl hG hp hk hr;have h1':a.eval x= .agg vs:=h1;obtain⟨q,hq,hqr⟩:=E6 (ds:=a.defers) (C:=⟨J,C5 w O,K,hv,U.m⟩) hG rfl hi h.tmps;simp only[E.ev,Bn] at hq;subst hq;have hi':a.eval i= .int kk k:=hqr.int;refine Fc.value (v:=u) (w':=w) ?_ (.keep h h3);simp[execOp,ho,Instr.index,run_underlying ht,h1',hi',asIntOf,hb.1,hb.2.1,Gw (P:=P) (w:=w) rfl hb.2.2,h2]
def Mf {t e:TypeId} {x i:Operand} {n:Nat} {kk:IntKind} {k:Int} {p q:SV} (ho:o.op= .indexAddr t x i) (ht:P.underlying t=some (.array n e)) (h:Rel w0 Oe J U a.tmps w K hv O) (hG:GOk J G) (hx:opd P U G 0 x=some p)
  (hi:G8 P U G 0 i=some (.c (.i kk k))) (hb:0<=k∧k<n∧Cj P e≠0) 
  (hq:(∃s o,p= .bp s o∧q= .bp s (o+k.toNat*Cj P e))∨(∃y o,p= .ip y o∧q= .ip y (o+k.toNat*Cj P e))):Fc P o a w (Ix w0 Oe J U a.tmps (Hz U) q):=by
 have hr:=F9 (ds:=a.defers) (C:=⟨J,C5 w O,K,hv,U.m⟩) hG rfl hx h.tmps;have e0:a.eval=(Act.mk a.tmps a.defers).eval:=rfl;rw[<-e0] at hr;obtain⟨qq,hqq,hqr⟩:=E6 (ds:=a.defers) (C:=⟨J,C5 w O,K,hv,U.m⟩) hG rfl hi h.tmps;simp only[E.ev,Bn] at hqq;subst hqq;have hi':a.eval i= .int kk k:=hqr.int;have run:∀ad,a.eval x= .pointer (some ad)->(execOp a.eval o).run P w= .ok (.value (.pointer (some (ad.add (k.toNat*Cj P e))))) w:=by intro ad had;simp[execOp,ho,Instr.indexAt,run_underlying ht,had,Instr.sureAddr,hi',asIntOf,hb.1,hb.2.1,Gw (P:=P) (w:=w) rfl hb.2.2]
 rcases hq with⟨s,o,rfl,rfl⟩|⟨y,o,rfl,rfl⟩
 .simp only[Cw] at hr;refine Fc.value (run _ hr) (.keep h ?_);simp only[Cw,add_lit]
 .simp only[Cw] at hr;obtain⟨pv,hp,ad,el,had,h1,h2,h3⟩:=hr;refine Fc.value (run _ had) (.keep h ?_);simp only[Cw];refine⟨pv,hp,ad.add (k.toNat*Cj P e),fun j=>el (k.toNat*Cj P e+j),rfl,fun j c hc=> ?_,fun j c hc=> ?_,fun j c hc=> ?_⟩
  .rw[Addr.add_add];exact h1 _ c (by rw[Cr] at hc ⊢;rw[<-G1];exact hc)
  .exact h2 _ c (by rw[Cr] at hc ⊢;rw[<-G1];exact hc)
  .exact h3 _ c (by rw[Cr] at hc ⊢;rw[<-G1];exact hc)
def Hf9 {c:Call} {x y:Operand} {ex ey:E} (ho:o.op= .call c) (hc:c.callee= .builtin .min) (ha:c.args.toList=[x,y]) (h:Rel w0 Oe J U a.tmps w K hv O) (hG:GOk J G) (hx:G8 P U G 0 x=some ex) (hy:G8 P U G 0 y=some ey)
  (hk:Chk J [Hp G (.mn ex ey)]):Fc P o a w (Ix w0 Oe J U a.tmps (Hz U) (.e (.mn ex ey))):=by
 obtain⟨r,hr⟩:=hk.g1 hG;obtain⟨p,hp,hpr⟩:=E6 (ds:=a.defers) (C:=⟨J,C5 w O,K,hv,U.m⟩) hG rfl hx h.tmps;obtain⟨q,hq,hqr⟩:=E6 (ds:=a.defers) (C:=⟨J,C5 w O,K,hv,U.m⟩) hG rfl hy h.tmps;have hargs:c.args= #[x,y]:=by rw[<-D9 (xs:=c.args),ha]
 have hr':=hr;simp only[E.ev,hp,hq,B0] at hr';unfold Ex6 at hr';split at hr'
 .split at hr'
  .rename_i k m _ n hkk;subst hkk;injection hr' with hr';have h1:a.eval x= .int k m:=hpr.int;have h2:a.eval y= .int k n:=hqr.int;refine Fc.value (v:= .int k (if n<m then n else m)) (w':=w) ?_ (.keep h ?_)
   .simp[execOp,ho,resolve,hc,hargs,invoke,builtin,Builtin.min_,Builtin.min2,h1,h2]
   .simp only[Cw];exact⟨r,hr,by rw[<-hr'];exact .i _ _⟩
  .cases hr'
 .cases hr'
def Hg0 {c:Call} {x y:Operand} {ex ey:E} (ho:o.op= .call c) (hc:c.callee= .builtin .max) (ha:c.args.toList=[x,y]) (h:Rel w0 Oe J U a.tmps w K hv O) (hG:GOk J G) (hx:G8 P U G 0 x=some ex) (hy:G8 P U G 0 y=some ey)
  (hk:Chk J [Hp G (.mx ex ey)]):Fc P o a w (Ix w0 Oe J U a.tmps (Hz U) (.e (.mx ex ey))):=by
 obtain⟨r,hr⟩:=hk.g1 hG;obtain⟨p,hp,hpr⟩:=E6 (ds:=a.defers) (C:=⟨J,C5 w O,K,hv,U.m⟩) hG rfl hx h.tmps;obtain⟨q,hq,hqr⟩:=E6 (ds:=a.defers) (C:=⟨J,C5 w O,K,hv,U.m⟩) hG rfl hy h.tmps;have hargs:c.args= #[x,y]:=by rw[<-D9 (xs:=c.args),ha]
 have hr':=hr;simp only[E.ev,hp,hq,B0] at hr';unfold Fs6 at hr';split at hr'
 .split at hr'
  .rename_i k m _ n hkk;subst hkk;injection hr' with hr';have h1:a.eval x= .int k m:=hpr.int;have h2:a.eval y= .int k n:=hqr.int;refine Fc.value (v:= .int k (if n>m then n else m)) (w':=w) ?_ (.keep h ?_)
   .simp[execOp,ho,resolve,hc,hargs,invoke,builtin,Builtin.max_,Builtin.max2,h1,h2]
   .simp only[Cw];exact⟨r,hr,by rw[<-hr'];exact .i _ _⟩
  .cases hr'
 .cases hr'
end
section
variable {P:Program} {w0:Fr} {Oe:Nat->Option Nat} {J:List PV} {U:St} {a:Act} {w:World} {K:Nat->Nat} {hv:Nat->Value} {O:Nat->Option Nat} {G:Option E} {o:Oper} {ws:List W}
def Dd1 {x:Value} {k:IntKind} {n:Int} {y:Nat} {code:BoundsCode} (hx:x= .int k n) (h:0<=n∧n<=y):(Instr.sliceBound x y code).run P w= .ok n.toNat w:=by subst hx;simp[Instr.sliceBound,asIntOf,h]
def Kk {b:Bool} {len cap:Nat} {low high max:Option Value} {l h m:Nat} 
  (hm:match max with|some v=>∃k,v= .int k m|none=>m=cap) (hh:match high with|some v=>∃k,v= .int k h|none=>h=len∧max=none) (hl:match low with|some v=>∃k,v= .int k l|none=>l=0)
  (h1:l<=h) (h2:h<=m) (h3:m<=cap):(Instr.sliceBounds b len cap low high max).run P w= .ok (l,h,m) w:=by
 have z:∀(k:IntKind) (n:Int) (y:Nat) (code:BoundsCode),0<=n∧n<=y->(Instr.sliceBound (.int k n) y code).run P w= .ok n.toNat w:=fun k n y code h=>Dd1 rfl h;cases low with
 |none=>
  simp only at hl;subst hl;cases high with
  |none=>
   obtain⟨rfl,rfl⟩:=hh;simp only at hm;subst hm;simp[Instr.sliceBounds]
  |some v=>
   obtain⟨k,rfl⟩:=hh;cases max with
   |none=>simp only at hm;subst hm;simp[Instr.sliceBounds,z k h m _ (by omega)]
   |some u=>obtain⟨k',rfl⟩:=hm;simp[Instr.sliceBounds,z k' m cap _ (by omega),z k h m _ (by omega)]
 |some v=>
  obtain⟨k0,rfl⟩:=hl;cases high with
  |none=>
   obtain⟨rfl,rfl⟩:=hh;simp only at hm;subst hm;simp[Instr.sliceBounds,z k0 l h _ (by omega)]
  |some v=>
   obtain⟨k,rfl⟩:=hh;cases max with
   |none=>simp only at hm;subst hm;simp[Instr.sliceBounds,z k h m _ (by omega),z k0 l h _ (by omega)]
   |some u=>obtain⟨k',rfl⟩:=hm;simp[Instr.sliceBounds,z k' m cap _ (by omega),z k h m _ (by omega),z k0 l h _ (by omega)]
def Ft1 {C:Cx} (hC:C.J=J) (hG:GOk J G) (h:Cd C U.t a.tmps.toList) {lo:Option Operand} {el:E} {k:IntKind} {n:Int} (hl:Lj P U G lo (.c (.i .i64 0))=some el)
  (he:el.ev J=some (.i k n)) (h0:0<=n):match lo.map a.eval with|some v=>∃k,v= .int k (n.toNat:Int)|none=>n.toNat=0:=by
 unfold Lj at hl;cases lo with
 |none=>
  simp only[Bn] at hl;subst hl;simp only[E.ev,Bn,PV.i.injEq] at he;obtain⟨_,rfl⟩:=he;rfl
 |some x=>
  simp only at hl;obtain⟨p,hp,hpr⟩:=E6 (ds:=a.defers) hG hC hl h;subst hC;rw[he] at hp;injection hp with hp;subst hp;refine⟨k,?_⟩;have:a.eval x= .int k n:=hpr.int;rw[this];congr 1;omega
def Eb4 {C:Cx} (hC:C.J=J) (hG:GOk J G) (h:Cd C U.t a.tmps.toList) {x:Operand} {d el:E} {k:IntKind} {n:Int} (hl:Lj P U G (some x) d=some el)
  (he:el.ev J=some (.i k n)) (h0:0<=n):∃k,a.eval x= .int k (n.toNat:Int):=Ft1 (lo:=some x) hC hG h hl he h0
def Rep.lnil (M:Vw) (sz:Nat) (b:Option Addr) (cap:Nat):Rep M (.l sz []) (.slice b 0 cap):=
 Rep.l sz [] b cap ⟨0,0,none⟩ (fun _ _=>undef) (Dz _) (fun h=>absurd rfl h) (fun i x h=>by simp at h) (fun i x j c h=>by simp at h) (fun i x j c h=>by simp at h) (fun i x j c h=>by simp at h)
def Ek7 {t:TypeId} {x:Operand} {lo hi mx:Option Operand} {sv r:SV} {F:Eff} (ho:o.op= .slice t x lo hi mx) (h:Rel w0 Oe J U a.tmps w K hv O) (hG:GOk J G) (hx:opd P U G t x=some sv)
  (hs:M3 P U G t sv lo hi mx=some (ws,r,F)) (hk:Chk J ws):Fc P o a w (Ix w0 Oe J U a.tmps F r):=by
 have hr:=F9 (ds:=a.defers) (C:=⟨J,C5 w O,K,hv,U.m⟩) hG rfl hx h.tmps;have e0:a.eval=(Act.mk a.tmps a.defers).eval:=rfl;rw[<-e0] at hr;unfold M3 at hs;split at hs
 ·-- a string
  rename_i hu;split at hs
  .rename_i y hy;split at hs
   .rename_i el eh hel heh;simp only[Bn,B4] at hs;obtain⟨rfl,rfl,rfl⟩:=hs;obtain⟨q,hq⟩:=hk.g1 hG;obtain⟨p,hp,hpr⟩:=SV.asE_ok hy hr;have hp':y.ev J=some p:=hp;have hq':=hq;simp only[E.ev,hp',B0,Bl] at hq';obtain⟨pl,hpl,ph,hph,hq'⟩:=hq';unfold s7 at hq';split at hq'
    .rename_i s kl nl kh nh;split at hq'
     .rename_i hb;injection hq' with hq';obtain⟨z,hz,hzd⟩:=hpr.str;have hzs:z.size=s.length:=by rw[<-hzd,Dv];rfl
      have hlo:=Ft1 (C:=⟨J,C5 w O,K,hv,U.m⟩) rfl hG h.tmps hel hpl hb.1;have hhi:match hi.map a.eval with|some v=>∃k,v= .int k (nh.toNat:Int)|none=>nh.toNat=z.size∧(none:Option Value)=none:=by
       cases hi with
       |none=>
        simp only[Lj,Bn] at heh;subst heh;simp only[E.ev,hp',B0,Zk,Bn,PV.i.injEq] at hph;obtain⟨_,rfl⟩:=hph;exact⟨by rw[hzs];simp,rfl⟩
       |some x'=>exact Eb4 (x:=x') (C:=⟨J,C5 w O,K,hv,U.m⟩) rfl hG h.tmps heh hph (by omega)
      have hrun:=Kk (P:=P) (w:=w) (b:=false) (len:=z.size) (cap:=z.size) (max:=none) (m:=z.size) rfl hhi hlo (by omega) (by omega) (B7 _);refine Fc.value (v:= .string (z.extract nl.toNat nh.toNat)) (w':=w) ?_ (.keep h ?_)
      .simp[execOp,ho,Instr.sliceAt,Instr.slice,run_underlying hu,hz,hrun]
      .simp only[Cw];refine⟨q,hq,?_⟩;rw[<-hq'];refine .s _ _ ?_;rw[ByteArray.data_extract,P1,Jy,hzd,List.drop_take]
     .cases hq'
    .cases hq'
   .cases hs
  .cases hs
 .rename_i e hu;split at hs
  .cases hs
  rename_i hsz;have hsize:=Gw (P:=P) (w:=w) (t:=e) rfl hsz;split at hs
  ·-- nothing of it
   rename_i hz;simp only[Bt,D5] at hz;obtain⟨⟨hlo,hhi⟩,hmx⟩:=hz;subst hlo;have zer:∀u,Ac4 u=true->u=some (.const (.int .i64 0)):=by
    intro u hu;unfold Ac4 at hu;split at hu
    .rfl
    .cases hu
   have:=zer _ hhi;subst this;have:=zer _ hmx;subst this;have key:∃b n cap,a.eval x= .slice b n cap:=by
    split at hs
    .rename_i y;simp only[Bn,B4] at hs;obtain⟨rfl,rfl,rfl⟩:=hs;obtain⟨q,hq⟩:=hk.g1 hG;simp only[Cw] at hr;obtain⟨p,hp,hpr⟩:=hr;have hp':y.ev J=some p:=hp;simp only[E.ev,hp',B0] at hq;unfold H7 at hq;split at hq
     .rename_i sz xs;generalize a.eval x=v1 at hpr;cases hpr with
      |l _ _ base cap ad el _ _ _ _ _ _=>exact⟨_,_,_,rfl⟩
     .cases hq
    .simp only[Cw] at hr;exact⟨_,_,_,hr⟩
    .cases hs
   have hε:F=Hz U∧r= .lit (Cj P e) (.c (.l (Cj P e) [])):=by
    split at hs
    .simp only[Bn,B4] at hs;exact⟨hs.2.2.symm,hs.2.1.symm⟩
    .simp only[Bn,B4] at hs;exact⟨hs.2.2.symm,hs.2.1.symm⟩
    .cases hs
   obtain⟨rfl,rfl⟩:=hε;obtain⟨b,n,cap,hv1⟩:=key;have hrun:=Kk (P:=P) (w:=w) (b:=true) (len:=n) (cap:=cap) (low:=none) (high:=some (.int .i64 0)) (max:=some (.int .i64 0)) (l:=0) (h:=0) (m:=0) ⟨_,rfl⟩ ⟨_,rfl⟩ rfl (B7 _) (B7 _) (Dz _);refine Fc.value (v:= .slice b 0 0) (w':=w) ?_ (.keep h ?_)
   .have hev:∀v,a.eval (.const v)=v:=fun v=>rfl;simp[execOp,ho,Instr.sliceAt,Instr.slice,run_underlying hu,hv1,hrun,hsize,hev]
   .simp only[Cw];exact⟨[],b,rfl,rfl,Rep.lnil _ _ _ _⟩
  .split at hs
   .rename_i y ss hy;split at hs
    .cases hs
    .have fin:∀{el eh:E},Lj P U G lo (.c (.i .i64 0))=some el->Lj P U G hi (.len y)=some eh->
       (mx=none∨∃m em,mx=some m∧G8 P U G 0 m=some em∧eh.same em=true∧hi.isSome=true)->Chk J [Hp G (.lsl (Cj P e) y el eh)]->Fc P o a w (Ix w0 Oe J U a.tmps ⟨Mn ss U.m,U.n,none⟩ (.e (.lsl (Cj P e) y el eh))):=by
      intro el eh hel heh hmx hk;obtain⟨O',hrel,hM,hop,_⟩:=h.frz ss (n:=U.n);obtain⟨p,hp,hpr⟩:=Vj h hM 20 sv _ y ss hy hr (fun s hs=>hop s (by simpa using hs));obtain⟨q,hq⟩:=hk.g1 hG;have hq':=hq;simp only[E.ev,hp,B0,Bl] at hq';obtain⟨pl,hpl,ph,hph,hq'⟩:=hq';unfold Kt at hq';split at hq'
      .rename_i sz' xs kl nl kh nh;split at hq'
       .rename_i hszz;subst hszz;split at hq'
        .rename_i hb;injection hq' with hq';have hlo:=Ft1 (C:=⟨J,C5 w O,K,hv,U.m⟩) rfl hG h.tmps hel hpl hb.1;generalize hv1:a.eval x=v1 at hpr;cases hpr with
         |l _ _ base cap ad elv hc hbase hs1 hMm h1 hh=>
          have hhi:match hi.map a.eval with|some v=>∃k,v= .int k (nh.toNat:Int)|none=>nh.toNat=xs.length∧mx.map a.eval=none:=by
           cases hi with
           |none=>
            simp only[Lj,Bn] at heh;subst heh;simp only[E.ev,hp,B0,H7,Bn,PV.i.injEq] at hph;obtain⟨_,rfl⟩:=hph;refine⟨by simp,?_⟩;rcases hmx with rfl|⟨_,_,_,_,_,hno⟩
            .rfl
            .cases hno
           |some x'=>exact Eb4 (x:=x') (C:=⟨J,C5 w O,K,hv,U.m⟩) rfl hG h.tmps heh hph (by omega)
          obtain⟨m,hm1,hm2,hm3⟩:∃m:Nat,(match mx.map a.eval with|some v=>∃k,v= .int k (m:Int)|none=>m=cap)∧nh.toNat<=m∧m<=cap:=by
           rcases hmx with rfl|⟨mo,em,rfl,hem,hsame,_⟩
           .exact⟨cap,rfl,by omega,B7 _⟩
           .have:=E.same_eq _ _ hsame;subst this;exact⟨nh.toNat,Eb4 (x:=mo) (C:=⟨J,C5 w O,K,hv,U.m⟩) rfl hG h.tmps (d:= .c .u) hem hph (by omega),B7 _,by omega⟩
          have hrun:=Kk (P:=P) (w:=w) (b:=true) (len:=xs.length) (cap:=cap) hm1 hhi hlo (by omega) hm2 hm3;refine Fc.value (v:= .slice (if m=nl.toNat then base else base.map (·.add (nl.toNat*Cj P e))) (nh.toNat - nl.toNat) (m - nl.toNat)) (w':=w) ?_ ⟨K,hv,O',hrel,?_⟩
          .simp[execOp,ho,Instr.sliceAt,Instr.slice,run_underlying hu,hv1,hrun,hsize]
          .simp only[Cw];refine⟨q,hq,?_⟩;rw[<-hq'];have hlen:((xs.take nh.toNat).drop nl.toNat).length=nh.toNat - nl.toNat:=by rw[Cn,Cv];omega
           have hget:∀(i:Nat) (z:PV),((xs.take nh.toNat).drop nl.toNat)[i]? =some z->xs[nl.toNat+i]? =some z:=by
            intro i z hz;rw[Cr,Cp] at hz;split at hz
            .exact hz
            .cases hz
           rw[<-hlen];have hadd:∀i j,(ad.add (nl.toNat*Cj P e)).add (i*Cj P e+j)=ad.add ((nl.toNat+i)*Cj P e+j):=by intro i j;rw[Addr.add_add];congr 1;rw[Dl];omega
           refine .l _ _ _ _ (ad.add (nl.toNat*Cj P e)) (fun i j=>elv (nl.toNat+i) j) (by rw[hlen];omega) (fun hne=> ?_) (fun i z hz=>hs1 _ z (hget i z hz)) (fun i z j c hz hc=> ?_) (fun i z j c hz hc=>h1 _ z j c (hget i z hz) hc) (fun i z j c hz hc=>hh _ z j c (hget i z hz) hc)
           .have hpos:0<nh.toNat - nl.toNat:=by rw[<-hlen];exact Ct.2 hne
            have hxs:xs≠[]:=by intro hx0;subst hx0;simp at hb;omega
            rw[if_neg (by omega),hbase hxs];rfl
           .rw[hadd];exact hMm _ z j c (hget i z hz) hc
        .cases hq'
       .cases hq'
      .cases hq'
     split at hs
     .rename_i el eh hel heh;split at hs
      .simp only[Bn,B4] at hs;obtain⟨rfl,rfl,rfl⟩:=hs;exact fin hel heh (.inl rfl) hk
      .rename_i _ mo _;split at hs
       .rename_i em hem;split at hs
        .rename_i hsame;simp only[Bn,B4] at hs;obtain⟨rfl,rfl,rfl⟩:=hs;refine fin hel heh (.inr ⟨mo,em,rfl,hem,hsame.1,hsame.2⟩) hk
        .cases hs
       .cases hs
     .cases hs
   .cases hs
 .cases hs
def S3 {t:TypeId} {x:Operand} {lo hi mx:Option Operand} {n:Nat} {y:E} {sv r:SV} {F:Eff} (ho:o.op= .slice t x lo hi mx) (h:Rel w0 Oe J U a.tmps w K hv O) (hG:GOk J G) (hx:opd P U G t x=some sv)
  (hsv:sv= .lit n y∨sv= .nil n∧y= .c (.l n [])) (hs:Gc P U G t n y lo hi mx=some (ws,r,F)) (hk:Chk J ws):Fc P o a w (Ix w0 Oe J U a.tmps F r):=by
 have hr:=F9 (ds:=a.defers) (C:=⟨J,C5 w O,K,hv,U.m⟩) hG rfl hx h.tmps;have hlit:∃xs b,y.ev J=some (.l n xs)∧a.eval x= .slice b xs.length xs.length∧Rep (C5 w O) (.l n xs) (a.eval x):=by
  rcases hsv with rfl|⟨rfl,rfl⟩
  .simp only[Cw] at hr;exact hr
  .simp only[Cw] at hr;have hr':a.eval x= .slice none 0 0:=hr;exact⟨[],none,by simp only[E.ev],hr',by rw[hr'];exact Rep.lnil _ _ _ _⟩
 obtain⟨xs,b,hy,hv1,hrep⟩:=hlit;unfold Gc at hs;split at hs
 .rename_i e h0 he;have hu:P.underlying t=some (.slice e):=by
   unfold Is at he;split at he
   .rename_i h;rw[h];injection he with he;rw[he]
   .cases he
  split at hs
  .rename_i eh heh;split at hs
   .rename_i hcond;obtain⟨rfl,hne⟩:=hcond;simp only[Bn,B4] at hs;obtain⟨rfl,rfl,rfl⟩:=hs;obtain⟨q1,hq1⟩:=Chk.g hk hG (.head _);obtain⟨q2,hq2⟩:=Chk.g hk hG (.tail _ (.head _));simp only[E.ev,hy,B0,Bl] at hq1;obtain⟨ph,hph,hq1⟩:=hq1;unfold Kt at hq1;split at hq1
    .rename_i sz' xs' kl nl kh nh heq1 heq2;injection heq1 with e1 e2;subst e1;subst e2;injection heq2 with e3 e4;subst e3;subst e4;have hlen:nh=xs.length:=by
      simp only[Gd2,E.ev,hph,hy,B0,H7,X.bin] at hq2;by_cases hkk:kh= .i64
      .subst hkk;simp only[Gd,if_true,B0] at hq2;by_cases hn:nh=xs.length
       .exact hn
       .have:(nh==(xs.length:Int))=false:=by simpa using hn
        rw[this] at hq2;simp[PV.scal] at hq2
      .simp[hkk] at hq2
     subst hlen;have hhi:=Eb4 (x:=h0) (C:=⟨J,C5 w O,K,hv,U.m⟩) rfl hG h.tmps (d:= .c .u) heh hph (by omega);obtain⟨k,hk2⟩:∃k,a.eval h0= .int k (xs.length:Int):=by obtain⟨k,hk2⟩:=hhi;exact⟨k,by simpa using hk2⟩
     have hsize:=Gw (P:=P) (w:=w) (t:=e) rfl hne;have hrun:=Kk (P:=P) (w:=w) (b:=true) (len:=xs.length) (cap:=xs.length) (low:=none) (high:=some (a.eval h0)) (max:=none) (l:=0) (h:=xs.length) (m:=xs.length) rfl ⟨k,hk2⟩ rfl (Dz _) (B7 _) (B7 _);refine Fc.value (v:=a.eval x) (w':=w) ?_ (.keep h ?_)
     .have:∀(m:Nat) (b:Option Addr),Option.map (fun a:Addr=>a.add 0) b=b:=fun _ b=>by cases b<;>rfl
      simp[execOp,ho,Instr.sliceAt,Instr.slice,run_underlying hu,hv1,hrun,hsize];intro _;cases b<;>rfl
     .simp only[Cw];exact⟨xs,b,hy,hv1,hrep⟩
    .cases hq1
   .cases hs
  .cases hs
 .cases hs
end
section
variable {P:Program} {w0:Fr} {Oe:Nat->Option Nat} {J:List PV} {U:St} {a:Act} {w:World} {K:Nat->Nat} {hv:Nat->Value} {O:Nat->Option Nat} {G:Option E} {o:Oper} {ws:List W}
def Hf7 {src dst e:TypeId} {x:Operand} {ex:E} (ho:o.op= .convert src dst x) (hs:P.underlying src=some .string) (hd:P.underlying dst=some (.slice e)) (he:P.underlying e=some (.int .u8))
  (h:Rel w0 Oe J U a.tmps w K hv O) (hG:GOk J G) (hx:G8 P U G 0 x=some ex) (hk:Chk J [Hp G (.s2b ex)]):Fc P o a w (Ix w0 Oe J U a.tmps (Hz U) (.e (.s2b ex))):=by
 obtain⟨q,hq⟩:=hk.g1 hG;obtain⟨p,hp,hpr⟩:=E6 (ds:=a.defers) (C:=⟨J,C5 w O,K,hv,U.m⟩) hG rfl hx h.tmps;have hp':ex.ev J=some p:=hp;have hq':=hq;simp only[E.ev,hp',B0] at hq';unfold Ap1 at hq';split at hq'
 .rename_i s;split at hq'
  .injection hq' with hq';obtain⟨z,hz,hzd⟩:=hpr.str;have hz':a.eval x= .string z:=hz;have hzs:z.size=s.length:=by rw[<-hzd,Dv];rfl
   have hrun:=run_bytes_of_string (P:=P) w src dst e z hs hd he;generalize hR:bytesRow z (grownCap w z.size 0 e)=R at hrun;have hbel:Blw w.heap.size w (w.drew.alloc (.cells R e (R.size,R.size+1))):=((Blw.refl _ _).drew).alloc (B7 _) _;have hrel:=h.below hbel;refine Fc.value (v:= .slice (some ⟨w.heap.size,0,none⟩) z.size (grownCap w z.size 0 e)) (w':=w.drew.alloc (.cells R e (R.size,R.size+1))) ?_ (.keep hrel ?_)
   .simp only[execOp,ho,hz',Sem.run_bind,hrun,Result.andThen];rfl
   .simp only[Cw];refine⟨q,hq,?_⟩;rw[<-hq'];have hl:(bytesPV s).length=z.size:=by simp[bytesPV,hzs]
    rw[<-hl];have each:∀(i:Nat) (y:PV),(bytesPV s)[i]? =some y->∃b,s[i]? =some b∧y= .i .u8 (b.toNat:Int):=by intro i y hy;simp only[bytesPV,Dk,Bs] at hy;obtain⟨b,hb,rfl⟩:=hy;exact⟨b,hb,rfl⟩
    have each2:∀(i:Nat) (y:PV) (j:Nat) (c:PV),(bytesPV s)[i]? =some y->y.cells[j]? =some c->∃b,s[i]? =some b∧j=0∧c= .i .u8 (b.toNat:Int):=by
     intro i y j c hy hc;obtain⟨b,hb,rfl⟩:=each i y hy;cases j with
     |zero=>simp[PV.cells] at hc;exact⟨b,hb,rfl,hc.symm⟩
     |succ j=>simp[PV.cells] at hc
    refine .l _ _ _ _ ⟨w.heap.size,0,none⟩ (fun i _=> .int .u8 ((s.getD i 0).toNat:Int)) (by rw[hl];exact grownCap_ge _ _ _ _) (fun _=>rfl) (fun i y hy=> ?_) (fun i y j c hy hc=> ?_) (fun i y j c hy hc=>rfl) (fun i y j c hy hc=> ?_)
    .obtain⟨b,_,rfl⟩:=each i y hy;rfl
    .obtain⟨b,hb,rfl,rfl⟩:=each2 i y j c hy hc;rw[add_lit];refine F8 ?_ fun lim hl=> ?_
     .have h1:=World.cell?_alloc_mark w.drew R e (R.size,R.size+1) (0+(i*1+0));have h2:w.drew.heap.size=w.heap.size:=rfl;rw[h2] at h1;rw[h1,<-hR];have hi:i<s.length:=(Br.1 hb).1;have hi2:i<z.data.size:=by rw[<-Dv,hzd];exact hi
      have hb2:z.data[i]? =some b:=by rw[<-B9,hzd];exact hb
      simp only[bytesRow,Ig,Nat.mul_one,G6];rw[Em (by simpa using hi2)];simp[hb2,hb,C4]
     .have:=h.out w.heap.size (B7 _);rw[show O w.heap.size=none from this] at hl;cases hl
    .obtain⟨b,hb,rfl,rfl⟩:=each2 i y j c hy hc;simp only[C4,hb,Ez];exact .i _ _
  .cases hq'
 .cases hq'
def Nz:∀(ns:List Int) (r:ByteArray),(ns.foldl (fun r n=>r.push (UInt8.ofNat n.toNat)) r).data.toList=r.data.toList++ns.map fun n=>UInt8.ofNat n.toNat
 |[],r=>by simp
 |n::ns,r=>by simp only[il,G2];rw[Nz ns];simp[ByteArray.push]
def Ow:∀{xs:List PV} {s:List UInt8},xs.mapM byteOf? =some s->∃ns:List Int,xs=ns.map (.i .u8)∧s=(ns.map fun n=>UInt8.ofNat n.toNat)∧∀n∈ns,0<=n∧n<256
 |[],s,h=>by simp at h;exact⟨[],rfl,h,by simp⟩
 |x::xs,s,h=>by
  simp only[Kx,T8,Bl,ib,Bn] at h;obtain⟨b,hb,r,hr,rfl⟩:=h;obtain⟨ns,rfl,rfl,hrg⟩:=Ow hr;unfold byteOf? at hb;split at hb
  .rename_i n;split at hb
   .rename_i hr0;injection hb with hb;refine⟨n::ns,rfl,by rw[<-hb];rfl,fun m hm=> ?_⟩;rcases Ch.1 hm with rfl|hm
    .exact hr0
    .exact hrg m hm
   .cases hb
  .cases hb
def Hg5 {src dst e:TypeId} {x:Operand} {sv:SV} {ex:E} {ss:List Nat} (ho:o.op= .convert src dst x) (hs:P.underlying src=some (.slice e)) (hd:P.underlying dst=some .string) (he:P.underlying e=some (.int .u8))
  (h:Rel w0 Oe J U a.tmps w K hv O) (hG:GOk J G) (hx:opd P U G 0 x=some sv) (hy:toE U.m 20 sv=some (ex,ss)) (hk:Chk J [Hp G (.b2s ex)]):Fc P o a w (Ix w0 Oe J U a.tmps (Hz U) (.e (.b2s ex))):=by
 obtain⟨q,hq⟩:=hk.g1 hG;have hr:=F9 (ds:=a.defers) (C:=⟨J,C5 w O,K,hv,U.m⟩) hG rfl hx h.tmps;obtain⟨O',_,hM,hop,_⟩:=h.frz ss (n:=U.n);obtain⟨p,hp,hpr⟩:=Vj h hM 20 sv _ ex ss hy hr (fun s hs=>hop s (by simpa using hs));have hq':=hq;simp only[E.ev,hp,B0] at hq';unfold Yf at hq';split at hq'
 .rename_i xs;obtain⟨s,hs',hq''⟩:=Bs.1 hq';obtain⟨ns,rfl,rfl,_⟩:=Ow hs';have hpr':Rep (C5 w O') (.l 1 (ns.map (.i .u8))) (a.eval x):=hpr;generalize hv1:a.eval x=v1 at hpr';have fin:∀z:ByteArray,(convert src dst v1).run P w= .ok (.string z) w->z.data.toList=ns.map (fun n=>UInt8.ofNat n.toNat)->Fc P o a w (Ix w0 Oe J U a.tmps (Hz U) (.e (.b2s ex))):=by
   intro z hz1 hz2;refine Fc.value (v:= .string z) (w':=w) ?_ (.keep h ?_)
   .simp only[execOp,ho,hv1,Sem.run_bind,hz1,Result.andThen];rfl
   .simp only[Cw];exact⟨q,hq,by rw[<-hq''];exact .s _ _ hz2⟩
  cases hpr' with
  |l _ _ base cap ad el hc hb hs1 hMm h1 hh=>
   cases hbase:base with
   |none=>
    have hns:ns=[]:=by refine Classical.byContradiction fun hne=> ?_;have:=hb (by simpa using hne);rw[hbase] at this;cases this
    subst hns;subst hbase;exact fin ByteArray.empty (run_convert_bytes_nil w src e hs he _ _ dst hd) rfl
   |some ad'=>
    subst hbase;have hloads:(loadCells ad' (ns.map (PV.i .u8)).length).run P w= .ok (ns.map (Value.int .u8)).toArray w:=by
     have:=run_loadCells_list (P:=P) w ad' (ns.map (Value.int .u8)) fun j v hj=> ?_
     .simpa using this
     .simp only[Dk,Bs] at hj;obtain⟨n,hn,rfl⟩:=hj;have hne:ns.map (PV.i .u8)≠[]:=by intro h0;simp at h0;subst h0;simp at hn
      have:=hb hne;injection this with this;subst this;have hx1:(ns.map (PV.i .u8))[j]? =some (.i .u8 n):=by simp[hn]
      have h2:=hMm j _ 0 _ hx1 (show (PV.i .u8 n).cells[0]? =some (.i .u8 n) from rfl);have h3:=hh j _ 0 _ hx1 (show (PV.i .u8 n).cells[0]? =some (.i .u8 n) from rfl);rw[h3.int] at h2;have:=(M1 h2).1;simpa using this
    refine fin _ ((run_convert_bytes_string w src dst e _ _ _ hs he hd).trans (run_bytesToString w ad' _ cap ns hloads)) ?_;rw[Nz];rfl
 .cases hq'
end
section
variable {P:Program} {w0:Fr} {Oe:Nat->Option Nat} {J:List PV} {U:St} {a:Act} {w:World} {K:Nat->Nat} {hv:Nat->Value} {O:Nat->Option Nat} {G:Option E} {o:Oper} {ws:List W}
def On (C:Cx):List (Nat×SV)->List (Nat×Value)->Prop
 |[],[]=>True
 |x::xs,y::ys=>x.1=y.1∧Cw C x.2 y.2∧On C xs ys
 |_,_=>False
def uj {C:Cx} (hC:C.J=J) (hG:GOk J G) (h:Cd C U.t a.tmps.toList) {tf:Nat->TypeId}:∀{ps:List (Nat×Operand)} {vs:List (Nat×SV)},Cm1 P U G tf ps=some vs->On C vs (ps.map fun p=>(p.1,a.eval p.2))
 |[],vs,hp=>by simp only[Cm1,Bn] at hp;subst hp;trivial
 |(i,x)::ps,vs,hp=>by
  simp only[Cm1] at hp;split at hp
  .rename_i y ys hy hys;injection hp with hp;subst hp;exact⟨rfl,F9 (ds:=a.defers) hG hC hy h,uj hC hG h hys⟩
  .cases hp
def Ac9 (off:Nat):∀(l:List Value) (k:Nat) (cells:Array Value),off+k+l.length<=cells.size->
  ((l.zipIdx k).foldl (fun cs (x:Value×Nat)=>cs.setIfInBounds (off+x.2) x.1) cells).toList=cells.toList.take (off+k)++l++cells.toList.drop (off+k+l.length)
 |[],k,cells,_=>by simp
 |v::l,k,cells,h=>by
  simp only[List.zipIdx_cons,il];simp only[Cq] at h;rw[Ac9 off l (k+1) _ (by simp;omega)];have hlt:off+k<cells.toList.length:=by simp;omega
  rw[Array.toList_setIfInBounds,<-G1,List.take_set,List.take_succ_eq_append_getElem hlt,List.drop_set_of_lt (by omega)];have hl2:(cells.toList.take (off+k)).length=off+k:=by rw[Cv];omega
  have:=c7 (cells.toList.take (off+k)) (cells.toList[off+k]) v;rw[hl2] at this;rw[this];simp[Nat.add_comm 1,G1]
def Dw7 {C:Cx} {m:List (Nat×Blk)} {kp:Bool} (hm:C.m=m) (harr:∀s e sz x ro,mget m s=some (.arr e sz x ro)->One (C.hv s)) {pl:Nat->Option (Nat×TypeId)} {pm:Nat->Option (Nat×Nat)} (hpl:∀i off ft,pl i=some (off,ft)->pm i=some (off,Cj P ft)):
  ∀{vs:List (Nat×SV)} {ps:List (Nat×Value)} {cs cs':List SV} {ws:List W} {cells:Array Value},aj P m kp pl vs cs=some (ws,cs')->(∀x,W.chk x∈ws->∃p,x.ev C.J=some p)->On C vs ps->
   Cd C cs cells.toList->(∀u,u∈cells.toList->One u)->∃cells',Instr.fill pm cells ps=some cells'∧Cd C cs' cells'.toList∧∀u,u∈cells'.toList->One u
 |[],[],cs,cs',ws,cells,h,hk,hp,hr,h1=>by simp only[aj,Bn,B4] at h;obtain⟨_,rfl⟩:=h;exact⟨cells,rfl,hr,h1⟩
 |[],_::_,_,_,_,_,_,_,hp,_,_=>hp.elim
 |_::_,[],_,_,_,_,_,_,hp,_,_=>hp.elim
 |(i,sv)::vs,(j,v)::ps,cs,cs',ws,cells,h,hk,hp,hr,h1=>by
  obtain⟨hij,hrv,hp⟩:=hp;simp only at hij hrv;subst hij;simp only[aj] at h;split at h
  .rename_i off ft hpi;split at h
   .rename_i ws1 vs1 hc;split at h
    .rename_i hle;obtain⟨⟨ws2,cs2⟩,hrec,he⟩:=Bs.1 h;simp only[B4] at he;obtain⟨rfl,rfl⟩:=he;obtain⟨c1,c2,c3,c4⟩:=Dz2 hm hc (fun x hx=>hk x (F3 _ hx)) harr hrv;have hlen:=hr.length;have hsz:v.cells.toList.length=Cj P ft:=by simpa using c1
     have hcl:off+v.cells.size<=cells.size:=by
      have:cs.length=cells.size:=by simpa using hlen
      omega
     have hset:=Cd.setCells (off:=off) hr c4 hle;have hfold:=Ac9 off v.cells.toList 0 cells (by simpa using hcl);let cells2:=(v.cells.zipIdx.foldl (fun cs (c,j)=>cs.setIfInBounds (off+j) c) cells);have hcells2:cells2.toList=cells.toList.take off++v.cells.toList++cells.toList.drop (off+v.cells.toList.length):=by
      have e:cells2=((v.cells.toList.zipIdx 0).foldl (fun cs (x:Value×Nat)=>cs.setIfInBounds (off+x.2) x.1) cells):=by show v.cells.zipIdx.foldl _ _=_;rw[<-Array.foldl_toList,Array.toList_zipIdx]
      rw[e];simpa using hfold
     have h12:∀u,u∈cells2.toList->One u:=by
      intro u hu;rw[hcells2] at hu;rcases Dw.1 hu with hu|hu
      .rcases Dw.1 hu with hu|hu
       .exact h1 u (Fw hu)
       .exact c3 u hu
      .exact h1 u (Fx hu)
     obtain⟨cells',g1,g2,g3⟩:=Dw7 hm harr hpl (cells:=cells2) hrec (fun x hx=>hk x (Ej _ hx)) hp (by rw[hcells2];exact hset) h12;refine⟨cells',?_,g2,g3⟩;simp only[Instr.fill,hpl i off ft hpi];rw[if_neg (by simp;exact⟨c1,hcl⟩)];exact g1
    .cases h
   .cases h
  .cases h
def lj:∀fs:List Field,(∀f,f∈fs->(P.info? f.type).isSome)->(fs.mapM fun f=>(P.info? f.type).map fun i=>(f.offset,i.size))=some (fs.map fun f=>(f.offset,Cj P f.type))
 |[],_=>by simp
 |f::fs,h=>by obtain⟨i,hi⟩:=Dt.1 (h f (.head _));simp[Kx,hi,lj fs fun g hg=>h g (.tail _ hg),Cj]
def Eq1 {t:TypeId} {parts:Array (Nat×Operand)} {tf:Nat->TypeId} {zs cs:List SV} {vs:List (Nat×SV)} (ho:o.op= .build t parts) (h:Rel w0 Oe J U a.tmps w K hv O) (hG:GOk J G) (hz:Jd P t=some zs) (hv1:Cm1 P U G tf parts.toList=some vs)
  {kp:Bool} (hf:aj P U.m kp (V2 P t) vs zs=some (ws,cs)) (hp:sy P t=true) (hk:Chk J ws) {r0:SV} (hr0:r0= .ag cs∨r0=nn cs):Fc P o a w (Ix w0 Oe J U a.tmps (Hz U) r0):=by
 let C:Cx:=⟨J,C5 w O,K,hv,U.m⟩;obtain⟨i,z,hi,hzz,hsz,h1,hr⟩:=H2 (C:=C) hz;have hparts:=uj (C:=C) rfl hG h.tmps hv1;have hpt:(parts.map fun (i,x)=>(i,a.eval x)).toList=parts.toList.map fun p=>(p.1,a.eval p.2):=by simp
 have go:∀pm,(∀i off ft,V2 P t i=some (off,ft)->pm i=some (off,Cj P ft))->(∀cells,Instr.fill pm z.cells (parts.map fun (i,x)=>(i,a.eval x)).toList=some cells->P.built t (parts.map fun (i,x)=>(i,a.eval x)).toList=some cells)->
   Fc P o a w (Ix w0 Oe J U a.tmps (Hz U) r0):=by
  intro pm hpm hb;obtain⟨cells',g1,g2,g3⟩:=Dw7 (C:=C) rfl h.oneH hpm hf hk hparts hr h1;refine Fc.value (v:= .agg cells') (w':=w) ?_ (.keep h (by
   rcases hr0 with rfl|rfl
   .simp only[Cw];exact⟨cells',rfl,g3,g2⟩
   .exact Uw g2 g3))
  have:=run_build w t _ cells' (hb cells' (by rw[hpt];exact g1));simp only[execOp,ho,Sem.run_bind,this,Result.andThen];rfl
 unfold sy at hp;split at hp
 .rename_i fs hu;refine go (fun i=>(fs.toList.map fun f=>(f.offset,Cj P f.type)).toArray[i]?) (fun i off ft hi=> ?_) (fun cells hc=> ?_)
  .simp only[V2,hu] at hi;obtain⟨f,hf1,he⟩:=Bs.1 hi;simp only[B4] at he;obtain⟨rfl,rfl⟩:=he;simp[hf1]
  .unfold Program.built;simp only[hi,hu,hzz];rw[lj fs.toList (fun f hf=>by simpa using (Ds.1 hp) f hf)];exact hc
 .rename_i n e hu;obtain⟨ie,hie⟩:=Dt.1 hp;refine go (fun i=>some (i*ie.size,ie.size)) (fun i off ft hi=> ?_) (fun cells hc=> ?_)
  .simp only[V2,hu,Bn,B4] at hi;obtain⟨rfl,rfl⟩:=hi;simp[Cj,hie]
  .unfold Program.built;simp only[hi,hu,hzz,hie];exact hc
 .cases hp
end
section
variable {P:Program} {w0:Fr} {Oe:Nat->Option Nat} {J:List PV} {U:St} {a:Act} {tm:Array Value} {w:World} {K:Nat->Nat} {hv:Nat->Value} {O:Nat->Option Nat} {G:Option E} {o:Oper} {ws:List W}
def Own.mono {B B':Nat->Prop} {e size n:Nat} {v:Value} {xs:List Value} (h:Own w B e size v n xs) (hb:∀g,B g->B' g):Own w B' e size v n xs:=by
 refine⟨h.1,?_⟩;rcases h.2 with h1|⟨g,cap,cur,h1,h2,h3,h4⟩
 .exact .inl h1
 .exact .inr ⟨g,cap,cur,h1,h2,hb g h3,h4⟩
def Rel.own {w':World} {O':Nat->Option Nat} {s e sz n:Nat} {ro:Ro} {x:E} {v:Value} {xs:List PV} {vs:List Value} (h:Rel w0 Oe J U tm w K hv O)
  (hb:Blw w.heap.size w w') (hO:∀c,c<w.heap.size->O' c=O c) (hout:∀c,w'.heap.size<=c->O' c=none) (hO0:∀g,Dd v=some g->O' g=some 0)
  (hsz:0<sz) (hx:x.ev J=some (.l sz xs)) (how:Own w' (Bz7 w.heap.size) e sz v xs.length vs) (hel:J5 (C5 w' O') sz xs vs) (hlk:∀C':Cx,Hr C' sz xs.length vs ro.lk:=by intro _;trivial):
  ∃β' hv',Rel w0 Oe J (U.eff (H0 U.m n s (.arr e sz x ro))) tm w' β' hv' O'∧hv' s=v:=by
 let β':=fun s'=>if s'=s then(Dd v).getD 0 else K s'
 let hv':=fun s'=>if s'=s then v else hv s'
 have hβ:∀s',s'≠s->β' s'=K s':=fun s' hs=>if_neg hs;have hhv:∀s',s'≠s->hv' s'=hv s':=fun s' hs=>if_neg hs;have hβs:β' s=(Dd v).getD 0:=if_pos rfl;have hhvs:hv' s=v:=if_pos rfl;have hs0:w0.heap.size<=w.heap.size:=h.bel.size;have hM:(C5 w O).Le (C5 w' O'):=Ir (fun c hc _=>hb.block c hc) (fun c hc lim hl=>⟨lim,by rw[<-hO c hc];exact hl,B7 _⟩) (fun c hc hn=>by rw[hO c hc];exact hn);refine⟨β',hv',h.fresh (h.bel.then hb) hM hβ hhv (fun s' b' hs hb' hh=> ?_) (fun c hc hx=>by rw[hO c (Gl hc hs0)];exact h.ext c hc hx) hout ?_ (fun s' b' hs hb' hh hh2=> ?_),hhvs⟩
 .have hlt:=((h.mem s' b' hb').lt hh).2;exact⟨hb.block _ hlt,hO _ hlt⟩
 .refine⟨hsz,xs,vs,hx,?_,hel,fun g hg=> ?_,hlk _⟩
  .show Own w' w0.ok e sz (hv' s) xs.length vs;rw[hhvs];exact how.mono fun g hg=> .inl (Ep hs0 hg)
  .have hg':Dd (hv' s)=some g:=hg;rw[hhvs] at hg';refine⟨?_,0,hO0 g hg',Dz _,fun _=>rfl⟩;show g=β' s;rw[hβs,hg'];rfl
 .have hlt:K s'<w.heap.size:=((h.mem s' b' hb').lt hh).2;have hh2':Dd (hv' s)=some (β' s):=hh2;rw[hhvs] at hh2';have:=(how.lt _ hh2').1;omega
def Rel.ownNew {w':World} {s e sz n:Nat} {ro:Ro} {x:E} {v:Value} {xs:List PV} {vs:List Value} (h:Rel w0 Oe J U tm w K hv O)
  (hb:Blw w.heap.size w w') (hw:w.heap.size+1<=w'.heap.size) (hv1:∀g,Dd v=some g->g=w.heap.size)
  (hsz:0<sz) (hx:x.ev J=some (.l sz xs)) (how:Own w' (Bz7 w.heap.size) e sz v xs.length vs) (hel:J5 (C5 w O) sz xs vs) (hlk:∀C':Cx,Hr C' sz xs.length vs ro.lk:=by intro _;trivial):
  ∃β' hv' O',Rel w0 Oe J (U.eff (H0 U.m n s (.arr e sz x ro))) tm w' β' hv' O'∧hv' s=v:=by
 let O':=fun c=>if c=w.heap.size then some 0 else O c
 have hO:∀c,c<w.heap.size->O' c=O c:=fun c hc=>if_neg (by omega);have hM:(C5 w O).Le (C5 w' O'):=Ir (fun c hc _=>hb.block c hc) (fun c hc lim hl=>⟨lim,by rw[<-hO c hc];exact hl,B7 _⟩) (fun c hc hn=>by rw[hO c hc];exact hn);obtain⟨β',hv',h1,h2⟩:=h.own (n:=n) (s:=s) (O':=O') hb hO (fun c hc=>by show (if c=w.heap.size then some 0 else O c)=none;rw[if_neg (by omega)];exact h.out c (by omega)) (fun g hg=>by rw[hv1 g hg];exact if_pos rfl) hsz hx how (hel.mono hM) hlk;exact⟨β',hv',O',h1,h2⟩
def Bv2 {M:Vw} {sz:Nat} (hsz:0<sz) {ps:List PV} {vs:List Value} (hl:ps.length=vs.length) (hok:V6 sz ps=true) (h1:∀v,v∈vs->v.cells.size=sz∧∀u,u∈v.cells.toList->One u)
  (h:∀(j:Nat) (p:PV) (v:Value),ps[j]? =some p->vs[j]? =some v->Rep M p v):J5 M sz ps (vs.flatMap fun v=>v.cells.toList):=by
 intro i x hx;have hxs:x.cells.length=sz:=by have:=(Ds.1 hok) x (B6 hx);simpa using this
 refine⟨hxs,fun j c hc=> ?_⟩;have hj:j<sz:=by rw[<-hxs];exact(Br.1 hc).1
 have hi:i<vs.length:=by rw[<-hl];exact(Br.1 hx).1
 have hv:vs[i]? =some vs[i]:=B3 hi;obtain⟨g1,g2⟩:=h1 _ (H1 hi);have hk:(vs.flatMap fun v=>v.cells.toList)[i*sz+j]? =vs[i].cells[j]? :=by
  rw[Great.flat_get hsz vs (fun v hv=>(h1 v hv).1)];have e1:(i*sz+j) / sz=i:=by rw[Hg,Nat.mul_add_div hsz,Nat.div_eq_of_lt hj,G6]
  have e2:(i*sz+j) % sz=j:=by rw[Hg,ic,Fj hj]
  rw[e1,e2,hv];rfl
 have hu:vs[i].cells[j]? =some (vs[i].cells[j]'(by omega)):=E8 (by omega);refine⟨_,hk.trans hu,g2 _ (by simp),?_⟩;have hr:=h i x _ hx hv;by_cases hpu:x= .u
 .subst hpu;cases j with
  |zero=>simp[PV.cells] at hc;subst hc;exact .u _
  |succ j=>simp[PV.cells] at hc
 .exact(hr.cells hpu).2.2 j c _ hc hu
def ay {C:Cx} {m:List (Nat×Blk)} (hm:C.m=m) (harr:∀s e sz x ro,mget m s=some (.arr e sz x ro)->One (C.hv s)) {e:TypeId}:∀{svs:List SV} {vs:List Value} {ws:List W},Ng P m e svs=some ws->(∀x,W.chk x∈ws->∃p,x.ev C.J=some p)->Cd C svs vs->
  ∀v,v∈vs->v.cells.size=Cj P e∧∀u,u∈v.cells.toList->One u
 |[],vs,ws,_,_,hr,v,hv=>by simp only[Cd] at hr;subst hr;simp at hv
 |sv::svs,vs,ws,h,hk,hr,v,hv=>by
  simp only[Cd] at hr;obtain⟨y,r,rfl,h1,h2⟩:=hr;simp only[Ng] at h;split at h
  .rename_i ws1 cs1 ws2 hc hrec;injection h with h;subst h;rcases Ch.1 hv with rfl|hv
   .obtain⟨c1,_,c3,_⟩:=J9 hm hc (fun x hx=>hk x (F3 _ hx)) harr h1;exact⟨c1,c3⟩
   .exact ay hm harr hrec (fun x hx=>hk x (Ej _ hx)) h2 v hv
  .cases h
def On.svs {C:Cx}:∀{vs:List (Nat×SV)} {ps:List (Nat×Value)},On C vs ps->Cd C (vs.map (·.2)) (ps.map (·.2))∧vs.map (·.1)=ps.map (·.1)
 |[],[],_=>by simp only[List.map_nil,Cd,and_self]
 |[],_::_,h=>h.elim
 |_::_,[],h=>h.elim
 |x::xs,y::ys,h=>by obtain⟨h1,h2,h3⟩:=h;obtain⟨g1,g2⟩:=On.svs h3;refine⟨?_,by simp only[G2,h1,g2]⟩;simp only[G2,Cd];exact⟨_,_,rfl,h2,g1⟩
def im:∀(ps:List (Nat×Value)) (k:Nat),ps.map (·.1)=List.range' k ps.length->ps=((ps.map (·.2)).zipIdx k).map fun x=>(x.2,x.1)
 |[],_,_=>rfl
 |p::ps,k,h=>by simp only[G2,Cq,List.range'_succ,List.cons.injEq] at h;simp only[G2,List.zipIdx_cons,List.cons.injEq];exact⟨by rw[<-h.1],im ps (k+1) h.2⟩
end
end Go.X
