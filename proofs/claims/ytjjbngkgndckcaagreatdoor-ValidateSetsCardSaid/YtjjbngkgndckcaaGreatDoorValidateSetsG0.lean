/- Values, expressions and residual programs: a small language into which the functions of a loaded program are carried. -/
import Derived.Below
import Derived.Calls
import Derived.Orders
import Derived.KernelRfl
import Derived.Laws.Sem
import Derived.Laws.AppendOwn
import Derived.Maps.AppendAt
open Array renaming getElem?_eq_some_iff->Dd
open Bool renaming and_eq_true->Bt,false_eq_true->B5,or_eq_true->Cq
open List renaming getElem?_eq_some_iff->Bn,getElem?_append_left->Cd,getElem?_take->Ch,eq_nil_of_length_eq_zero->Cp,getElem?_cons_zero->Dm,getElem?_set->Ev,getElem?_cons_succ->Ec,map_cons->Gs
open Nat renaming le_refl->B7,zero_le->D9,le_trans->En,add_assoc->Fc,lt_of_lt_of_le->F5
open Option renaming bind_eq_some_iff->Bl,map_eq_some_iff->Bp,map_some->Cc
open Option.some renaming injEq->Bm
set_option maxHeartbeats 1000000
set_option linter.defProp false
set_option linter.unusedVariables false
set_option linter.unusedSimpArgs false
namespace Go.X
open Go
inductive PV where
 |u
 |b (x:Bool)
 |i (k:IntKind) (n:Int)
 |s (x:List UInt8)
 |a (cs:List PV)
 |l (sz:Nat) (xs:List PV)
 |f (g:Nat) (caps:List PV)
 |m (es:List (PV×PV))
 /-- a pointer to cells that stay -/
 |pt (cs:List PV)
 deriving Inhabited
namespace PV
def cells:PV->List PV
 | .a cs=>cs
 |p=>[p]
def flat:PV->Bool
 | .b _| .i _ _| .s _=>true
 | .a cs=>flats cs
 |_=>false
where flats:List PV->Bool
 |[]=>true
 |p::ps=>flat p && flats ps
def scal:PV->Bool
 | .b _| .i _ _| .s _| .l _ _| .f _ _| .m _| .pt _=>true
 |_=>false
end PV
inductive Sc where
 |b|i (k:IntKind)|s
 deriving DecidableEq,Repr,Inhabited
def Bm4:Sc->PV->PV->Option Bool
 | .b,.b x,.b y=>some (x==y)
 | .i k,.i k1 x,.i k2 y=>if k1=k then(if k2=k then some (x==y) else none) else none
 | .s,.s x,.s y=>some (x==y)
 |_,_,_=>none
def G9:List Sc->List PV->List PV->Option Bool
 |[],[],[]=>some true
 |t::ts,x::xs,y::ys=>
  match Bm4 t x y,G9 ts xs ys with
  |some r,some q=>some (r && q)
  |_,_=>none
 |_,_,_=>none
def Gc (op:BinOp) (k:IntKind) (x y:Int):Option PV:=
 match op with
 | .add=>some (.i k (k.wrap (x+y)))
 | .sub=>some (.i k (k.wrap (x - y)))
 | .mul=>some (.i k (k.wrap (x*y)))
 | .quo=>if y=0 then none else some (.i k (k.wrap (x.tdiv y)))
 | .rem=>if y=0 then none else some (.i k (x.tmod y))
 | .and=>some (.i k (k.wrap (BitVec.ofInt k.bits x &&& BitVec.ofInt k.bits y).toNat))
 | .or=>some (.i k (k.wrap (BitVec.ofInt k.bits x|||BitVec.ofInt k.bits y).toNat))
 | .xor=>some (.i k (k.wrap (BitVec.ofInt k.bits x ^^^ BitVec.ofInt k.bits y).toNat))
 | .andNot=>some (.i k (k.wrap (BitVec.ofInt k.bits x &&& ~~~ BitVec.ofInt k.bits y).toNat))
 | .eql=>some (.b (x==y))
 | .neq=>some (.b (x !=y))
 | .lss=>some (.b (decide (x<y)))
 | .leq=>some (.b (decide (x<=y)))
 | .gtr=>some (.b (decide (x>y)))
 | .geq=>some (.b (decide (x>=y)))
 |_=>none
def Vt (op:BinOp) (x y:List UInt8):Option PV:=
 match op with
 | .add=>if((x.length+y.length:Nat):Int)>IntKind.i64.max then none else some (.s (x++y))
 | .eql=>some (.b (x==y))
 | .neq=>some (.b (!(x==y)))
 | .lss=>some (.b (Op.bytesLess x y))
 | .leq=>some (.b (Op.bytesLess x y||x==y))
 | .gtr=>some (.b (!(Op.bytesLess x y||x==y)))
 | .geq=>some (.b (!Op.bytesLess x y))
 |_=>none
def Md (op:BinOp) (k:IntKind) (x y:Int):Option PV:=
 if y<0 then none else
 match op with
 | .shl=>some (.i k (k.wrap (x*2 ^ (min y.toNat k.bits))))
 | .shr=>some (.i k (x.fdiv (2 ^ (min y.toNat k.bits))))
 |_=>none
def bin (op:BinOp) (x y:PV):Option PV:=
 match x,y with
 | .i k x,.i k' y=>
   match op with
   | .shl| .shr=>Md op k x y
   |_=>if k=k' then Gc op k x y else none
 | .s x,.s y=>Vt op x y
 |_,_=>none
def un (op:UnOp) (x:PV):Option PV:=
 match op,x with
 | .not,.b x=>some (.b (!x))
 | .neg,.i k n=>some (.i k (k.wrap (0 - n)))
 |_,_=>none
def LIM:Nat:=1073741824
def bytesPV (x:List UInt8):List PV:=x.map fun c=> .i .u8 (c.toNat:Int)
def byteOf? :PV->Option UInt8
 | .i .u8 n=>if 0<=n∧n<256 then some (UInt8.ofNat n.toNat) else none
 |_=>none
def setCells (cs:List PV) (off:Nat):List PV->List PV
 |[]=>cs
 |v::vs=>setCells (cs.set off v) (off+1) vs
def Rp (x:PV) (off:Nat) (vs:List PV):Option PV:=
 match x with
 | .a cs=>if off+vs.length<=cs.length then some (.a (setCells cs off vs)) else none
 |p=>if p.scal then(match off,vs with|0,[v]=>if v.scal then some v else none|_,_=>none) else none
inductive E where
 |v (n:Nat)
 |c (x:PV)
 |bin (op:BinOp) (x y:E)
 |un (op:UnOp) (x:E)
 |ite (g x y:E)
 |proj (j:Nat) (x:E)
 |sub (off n:Nat) (x:E)
 |agg (xs:List E)
 |fit (n:Nat) (x:E)
 |scal (x:E)
 |idx (sz:Nat) (x i:E)
 |len (x:E)
 |slen (x:E)
 |sidx (x i:E)
 |ssl (x lo hi:E)
 |lsl (sz:Nat) (x lo hi:E)
 |app (sz:Nat) (x y:E)
 |lit (sz:Nat) (xs:List E)
 |rep (sz:Nat) (n z:E)
 |set (sz:Nat) (x i:E) (off:Nat) (vs:List E)
 |conv (k:IntKind) (x:E)
 |b2s (x:E)
 |s2b (x:E)
 |eqs (neg agg:Bool) (ts:List Sc) (x y:E)
 |clo (g:Nat) (caps:List E)
 |mn (x y:E)
 |mx (x y:E)
 |mget (x k z:E)
 |mset (x k v:E)
 |der (x:E)
 |mkp (off:Nat) (x:E)
 |flt (x:E)
 deriving Inhabited
def Kf (sz:Nat):PV->PV->Option PV
 | .l sz' xs,.i _ n=>if sz'=sz then(if 0<=n then xs[n.toNat]? else none) else none
 |_,_=>none
def Hg:PV->Option PV
 | .l _ xs=>some (.i .i64 xs.length)
 |_=>none
def P1:PV->Option PV
 | .s x=>some (.i .i64 x.length)
 |_=>none
def Rl:PV->PV->Option PV
 | .s x,.i _ n=>if 0<=n then(x[n.toNat]?).map fun c=> .i .u8 (c.toNat:Int) else none
 |_,_=>none
def tp:PV->PV->PV->Option PV
 | .s x,.i _ lo,.i _ hi=>if 0<=lo∧lo<=hi∧hi<=x.length then some (.s ((x.take hi.toNat).drop lo.toNat)) else none
 |_,_,_=>none
def J3 (sz:Nat):PV->PV->PV->Option PV
 | .l sz' xs,.i _ lo,.i _ hi=>if sz'=sz then(if 0<=lo∧lo<=hi∧hi<=xs.length then some (.l sz ((xs.take hi.toNat).drop lo.toNat)) else none) else none
 |_,_,_=>none
def I0 (sz:Nat):PV->PV->Option PV
 | .l s1 xs,.l s2 ys=>if s1=sz∧s2=sz∧xs.length+ys.length<=LIM then some (.l sz (xs++ys)) else none
 |_,_=>none
def Sq (sz:Nat) (xs:List PV):Bool:=xs.all fun x=>x.cells.length==sz
def K1 (sz:Nat) (xs:List PV):Option PV:=if Sq sz xs then some (.l sz xs) else none
def Lx (sz:Nat):PV->PV->Option PV
 | .i .i64 n,z=>if 0<=n∧n<=LIM∧z.cells.length=sz then some (.l sz (List.replicate n.toNat z)) else none
 |_,_=>none
def T2 (sz:Nat) (off:Nat) (vs:List PV):PV->PV->Option PV
 | .l s1 xs,.i _ n=>if s1=sz∧0<=n then(xs[n.toNat]?).bind fun x=>(Rp x off vs).map fun y=> .l sz (xs.set n.toNat y) else none
 |_,_=>none
def qg (k:IntKind):PV->Option PV
 | .i _ n=>some (.i k (k.wrap n))
 |_=>none
def Ub:PV->Option PV
 | .l 1 xs=>(xs.mapM byteOf?).map .s
 |_=>none
def t6:PV->Option PV
 | .s x=>if x.length<=LIM then some (.l 1 (bytesPV x)) else none
 |_=>none
def Dg3:PV->PV->Option PV
 | .i k x,.i k' y=>if k=k' then some (.i k (if y<x then y else x)) else none
 |_,_=>none
def Df8:PV->PV->Option PV
 | .i k x,.i k' y=>if k=k' then some (.i k (if y>x then y else x)) else none
 |_,_=>none
def Ln (neg agg:Bool) (ts:List Sc) (p q:PV):Option PV:=
 match agg,p,q with
 |true,.a cs,.a ds=>(G9 ts cs ds).map fun r=> .b (if neg then !r else r)
 |false,p,q=>if p.scal && q.scal then(G9 ts [p] [q]).map fun r=> .b (if neg then !r else r) else none
 |_,_,_=>none
def b9:PV->PV->Option Bool
 | .b x,.b y=>some (x==y)
 | .i k x,.i k' y=>if k=k' then some (x==y) else none
 | .s x,.s y=>some (x==y)
 |_,_=>none
def Xk (k:PV):List (PV×PV)->Option (Option PV)
 |[]=>some none
 |e::es=>match b9 k e.1 with
  |some true=>some (some e.2)
  |some false=>Xk k es
  |none=>none
def Cs3 (k v:PV):List (PV×PV)->Option (List (PV×PV))
 |[]=>some [(k,v)]
 |e::es=>match b9 k e.1 with
  |some true=>some ((k,v)::es)
  |some false=>(Cs3 k v es).map fun r=>e::r
  |none=>none
def By5:PV->Bool
 | .b _| .i _ _| .s _=>true
 |_=>false
def bf:PV->PV->PV->Option PV
 | .m es,k,z=>if By5 k then(Xk k es).map fun r=>r.getD z else none
 |_,_,_=>none
def bz:PV->PV->PV->Option PV
 | .m es,k,v=>if By5 k then(Cs3 k v es).map .m else none
 |_,_,_=>none
def yq:PV->Option PV
 | .pt cs=>some (.a cs)
 |_=>none
def wh (off:Nat) (p:PV):Option PV:=some (.pt (p.cells.drop off))
def Dm1:PV->Option PV
 | .l sz xs=>if PV.flat.flats xs=true then some (.l sz xs) else none
 |_=>none
mutual
def E.ev (J:List PV):E->Option PV
 | .v n=>J[n]?
 | .c x=>some x
 | .bin op x y=>(x.ev J).bind fun p=>(y.ev J).bind fun q=>X.bin op p q
 | .un op x=>(x.ev J).bind fun p=>X.un op p
 | .ite g x y=>(g.ev J).bind fun r=>match r with| .b true=>x.ev J| .b false=>y.ev J|_=>none
 | .proj j x=>(x.ev J).bind fun p=>p.cells[j]?
 | .sub off n x=>(x.ev J).bind fun p=>if off+n<=p.cells.length then some (.a ((p.cells.drop off).take n)) else none
 | .agg xs=>(E.evs J xs).map .a
 | .fit n x=>(x.ev J).bind fun p=>match p with| .a cs=>if cs.length=n then some p else none|_=>none
 | .scal x=>(x.ev J).bind fun p=>if p.scal then some p else none
 | .idx sz x i=>(x.ev J).bind fun p=>(i.ev J).bind fun q=>Kf sz p q
 | .len x=>(x.ev J).bind Hg
 | .slen x=>(x.ev J).bind P1
 | .sidx x i=>(x.ev J).bind fun p=>(i.ev J).bind fun q=>Rl p q
 | .ssl x lo hi=>(x.ev J).bind fun p=>(lo.ev J).bind fun q=>(hi.ev J).bind fun r=>tp p q r
 | .lsl sz x lo hi=>(x.ev J).bind fun p=>(lo.ev J).bind fun q=>(hi.ev J).bind fun r=>J3 sz p q r
 | .app sz x y=>(x.ev J).bind fun p=>(y.ev J).bind fun q=>I0 sz p q
 | .lit sz xs=>(E.evs J xs).bind (K1 sz)
 | .rep sz n z=>(n.ev J).bind fun p=>(z.ev J).bind fun q=>Lx sz p q
 | .set sz x i off vs=>(x.ev J).bind fun p=>(i.ev J).bind fun q=>(E.evs J vs).bind fun r=>T2 sz off r p q
 | .conv k x=>(x.ev J).bind (qg k)
 | .b2s x=>(x.ev J).bind Ub
 | .s2b x=>(x.ev J).bind t6
 | .eqs neg ag ts x y=>(x.ev J).bind fun p=>(y.ev J).bind fun q=>Ln neg ag ts p q
 | .clo g caps=>(E.evs J caps).map (.f g)
 | .mn x y=>(x.ev J).bind fun p=>(y.ev J).bind fun q=>Dg3 p q
 | .mx x y=>(x.ev J).bind fun p=>(y.ev J).bind fun q=>Df8 p q
 | .mget x k z=>(x.ev J).bind fun p=>(k.ev J).bind fun q=>(z.ev J).bind fun r=>bf p q r
 | .mset x k y=>(x.ev J).bind fun p=>(k.ev J).bind fun q=>(y.ev J).bind fun r=>bz p q r
 | .der x=>(x.ev J).bind yq
 | .mkp off x=>(x.ev J).bind (wh off)
 | .flt x=>(x.ev J).bind Dm1
def E.evs (J:List PV):List E->Option (List PV)
 |[]=>some []
 |x::xs=>(x.ev J).bind fun p=>(E.evs J xs).map fun ps=>p::ps
end
inductive W where
 |chk (x:E)
 /-- a call: under the guard, if there is one; so many results -/
 |call (g:Option E) (flat:Bool) (f:Nat) (ar:List E) (m:Nat)
 |clo (g:Option E) (flat:Bool) (c:E) (ar:List E) (m:Nat)
 /-- a call that turns its first argument, a list of one's own: what it then is -/
 |mcall (f:Nat) (ar:List E)
 deriving Inhabited
inductive T where
 |w (x:W) (k:T)
 |ite (c:E) (t e:T)
 |ret (es:List E)
 |yld (id:Nat) (es:List E)
 |blk (id:Nat) (body k:T)
 |loop (id:Nat) (init:List E) (body:T)
 deriving Inhabited
inductive Out where
 |ret (vs:List PV)
 |yld (id:Nat) (vs:List PV)
 deriving Inhabited
def TAG:Nat:=1048576
abbrev Fns:=Nat->Nat->List PV->Option (List PV)
def results (flat:Bool) (m:Nat) (J:List PV) (r:Option (List PV)):Option (List PV):=
 r.bind fun vs=>if vs.length=m∧(flat=true->PV.flat.flats vs=true) then some (J++vs) else none
def F1 (J:List PV) (m:Nat) (g:Option E) (r:Option (List PV)):Option (List PV):=
 match g with
 |none=>r
 |some g=>(g.ev J).bind fun v=>match v with| .b true=>r| .b false=>some (J++List.replicate m .u)|_=>none
def W.ev (fn:Fns) (J:List PV):W->Option (List PV)
 | .chk x=>(x.ev J).map fun _=>J
 | .call g flat f ar m=>F1 J m g ((E.evs J ar).bind fun vs=>results flat m J (fn f vs.length vs))
 | .clo g flat c ar m=>F1 J m g ((c.ev J).bind fun q=>(E.evs J ar).bind fun vs=>match q with| .f f caps=>results flat m J (fn f vs.length (vs++caps))|_=>none)
 | .mcall f ar=>(E.evs J ar).bind fun vs=>results false 1 J (fn f (vs.length+TAG) vs)
def Hq (step:List PV->Option Out) (id:Nat):Nat->List PV->Option Out
 |0,_=>none
 |n+1,st=>(step st).bind fun o=>match o with
  | .yld j vs=>if j=id then Hq step id n vs else some (.yld j vs)
  | .ret vs=>some (.ret vs)
def T.ev (fn:Fns) (N:Nat):T->List PV->Option Out
 | .w x k,J=>(x.ev fn J).bind fun η'=>k.ev fn N η'
 | .ite c t e,J=>(c.ev J).bind fun r=>match r with| .b true=>t.ev fn N J| .b false=>e.ev fn N J|_=>none
 | .ret es,J=>(E.evs J es).map .ret
 | .yld id es,J=>(E.evs J es).map (.yld id)
 | .blk id body k,J=>(body.ev fn N J).bind fun o=>match o with
   | .yld j vs=>if j=id then k.ev fn N (J++vs) else some (.yld j vs)
   | .ret vs=>some (.ret vs)
 | .loop id init body,J=>(E.evs J init).bind fun st=>Hq (fun vs=>body.ev fn N (J++vs)) id N st
structure FT where
 np:Nat
 nf:Nat
 t:T
def Rt (tab:Nat->Option FT) (ext:Fns->Fns):Nat->Fns
 |0,_,_,_=>none
 |k+1,f,n,args=>match tab f with
  |some t=>if t.np=n∧args.length=t.np % TAG+t.nf then(t.t.ev (Rt tab ext k) k args).bind fun o=>match o with| .ret vs=>some vs|_=>none else none
  |none=>ext (Rt tab ext k) f n args
def NAP:Nat:=1099511627776
inductive SV where
 |e (x:E)
 |nil (sz:Nat)
 |lit (sz:Nat) (x:E)
 |may (g:E) (x:SV)
 |und
 |bp (s off:Nat)
 |ip (x:E) (off:Nat)
 |ap (s:Nat) (i:E) (off:Nat)
 |suf (s:Nat) (i:E)
 |h (s:Nat)
 |mh (s:Nat)
 |tup (xs:List SV)
 |ag (xs:List SV)
 |clo (g:Nat) (caps:List SV)
 |nilq (x:E)
 |slf (s T:Nat)
 deriving Inhabited
structure Ro where
 b:Bool
 lk:Option (Nat×Option (Option Nat))
 deriving DecidableEq,Inhabited
@[match_pattern] abbrev Ro.no:Ro:=⟨false,none⟩
inductive Blk where
 |box (cells:List SV) (ro:Bool)
 |arr (e sz:Nat) (x:E) (ro:Ro)
 |map (x:E) (ro:Bool)
 deriving Inhabited
structure St where
 t:List SV
 m:List (Nat×Blk)
 n:Nat
 deriving Inhabited
def PV.same:PV->PV->Bool
 | .u,.u=>true
 | .b x,.b y=>x==y
 | .i k x,.i k' y=>k==k' && x==y
 | .s x,.s y=>x==y
 | .l n [],.l n2 []=>n==n2
 | .f g [],.f g' []=>g==g'
 | .m [],.m []=>true
 |_,_=>false
mutual
def E.same:E->E->Bool
 | .v n,.v m=>n==m
 | .c x,.c y=>PV.same x y
 | .bin op x y,.bin op' x' y'=>decide (op=op') && x.same x' && y.same y'
 | .un op x,.un op' x'=>decide (op=op') && x.same x'
 | .ite g x y,.ite g' x' y'=>g.same g' && x.same x' && y.same y'
 | .proj j x,.proj j' x'=>j==j' && x.same x'
 | .sub o n x,.sub o' n' x'=>o==o' && n==n' && x.same x'
 | .agg xs,.agg ys=>E.sames xs ys
 | .fit n x,.fit n' x'=>n==n' && x.same x'
 | .scal x,.scal x'=>x.same x'
 | .idx s x i,.idx s' x' i'=>s==s' && x.same x' && i.same i'
 | .len x,.len x'=>x.same x'
 | .slen x,.slen x'=>x.same x'
 | .sidx x i,.sidx x' i'=>x.same x' && i.same i'
 | .ssl x l h,.ssl x' l' h'=>x.same x' && l.same l' && h.same h'
 | .lsl n x l h,.lsl n' x' l' h'=>n==n' && x.same x' && l.same l' && h.same h'
 | .app s x y,.app s' x' y'=>s==s' && x.same x' && y.same y'
 | .lit s xs,.lit s' ys=>s==s' && E.sames xs ys
 | .rep s n z,.rep s' n' z'=>s==s' && n.same n' && z.same z'
 | .conv k x,.conv k' x'=>k==k' && x.same x'
 | .clo g xs,.clo g' ys=>g==g' && E.sames xs ys
 | .set s x i o vs,.set s' x' i' o' vs'=>s==s' && x.same x' && i.same i' && o==o' && E.sames vs vs'
 | .b2s x,.b2s x'=>x.same x'
 | .s2b x,.s2b x'=>x.same x'
 | .eqs n g ts x y,.eqs n' g' ts' x' y'=>n==n' && g==g' && decide (ts=ts') && x.same x' && y.same y'
 | .mn x y,.mn x' y'=>x.same x' && y.same y'
 | .mx x y,.mx x' y'=>x.same x' && y.same y'
 | .mget x y z,.mget x' y' z'=>x.same x' && y.same y' && z.same z'
 | .mset x y z,.mset x' y' z'=>x.same x' && y.same y' && z.same z'
 | .der x,.der x'=>x.same x'
 | .mkp o x,.mkp o' x'=>o==o' && x.same x'
 | .flt x,.flt x'=>x.same x'
 |_,_=>false
def E.sames:List E->List E->Bool
 |[],[]=>true
 |x::xs,y::ys=>x.same y && E.sames xs ys
 |_,_=>false
end
mutual
def SV.same:SV->SV->Bool
 | .e x,.e y=>x.same y
 | .nil n,.nil m=>n==m
 | .lit n x,.lit m y=>n==m && x.same y
 | .may g x,.may g' x'=>g.same g' && x.same x'
 | .und,.und=>true
 | .bp s o,.bp s' o'=>s==s' && o==o'
 | .ip x o,.ip x' o'=>x.same x' && o==o'
 | .ap s i o,.ap s' i' o'=>s==s' && i.same i' && o==o'
 | .suf s i,.suf s' i'=>s==s' && i.same i'
 | .h s,.h s'=>s==s'
 | .mh s,.mh s'=>s==s'
 | .tup xs,.tup ys=>SV.sames xs ys
 | .ag xs,.ag ys=>SV.sames xs ys
 | .clo g xs,.clo g' ys=>g==g' && SV.sames xs ys
 | .nilq x,.nilq y=>x.same y
 | .slf s t,.slf s' t'=>s==s' && t==t'
 |_,_=>false
def SV.sames:List SV->List SV->Bool
 |[],[]=>true
 |x::xs,y::ys=>x.same y && SV.sames xs ys
 |_,_=>false
end
mutual
def E.scp (n:Nat):E->Bool
 | .v m=>decide (m<n)
 | .c _=>true
 | .bin _ x y=>x.scp n && y.scp n
 | .un _ x=>x.scp n
 | .ite g x y=>g.scp n && x.scp n && y.scp n
 | .proj _ x| .sub _ _ x| .fit _ x| .scal x| .len x| .slen x| .conv _ x| .b2s x| .s2b x| .der x| .mkp _ x| .flt x=>x.scp n
 | .agg xs| .lit _ xs| .clo _ xs=>E.scps n xs
 | .idx _ x i| .sidx x i=>x.scp n && i.scp n
 | .ssl x l h| .lsl _ x l h=>x.scp n && l.scp n && h.scp n
 | .app _ x y| .rep _ x y| .eqs _ _ _ x y| .mn x y| .mx x y=>x.scp n && y.scp n
 | .set _ x i _ vs=>x.scp n && i.scp n && E.scps n vs
 | .mget x k z| .mset x k z=>x.scp n && k.scp n && z.scp n
def E.scps (n:Nat):List E->Bool
 |[]=>true
 |x::xs=>x.scp n && E.scps n xs
end
mutual
def SV.scp (n:Nat):SV->Bool
 | .e x| .lit _ x| .ip x _| .nilq x=>x.scp n
 | .may g x=>g.scp n && x.scp n
 | .ap _ i _| .suf _ i=>i.scp n
 | .nil _| .und| .bp _ _| .h _| .mh _| .slf _ _=>true
 | .tup xs| .ag xs| .clo _ xs=>SV.scps n xs
def SV.scps (n:Nat):List SV->Bool
 |[]=>true
 |x::xs=>x.scp n && SV.scps n xs
end
def mget (m:List (Nat×Blk)) (s:Nat):Option Blk:=
 match m with
 |[]=>none
 |(k,b)::r=>if k=s then some b else mget r s
def Ms (m:List (Nat×Blk)) (s:Nat):List (Nat×Blk):=
 match m with
 |[]=>[]
 |(k,b)::r=>if k=s then Ms r s else(k,b)::Ms r s
mutual
def SV.kill (s:Nat):SV->SV
 | .bp s' o=>if s'=s then .und else .bp s' o
 | .ap s' i o=>if s'=s then .und else .ap s' i o
 | .suf s' i=>if s'=s then .und else .suf s' i
 | .h s'=>if s'=s then .und else .h s'
 | .mh s'=>if s'=s then .und else .mh s'
 | .slf s' T=>if s'=s then .und else .slf s' T
 | .may g x=> .may g (x.kill s)
 | .tup xs=> .tup (SV.kills s xs)
 | .ag xs=> .ag (SV.kills s xs)
 | .clo g xs=> .clo g (SV.kills s xs)
 |x=>x
def SV.kills (s:Nat):List SV->List SV
 |[]=>[]
 |x::xs=>x.kill s::SV.kills s xs
end
def Ro.kill (s:Nat):Ro->Ro
 |⟨b,some (off,some (some s'))⟩=>if s'=s then ⟨b,some (off,none)⟩ else ⟨b,some (off,some (some s'))⟩
 |r=>r
def Blk.kill (s:Nat):Blk->Blk
 | .box cs ro=> .box (SV.kills s cs) ro
 | .arr e sz x ro=> .arr e sz x (ro.kill s)
 |b=>b
def Ld (s:Nat) (m:List (Nat×Blk)):List (Nat×Blk):=m.map fun p=>(p.1,p.2.kill s)
def St.fresh (σ:St) (s:Nat) (b:Blk):St:={σ with t:=SV.kills s σ.t,m:=(s,b)::Ld s (Ms σ.m s)}
def St.put (σ:St) (s:Nat) (b:Blk):St:={σ with m:=(s,b)::Ms σ.m s}
structure Eff where
 m:List (Nat×Blk)
 n:Nat
 kl:Option Nat
 deriving Inhabited
def St.eff (σ:St) (e:Eff):St:={t:=match e.kl with|some s=>SV.kills s σ.t|none=>σ.t,m:=e.m,n:=e.n}
def Gm (σ:St):Eff:=⟨σ.m,σ.n,none⟩
def G6 (m:List (Nat×Blk)) (n s:Nat) (b:Blk):Eff:=⟨(s,b)::Ld s (Ms m s),n,some s⟩
def It (m:List (Nat×Blk)) (s:Nat) (b:Blk):List (Nat×Blk):=(s,b)::Ms m s
def Blk.frz:Blk->Blk
 | .box cs _=> .box cs true
 | .arr e sz x _=> .arr e sz x ⟨true,none⟩
 | .map x _=> .map x true
def Ks (ss:List Nat) (m:List (Nat×Blk)):List (Nat×Blk):=m.map fun p=>if ss.contains p.1 then(p.1,p.2.frz) else p
def B8 (P:Program) (t:TypeId):Nat:=match P.info? t with|some i=>i.size|none=>0
def Jp (P:Program) (t:TypeId):Nat:=match P.info? t with|some i=>i.bytes|none=>0
def Kk (P:Program) (t:TypeId):Bool:=match P.underlying t with|some (.struct _)|some (.array ..)=>true|_=>false
def H1 (P:Program) (t:TypeId):Option TypeId:=match P.underlying t with|some (.slice e)=>some e|_=>none
def Lk (P:Program) (t:TypeId):Nat:=match H1 P t with|some e=>B8 P e|none=>0
def J1 (P:Program):Nat->TypeId->List TypeId
 |0,_=>[]
 |d+1,t=>match P.underlying t with
  |some (.struct fs)=>fs.toList.flatMap fun f=>J1 P d f.type
  |some (.array n e)=>(List.replicate n (J1 P d e)).flatten
  |_=>[t]
def P0 (P:Program) (t:TypeId) (f:Nat):Option (Nat×TypeId):=
 match P.underlying t with
 |some (.struct fs)=>(fs[f]?).map fun x=>(x.offset,x.type)
 |_=>none
def Nm (P:Program) (f:TypeId->Option (List Sc)):List Field->Nat->Option (List Sc)
 |[],_=>some []
 | x :: fs, off => if x.name == "_" || x.offset != off then none else
   match f x.type with
   |some ts=>if B8 P x.type=ts.length then(Nm P f fs (off+ts.length)).map (ts++·) else none
   |none=>none
def fx (P:Program):Nat->TypeId->Option (List Sc)
 |0,_=>none
 |d+1,t=>match P.underlying t with
  |some .bool=>some [.b]
  |some (.int k)=>some [.i k]
  |some .string=>some [.s]
  |some (.struct fs)=>if P.stoodInHeld t then none else Nm P (fx P d) fs.toList 0
  |_=>none
def Bz0 (P:Program) (t:TypeId):Bool:=match P.underlying t with|some .bool=>true|_=>false
def wm (P:Program) (t:TypeId):Bool:=match P.underlying t with|some (.int .u8)=>true|_=>false
def Bp7 (P:Program) (t:TypeId):Bool:=(fx P 20 t).isSome
def O6 (sz:Nat):Value->SV
 | .bool b=> .e (.c (.b b))
 | .int k n=> .e (.c (.i k n))
 | .string s=> .e (.c (.s s.data.toList))
 | .slice none 0 0=> .nil sz
 |_=> .und
def Ib (P:Program) (t:TypeId):Option (List SV):=
 match P.info? t with
 |some i=>match i.zero with
  |some z=>if !(z.cells.toList.all Value.oneCell')||z.cells.size !=i.size then none else some ((z.cells.toList.zip (J1 P 20 t++List.replicate z.cells.size 0)).map fun p=>O6 (Lk P p.2) p.1)
  |none=>none
 |none=>none
mutual
def SV.asE:SV->Option E
 | .e x=>some x
 | .nil sz=>some (.c (.l sz []))
 | .lit _ x=>some x
 | .ag xs=>(Ew8 xs).map .agg
 |_=>none
def Ew8:List SV->Option (List E)
 |[]=>some []
 |x::xs=>match x.asE,Ew8 xs with
  |some y,some ys=>some (y::ys)
  |_,_=>none
end
def SV.noCap:SV->Bool
 | .nil _| .lit _ _=>true
 |_=>false
def Ts:List SV->Nat->Option E->Option E
 |[],_,r=>r
 | .e (.proj j x)::r,k,none=>if j=k then Ts r (k+1) (some x) else none
 | .e (.proj j x)::r,k,some y=>if j=k && x.same y then Ts r (k+1) (some y) else none
 |_::_,_,_=>none
def bc (cs:List SV):SV:=
 match Ts cs 0 none with
 |some x=> .e (.sub 0 cs.length x)
 |none=>if cs.any SV.noCap then .ag cs else match Ew8 cs with
  |some es=> .e (.agg es)
  |none=> .ag cs
def Rh (n:Nat) (x:E):List SV:=(List.range n).map fun j=> .e (.proj j x)
def Ss:E->E->Bool
 | .ite g' x y,g0=>(E.ite g' x y).same g0||((match y with| .c (.b false)=>true|_=>false) && Ss g' g0)
 |g,g0=>g.same g0
def Xz (G:Option E) (g0:E):Bool:=match G with|none=>false|some g=>Ss g g0
def yw (G:Option E) (x:E):E:=match G with|none=>x|some g=> .ite g x (.c (.b false))
def Gp (G:Option E) (x:E):W:= .chk (match G with|none=>x|some g=> .ite g x (.c .u))
def Bp4 (G:Option E):SV->Option SV
 | .may g0 x=>if Xz G g0 then some x else none
 |x=>some x
def opd (P:Program) (σ:St) (G:Option E) (t:TypeId):Operand->Option SV
 | .tmp i=>(σ.t[i]?).bind (Bp4 G)
 | .const v=>some (O6 (Lk P t) v)
 | .func f=>some (.e (.c (.f f [])))
 | .global _=>none
def Gx (P:Program) (σ:St) (G:Option E) (t:TypeId) (x:Operand):Option E:=(opd P σ G t x).bind SV.asE
def goL (f:SV->Option (E×List Nat)):List SV->Option (List E×List Nat)
 |[]=>some ([],[])
 |x::xs=>match f x,goL f xs with
  |some (y,s),some (ys,ss)=>some (y::ys,s++ss)
  |_,_=>none
def Fp0 (m:List (Nat×Blk)) (f:SV->Option (E×List Nat)):SV->Option (E×List Nat)
 | .bp s 0=>match mget m s with
   |some (.box cs _)=>match goL f cs with
    |some ([y],ss)=>some (y,s::ss)
    |some (ys,ss)=>some (.agg ys,s::ss)
    |none=>none
   |_=>none
 | .ip y 0=>some (y,[])
 |_=>none
def toE (m:List (Nat×Blk)):Nat->SV->Option (E×List Nat)
 |0,_=>none
 |d+1,sv=>match sv with
  | .e x=>some (x,[])
  | .nil sz=>some (.c (.l sz []),[])
  | .lit _ x=>some (x,[])
  | .und=>some (.c .u,[])
  | .h s=>match mget m s with|some (.arr _ _ x _)=>some (x,[s])|_=>none
  | .mh s=>match mget m s with|some (.map x _)=>some (x,[s])|_=>none
  | .ag xs=>(goL (toE m d) xs).map fun r=>(.agg r.1,r.2)
  | .clo g xs=>(goL (Fp0 m (toE m d)) xs).map fun r=>(.clo g r.1,r.2)
  | .ip y off=>some (.mkp off y,[])
  | .bp s off=>match mget m s with|some (.box cs _)=>(goL (toE m d) cs).map fun r=>(.mkp off (.agg r.1),s::r.2)|_=>none
  |_=>none
def fw (m:List (Nat×Blk)) (xs:List SV):Option (List E×List Nat):=goL (toE m 20) xs
structure Hint where
 /-- sites at which a call's result is taken as an array of one's own -/
 own:List Nat:=[]
 deriving Inhabited
def Ew7 (x:E):E:= .ite x (.c .u) (.scal (.c .u))
def gr (x i:E):E:=Ew7 (.bin .eql i (.bin .sub (.len x) (.c (.i .i64 1))))
def pb (P:Program) (ro:Ro) (t:TypeId) (off n:Nat):Option (Nat×SV):=match ro.lk with
 |some (lo,some k)=>if off<=lo∧lo<off+n then some (lo - off,match k with|none=> .nil (Lk P ((J1 P 20 t).getD (lo - off) 0))|some s=> .h s) else none
 |_=>none
def N3 (P:Program) (σ:St) (G:Option E) (t:TypeId) (p:SV):Option (List W×SV):=
 if(P.underlying t).isNone then none else match p with
 | .bp s off=>match mget σ.m s with
   |some (.box cs _)=>
    if Kk P t then
     let n:=B8 P t
     if off+n<=cs.length then some ([],bc ((cs.drop off).take n)) else none
    else(cs[off]?).map fun c=>([],c)
   |_=>none
 | .ip x off=>
   if Kk P t then some ([Gp G (.sub off (B8 P t) x)],.e (.sub off (B8 P t) x))
   else some ([Gp G (.proj off x)],.e (.proj off x))
 | .ap s i off=>match mget σ.m s with
   |some (.arr _ sz x ro)=>
    if Kk P t then match pb P ro t off (B8 P t) with
     |some (j,sv)=>some ([Gp G (.sub off (B8 P t) (.idx sz x i)),Gp G (gr x i)],.ag ((Rh (B8 P t) (.sub off (B8 P t) (.idx sz x i))).set j sv))
     |none=>some ([Gp G (.sub off (B8 P t) (.idx sz x i))],.e (.sub off (B8 P t) (.idx sz x i)))
    else match pb P ro t off 1 with
     |some (_,sv)=>some ([Gp G (.proj off (.idx sz x i)),Gp G (gr x i)],sv)
     |none=>some ([Gp G (.proj off (.idx sz x i))],.e (.proj off (.idx sz x i)))
   |_=>none
 | .e y=>
   if Kk P t then some ([Gp G (.sub 0 (B8 P t) (.der y))],.e (.sub 0 (B8 P t) (.der y)))
   else some ([Gp G (.proj 0 (.der y))],.e (.proj 0 (.der y)))
 |_=>none
def cellsOf (P:Program) (m:List (Nat×Blk)) (t:TypeId) (sv:SV):Option (List W×List SV):=
    if Kk P t then match sv with
     | .e (.agg es)=>if es.length=B8 P t then some ([],es.map .e) else none
     | .e x=>some ([.chk (.fit (B8 P t) x)],Rh (B8 P t) x)
     | .ag xs=>if xs.length=B8 P t then some ([],xs) else none
     |_=>none
    else if B8 P t=1 then match sv with
     | .e x=>some ([.chk (.scal x)],[.e x])
     | .lit _ x=>some ([.chk (.scal x)],[.e x])
     | .h s=>match mget m s with
       |some (.arr ..)=>some ([],[.h s])
       |_=>none
     | .nil sz=>some ([],[.nil sz])
     | .bp s off=>some ([],[.bp s off])
     | .ip x off=>some ([],[.ip x off])
     | .ap s i off=>some ([],[.ap s i off])
     | .mh s=>some ([],[.mh s])
     | .clo g cs=>some ([],[.clo g cs])
     |_=>none
    else none
def SV.isSlf:SV->Bool
 | .slf .. =>true
 |_=>false
def T5 (cs:List SV):Bool:=cs.all fun x=> !x.isSlf
def F9 (cs:List SV) (off:Nat):List SV->List SV
 |[]=>cs
 |v::vs=>F9 (cs.set off v) (off+1) vs
def R7 (lk:Option (Nat×Option (Option Nat))) (off:Nat) (vs:List SV):Option (Bool×Option (Nat×Option (Option Nat))):=match lk with
 |none=>none
 |some (lo,k)=>if lo<off∨off+vs.length<=lo then some (false,some (lo,k)) else match vs[lo - off]? with
  |some (.h s2)=>some (true,some (lo,some (some s2)))
  |some (.nil _)=>some (true,some (lo,some none))
  |_=>none
def fc (P:Program) (σ:St) (t:TypeId) (p v:SV):Option (List W×Eff):=
 match cellsOf P σ.m t v with
 |none=>none
 |some (ws,vs)=>match p with
  | .bp s off=>match mget σ.m s with
    |some (.box cs false)=>if off+vs.length<=cs.length∧T5 vs=true then some (ws,⟨It σ.m s (.box (F9 cs off vs) false),σ.n,none⟩) else none
    |_=>none
  | .ap s i off=>match mget σ.m s,fw σ.m vs with
    |some (.arr e sz x ⟨false,lk⟩),some (es,ss)=>
     if ss.contains s then none else
     match R7 lk off vs with
     |none=>some (ws++[.chk (.set sz x i off es)],⟨It (Ks ss σ.m) s (.arr e sz (.set sz x i off es) .no),σ.n,none⟩)
     |some (true,lk')=>some (ws++[.chk (.set sz x i off es),.chk (gr x i)],⟨It (Ks ss σ.m) s (.arr e sz (.set sz x i off es) ⟨false,lk'⟩),σ.n,none⟩)
     |some (false,lk')=>some (ws++[.chk (.set sz x i off es)],⟨It (Ks ss σ.m) s (.arr e sz (.set sz x i off es) ⟨false,lk'⟩),σ.n,none⟩)
    |_,_=>none
  |_=>none
def args (P:Program) (σ:St) (G:Option E):List Operand->List TypeId->Option (List SV)
 |[],_=>some []
 |x::xs,ts=>match opd P σ G (ts.headD 0) x,args P σ G xs (ts.drop 1) with
  |some y,some ys=>some (y::ys)
  |_,_=>none
def Kx (P:Program) (t:TypeId):List TypeId:=match P.underlying t with|some (.tuple ts)=>ts.toList|_=>[t]
def I4 (P:Program) (t:TypeId):Bool:=match P.underlying t with|some (.tuple _)=>false|_=>true
def Af3 (n:Nat) (m:Nat) (single:Bool):SV:=if single then .e (.v n) else .tup ((List.range m).map fun j=> .e (.v (n+j)))
def MU:Nat:=1099511627776
def Vk (k:Option Nat):Option (Nat×Bool):=k.bind fun e=>if MU<=e then some ((e - MU) / 2,(e - MU) % 2==1) else none
inductive RK where
 |plain
 |own (e:Nat)
 |full (nl:Bool) (m:Nat)
 |ownt (e:Nat)
def FUL:Nat:=549755813888
def NIL:Nat:=824633720832
def FAR:Nat:=274877906944
def OWT:Nat:=962072674304
def rkOf:Option Nat->RK
 |none=> .plain
 |some k=>if k<FAR then .own k else if k<FUL then .own (k - FAR) else if k<NIL then .full false (k - FUL) else if k<OWT then .full true (k - NIL) else if k<MU then .ownt (k - OWT) else .plain
def cr (k:Option Nat):Option Nat:=k.bind fun e=>if FAR<=e∧e<FUL then some (e - FAR) else none
def H5 (P:Program) (nl:Bool) (n mask:Nat):Nat->List TypeId->List SV
 |_,[]=>[]
 |j,t::r=>(if mask.testBit j then(if nl then .nil (Lk P t) else .lit (Lk P t) (.proj j (.v n))) else .e (.proj j (.v n)))::H5 P nl n mask (j+1) r
def N9 (P:Program) (nl:Bool) (n mask:Nat):Nat->List TypeId->List W
 |_,[]=>[]
 |j,t::r=>(if mask.testBit j && !nl then [.chk (.app (Lk P t) (.proj j (.v n)) (.c (.l (Lk P t) [])))] else [])++N9 P nl n mask (j+1) r
def Vr (P:Program) (σ:St) (G:Option E) (t:TypeId) (mk:Option E->Bool->List E->Nat->W) (ar:List SV) (more:List Nat):Option (List W×SV×Eff):=
 match fw σ.m ar with
 |none=>none
 |some (es,ss)=>
  let ss:=ss++more;let ts:=Kx P t;let m:=ts.length
  if !I4 P t && m==1 then none else
  if !decide (es.length<TAG) then none else
  let flat:=ts.all (Bp7 P);let m':=if flat then σ.m else Ks ss σ.m
  if !flat && !ss.isEmpty && G.isSome then none else
  some ([mk G flat es m],Af3 σ.n m (I4 P t),⟨m',σ.n+m,none⟩)
def Df9 (P:Program) (σ:St) (G:Option E) (f e:Nat) (r:Bool) (ar:Option (List SV)):Option (List W×SV×Eff):=
 if G.isSome then none else
 match ar with
 |some (.h s0::ar)=>match mget σ.m s0,fw σ.m ar with
  |some (.arr e0 sz0 x .no),some (es,ss)=>
   if e0=e∧sz0=B8 P e∧ss.contains s0=false∧es.length+1<TAG then
    if r then some ([.mcall f (x::es)],.h s0,G6 (Ks ss σ.m) (σ.n+1) s0 (.arr e sz0 (.v σ.n) .no))
    else some ([.mcall f (x::es)],.tup [],⟨It (Ks ss σ.m) s0 (.arr e sz0 (.v σ.n) .no),σ.n+1,none⟩)
   else none
  |_,_=>none
 |_=>none
def fy (P:Program) (t:TypeId):Bool:=match P.underlying t with
 |some (.struct fs)=>fs.toList.all fun f=>(P.info? f.type).isSome
 |some (.array _ e)=>(P.info? e).isSome
 |_=>false
def R8 (P:Program) (t:TypeId) (i:Nat):Option (Nat×TypeId):=match P.underlying t with
 |some (.struct fs)=>(fs[i]?).map fun f=>(f.offset,f.type)
 |some (.array _ e)=>some (i*B8 P e,e)
 |_=>none
def W.triv:W->Bool
 | .chk (.scal (.c p))=>p.scal
 |_=>false
def Bd5 (P:Program) (m:List (Nat×Blk)) (kp:Bool) (t:TypeId) (sv:SV):Option (List W×List SV):=
 match kp,sv with
 |true,.lit sz x=>if Kk P t=false∧B8 P t=1 then some ([.chk (.scal x)],[.lit sz x]) else none
 |_,sv=>cellsOf P m t sv
def Vh (P:Program) (m:List (Nat×Blk)) (kp:Bool) (place:Nat->Option (Nat×TypeId)):List (Nat×SV)->List SV->Option (List W×List SV)
 |[],cs=>some ([],cs)
 |(i,sv)::r,cs=>match place i with
  |some (off,ft)=>match Bd5 P m kp ft sv with
   |some (ws,vs)=>if off+vs.length<=cs.length then(Vh P m kp place r (F9 cs off vs)).map fun q=>(ws++q.1,q.2) else none
   |none=>none
  |none=>none
def Lp (P:Program) (m:List (Nat×Blk)) (e:TypeId):List SV->Option (List W)
 |[]=>some []
 |sv::r=>match cellsOf P m e sv,Lp P m e r with
  |some (ws,_),some ws'=>some (ws++ws')
  |_,_=>none
def LKH:Nat:=1099511627776
def FLH:Nat:=8796093022208
def Ow:List SV->Nat->Option Nat
 |[],_=>none
 | .nil _::_,k=>some k
 |_::r,k=>Ow r (k+1)
def Cw7 (P:Program) (m:List (Nat×Blk)) (e:TypeId) (svs:List SV):Option (Nat×Option (Option Nat)):=match svs.getLast? with
 |some sv=>match cellsOf P m e sv with
  |some (_,cs)=>(Ow cs 0).map fun k=>(k,some none)
  |none=>none
 |none=>none
def At1 (P:Program) (σ:St) (G:Option E) (t:Nat->TypeId):List (Nat×Operand)->Option (List (Nat×SV))
 |[]=>some []
 |(i,x)::r=>match opd P σ G (t i) x,At1 P σ G t r with
  |some y,some ys=>some ((i,y)::ys)
  |_,_=>none
def D8 (P:Program) (e:TypeId):Bool:=0<Jp P e && Jp P e<=65536 && 0<B8 P e
def Dm9 (P:Program) (σ:St) (G:Option E) (s f e:Nat) (ar:Option (List SV)):Option (List W×SV×Eff):=
 if G.isSome|| !D8 P e then none else
 match ar with
 |some (a0::ar)=>match (match a0 with| .nil sz=>some (sz,E.c (.l sz []))| .lit sz x=>some (sz,x)|_=>none),fw σ.m ar with
  |some (sz,x),some (es,ss)=>if sz=B8 P e∧es.length+1<TAG then
    some ([.mcall f (x::es)],.h s,G6 (Ks ss σ.m) (σ.n+1) s (.arr e (B8 P e) (.v σ.n) .no)) else none
  |_,_=>none
 |_=>none
def By9 (P:Program) (t:TypeId):Bool:=match P.underlying t with
 |some (.int _)=>true
 |_=>false
def Fm9 (σ:St) (x:SV):Option E:=match x with
 | .h s'=>(match mget σ.m s' with|some (.arr _ _ y _)=>some y|_=>none)
 |x=>x.asE
def Qf (σ:St) (x:SV):Option (Nat×Option (Option Nat)):=match x with
 | .h s'=>(match mget σ.m s' with|some (.arr _ _ (.lit _ (_::_)) ⟨_,some (lo,some none)⟩)=>some (lo,some none)|_=>none)
 |_=>none
def MVH:Nat:=2199023255552
def Mf (P:Program) (σ:St) (mv:Bool) (s:Nat) (t:TypeId) (d x:SV):Option (List W×SV×Eff):=
 match H1 P t,Fm9 σ x with
 |some e,some src=>
  let sz:=B8 P e;let s:=if mv then s+NAP else s
  if !D8 P e||(Ib P e).isNone then none else
  match d with
  | .nil _=>some ([.chk (.app sz (.c (.l sz [])) src)],.h s,G6 σ.m σ.n s (.arr e sz (.app sz (.c (.l sz [])) src) ⟨false,Qf σ x⟩))
  | .lit _ (.c (.l _ []))=>some ([.chk (.app sz (.c (.l sz [])) src)],.h s,G6 σ.m σ.n s (.arr e sz (.app sz (.c (.l sz [])) src) .no))
  | .lit _ (.lit _ [])=>some ([.chk (.app sz (.c (.l sz [])) src)],.h s,G6 σ.m σ.n s (.arr e sz (.app sz (.c (.l sz [])) src) .no))
  | .lit sz0 y=>if sz0=sz then some ([.chk (.app sz y src),.chk (.ite (.bin .eql (.len y) (.c (.i .i64 0))) (.c .u) (.idx sz src (.c (.i .i64 0))))],.h s,G6 σ.m σ.n s (.arr e sz (.app sz y src) .no)) else none
  | .h s0=>match mget σ.m s0 with
    |some (.arr e0 sz0 y ro)=>if e0=e∧sz0=sz then
      if mv then(if NAP<=s0 then some ([.chk (.app sz y src)],.h s,G6 (Ms σ.m s0) σ.n s (.arr e sz (.app sz y src) ⟨ro.b,Qf σ x⟩)) else none)
      else some ([.chk (.app sz y src)],.h s0,G6 σ.m σ.n s0 (.arr e sz (.app sz y src) ⟨ro.b,Qf σ x⟩)) else none
    |_=>none
  |_=>none
 |_,_=>none
def gn (P:Program) (σ:St) (G:Option E) (t:TypeId) (sv:SV):Option (List W×SV):=
 match P.underlying t with
 |some (.slice _)=>match sv with
  | .nil _=>some ([],.e (.c (.i .i64 0)))
  | .h s=>match mget σ.m s with
    |some (.arr _ _ x _)=>some ([Gp G (.len x)],.e (.len x))
    |_=>none
  | .suf s i=>match mget σ.m s with
    |some (.arr _ _ x _)=>some ([Gp G (.bin .sub (.len x) i)],.e (.bin .sub (.len x) i))
    |_=>none
  |sv=>sv.asE.map fun x=>([Gp G (.len x)],.e (.len x))
 |some .string=>match sv with
  | .e x=>some ([Gp G (.slen x)],.e (.slen x))
  |_=>none
 |_=>none
def pr:Option Operand->Bool
 |some (.const (.int .i64 0))=>true
 |_=>false
def Jt (P:Program) (σ:St) (G:Option E) (x:Option Operand) (d:E):Option E:=match x with
 |some l=>Gx P σ G 0 l
 |none=>some d
def Lq (P:Program) (σ:St) (G:Option E) (t:TypeId) (x:SV) (lo hi mx:Option Operand):Option (List W×SV×Eff):=
 match P.underlying t with
 |some .string=>match x.asE,mx with
  |some y,none=>match Jt P σ G lo (.c (.i .i64 0)),Jt P σ G hi (.slen y) with
   |some l,some h=>some ([Gp G (.ssl y l h)],.e (.ssl y l h),Gm σ)
   |_,_=>none
  |_,_=>none
 |some (.slice e)=>
  if B8 P e=0 then none
  else if lo.isNone && pr hi && pr mx then
   (match x with
    | .e y=>some ([Gp G (.len y)],.lit (B8 P e) (.c (.l (B8 P e) [])),Gm σ)
    | .nil _=>some ([],.lit (B8 P e) (.c (.l (B8 P e) [])),Gm σ)
    |_=>none)
  else match toE σ.m 20 x with
  |some (y,ss)=>if G.isSome && !ss.isEmpty then none else
   match Jt P σ G lo (.c (.i .i64 0)),Jt P σ G hi (.len y) with
   |some l,some h=>match mx with
    |none=>some ([Gp G (.lsl (B8 P e) y l h)],.e (.lsl (B8 P e) y l h),⟨Ks ss σ.m,σ.n,none⟩)
    |some m=>match Gx P σ G 0 m with
     |some m=>if h.same m=true∧hi.isSome=true then some ([Gp G (.lsl (B8 P e) y l h)],.e (.lsl (B8 P e) y l h),⟨Ks ss σ.m,σ.n,none⟩) else none
     |none=>none
   |_,_=>none
  |none=>none
 |_=>none
def Sm (cs:List SV):Option E:=match cs with
 |[c]=>c.asE
 |cs=>(bc cs).asE
def Pq (P:Program) (σ:St) (G:Option E) (t:TypeId) (s0:Nat) (lo hi:Option (Option E)) (mx:Bool):Option (List W×SV×Eff):=
 match H1 P t,mget σ.m s0,lo,hi,mx with
 |some e,some (.arr e0 sz y .no),none,some (some eh),false=>
  if e0=e∧sz=B8 P e∧sz≠0∧G.isNone=true then
   some ([Gp G (.lsl sz y (.c (.i .i64 0)) eh)],.h s0,G6 σ.m σ.n s0 (.arr e sz (.lsl sz y (.c (.i .i64 0)) eh) .no))
  else none
 |some e,some (.arr _ sz y _),some (some el),none,false=>
  if sz=B8 P e∧sz≠0∧s0<NAP then some ([Gp G (.lsl sz y el (.len y))],.suf s0 el,Gm σ) else none
 |_,_,_,_,_=>none
def F2 (P:Program) (σ:St) (G:Option E) (t:TypeId) (n:Nat) (y:E) (lo hi mx:Option Operand):Option (List W×SV×Eff):=
 match H1 P t,lo,hi,mx with
 |some e,none,some h,none=>match Gx P σ G 0 h with
  |some eh=>if n=B8 P e∧n≠0 then some ([Gp G (.lsl n y (.c (.i .i64 0)) eh),Gp G (Ew7 (.bin .eql eh (.len y)))],.lit n y,Gm σ) else none
  |none=>none
 |_,_,_,_=>none
def jb (P:Program) (σ:St) (G:Option E) (t:TypeId) (x:SV):Option (List W×SV×Eff):=
 match H1 P t,x with
 |some e,.suf s i=>match mget σ.m s,Ib P e with
  |some (.arr e0 sz y .no),some zs=>match Sm zs with
   |some z=>
    let x':E:= .app sz (.lsl sz y (.c (.i .i64 0)) i) (.rep sz (.bin .sub (.len y) i) z)
    if e0=e∧sz=B8 P e∧sz≠0∧G.isNone=true then some ([Gp G x'],.tup [],⟨It σ.m s (.arr e sz x' .no),σ.n,none⟩) else none
   |none=>none
  |_,_=>none
 |_,_=>none
def E.isAgg:E->Bool
 | .sub .. | .agg _| .fit .. =>true
 |_=>false
def U2 (P:Program) (G:Option E) (n off:Nat) (ft:TypeId) (sv:SV):Option (List W×SV):=
 if(P.underlying ft).isNone then none else match sv with
 | .e y=>
   let pre:=if y.isAgg then [] else [Gp G (.fit n y)]
   let x:=if Kk P ft then E.sub off (B8 P ft) y else .proj off y
   some (pre++[Gp G x],.e x)
 | .ag cs=>if Kk P ft then(if off+B8 P ft<=cs.length then some ([],bc ((cs.drop off).take (B8 P ft))) else none) else(cs[off]?).map fun c=>([],c)
 |_=>none
def Zl (r:Option (List W×SV)) (σ:St):Option (List W×SV×Eff):=r.map fun q=>(q.1,q.2,Gm σ)
def Bn0 (P:Program) (t:TypeId):Option E:=match P.info? t with
 |some i=>match i.zero with
  |some z=>if z.oneCell' then(O6 (Lk P t) z).asE else none
  |none=>none
 |none=>none
def Fn3 (m:List (Nat×Blk)):SV->Option E
 | .e x=>some x
 | .mh s=>match mget m s with|some (.map x _)=>some x|_=>none
 |_=>none
def Zy (P:Program) (t:TypeId):Option TypeId:=match P.underlying t with
 |some (.map k e)=>match P.underlying k with|some .string=>some e|_=>none
 |_=>none
def By8:Operand->Bool
 | .const (.slice none 0 0)=>true
 |_=>false
def Qx (P:Program) (t:TypeId):Option TypeId:=match P.underlying t with
 |some (.struct fs)=>match fs.toList with
  |[f0,f1]=>match P.underlying f0.type,H1 P f1.type with
   |some (.pointer t'),some e=>if t'=t∧wm P e=true∧B8 P e=1∧D8 P e=true∧(Ib P e).isSome=true then some e else none
   |_,_=>none
  |_=>none
 |_=>none
def Cy4 (P:Program) (t:TypeId):Bool:=(Qx P t).isSome && (match P.info? t with|some i=>(match i.zero with|some z=>(match z.cells[0]? with|some (Value.pointer none)=>true|_=>false)|none=>false)|none=>false)
def BLD:Nat:=4398046511104
def jh (k:Option Nat):Option (Nat×Nat):=k.bind fun e=>if BLD<=e then some ((e - BLD) / 3,(e - BLD) % 3) else none
def dz (σ:St) (s b T e:Nat) (buf:SV) (src:E) (ws:List W):Option (List W×SV×Eff):=match buf with
 | .nil _=>if s=b then none else some (ws++[.chk (.app 1 (.c (.l 1 [])) src)],.und,⟨It (G6 σ.m σ.n s (.arr e 1 (.app 1 (.c (.l 1 [])) src) .no)).m b (.box [.slf b T,.h s] false),σ.n,some s⟩)
 | .h s0=>if s0=b then none else match mget σ.m s0 with
   |some (.arr e0 sz y .no)=>if e0≠e∨sz≠1 then none else some (ws++[.chk (.app 1 y src)],.und,⟨It (G6 σ.m σ.n s0 (.arr e 1 (.app 1 y src) .no)).m b (.box [.slf b T,.h s0] false),σ.n,some s0⟩)
   |_=>none
 |_=>none
def Ej9 (P:Program) (σ:St) (G:Option E) (s T0 k:Nat) (ar:Option (List SV)):Option (List W×SV×Eff):=
 if G.isSome then none else
 match ar with
 |some (.bp b 0::ar)=>match mget σ.m b with
  |some (.box [.slf b' T,buf] false)=>if b'≠b∨T≠T0 then none else match Qx P T with
   |none=>none
   |some e=>
    match k,ar with
    |0,[.e x]=>dz σ s b T e buf (.s2b x) []
    |1,[.e x]=>dz σ s b T e buf (.lit 1 [x]) [.chk (.b2s (.lit 1 [x]))]
    |2,[]=>match buf with
     | .h s0=>match mget σ.m s0 with
       |some (.arr e0 sz y .no)=>if e0≠e∨s0=b∨sz≠1 then none else
        some ([.chk (.b2s y),.chk (.sidx (.b2s y) (.c (.i .i64 0)))],.e (.b2s y),⟨Ld s0 (Ms σ.m s0),σ.n,some s0⟩)
       |_=>none
     |_=>none
    |_,_=>none
  |_=>none
 |_=>none
def xop (P:Program) (sig:Nat->Option Nat) (own:List Nat) (σ:St) (G:Option E) (s:Nat) (o:Oper):Option (List W×SV×Eff):=
 let free:=G.isNone
 match o.op with
 | .move x| .assign x=>(opd P σ G o.type x).map fun v=>([],v,Gm σ)
 | .pick c a b=>match Gx P σ G 0 c with
   |some ec=>match Gx P σ (some (yw G ec)) o.type a,Gx P σ (some (yw G (.un .not ec))) o.type b with
    |some ea,some eb=>some ([Gp G (.ite ec ea eb)],.e (.ite ec ea eb),Gm σ)
    |_,_=>none
   |none=>none
 | .alloc t=>if !free then none else(Ib P t).bind fun cs=>if T5 cs then some ([],.bp s 0,G6 σ.m σ.n s (.box (if Cy4 P t then cs.set 0 (.slf s t) else cs) false)) else none
 | .box t x=>if !free then none else
   match (opd P σ G t x).bind (cellsOf P σ.m t) with
   |some (ws,cs)=>if T5 cs then some (ws,.bp s 0,G6 σ.m σ.n s (.box (SV.kills s cs) (own.contains s))) else none
   |none=>none
 | .build t parts=>match Ib P t,At1 P σ G (fun i=>match P.underlying t with|some (.struct fs)=>((fs[i]?).map (·.type)).getD 0|some (.array _ e)=>e|_=>0) parts.toList with
   |some zs,some vs=>match Vh P σ.m (own.contains (s+LKH)) (R8 P t) vs zs with
    |some (ws,cs)=>if(free||ws.all W.triv) && fy P t then some (if free then ws else [],(if own.contains s then .ag cs else bc cs),Gm σ) else none
    |none=>none
   |_,_=>none
 | .buildSlice t len parts=>match H1 P t,At1 P σ G (fun _=>(H1 P t).getD 0) parts.toList with
   |some e,some vs=>if(!free && own.contains s)||vs.map (·.1) !=List.range len|| !(len*B8 P e<=16777216)||B8 P e=0||(Ib P e).isNone then none else
    match Lp P σ.m e (vs.map (·.2)),fw σ.m (vs.map (·.2)) with
    |some ws,some (es,ss)=>
     if own.contains s then(if D8 P e then some (ws++[.chk (.lit (B8 P e) es)],.h s,G6 (Ks ss σ.m) σ.n s (.arr e (B8 P e) (.lit (B8 P e) es) ⟨false,if own.contains (s+LKH) then Cw7 P σ.m e (vs.map (·.2)) else none⟩)) else none)
     else some (ws++[Gp G (.lit (B8 P e) es)],.lit (B8 P e) (.lit (B8 P e) es),⟨Ks ss σ.m,σ.n,none⟩)
    |_,_=>none
   |_,_=>none
 | .load t a=>Zl ((opd P σ G 0 a).bind fun p=>N3 P σ G t p) σ
 | .store t a x=>if !free then none else match opd P σ G 0 a,opd P σ G t x with
   |some p,some v=>(fc P σ t p v).map fun r=>(r.1,.und,r.2)
   |_,_=>none
 | .nilCheck x=>match opd P σ G 0 x with
   |some (.e y)=>some ([Gp G (.scal y)],.e y,Gm σ)
   |some (.bp s off)=>some ([],.bp s off,Gm σ)
   |some (.ip y off)=>some ([],.ip y off,Gm σ)
   |some (.ap s i off)=>some ([],.ap s i off,Gm σ)
   |some (.clo g cs)=>some ([],.clo g cs,Gm σ)
   |_=>none
 | .binOp op xt x y yt=>match (if op= .eql∧(H1 P xt).isSome=true∧By8 y=true then opd P σ G xt x else none) with
  |some (.e ex)=>some ([Gp G (.len ex)],.nilq ex,Gm σ)
  |_=>match Gx P σ G xt x,Gx P σ G yt y with
   |some ex,some ey=>
    let ag:=Kk P xt
    if ag||Bz0 P xt then match fx P 20 xt with
     |some ts=>match op with
      | .eql=>if P.eqGuardType P.depth xt then none else some ([Gp G (.eqs false ag ts ex ey)],.e (.eqs false ag ts ex ey),Gm σ)
      | .neq=>if P.eqGuardType P.depth xt then none else some ([Gp G (.eqs true ag ts ex ey)],.e (.eqs true ag ts ex ey),Gm σ)
      |_=>none
     |none=>none
    else some ([Gp G (.bin op ex ey)],.e (.bin op ex ey),Gm σ)
   |_,_=>none
 | .unOp op _ x=>(Gx P σ G 0 x).map fun ex=>([Gp G (.un op ex)],.e (.un op ex),Gm σ)
 | .convert src dst x=>match P.underlying src,P.underlying dst with
   |some (.int _),some (.int k)=>(Gx P σ G 0 x).map fun ex=>([Gp G (.conv k ex)],.e (.conv k ex),Gm σ)
   |some .string,some .string=>(Gx P σ G 0 x).map fun ex=>([Gp G (.bin .eql ex (.c (.s [])))],.e ex,Gm σ)
   |some .string,some (.slice e)=>if wm P e then(if !free then none else(Gx P σ G 0 x).map fun ex=>([.chk (.s2b ex)],.e (.s2b ex),Gm σ)) else none
   |some (.slice e),some .string=>if wm P e then
     match (opd P σ G 0 x).bind (toE σ.m 20) with
     |some (ex,_)=>some ([Gp G (.b2s ex)],.e (.b2s ex),Gm σ)
     |none=>none
    else none
   |_,_=>none
 | .makeFunc (.func f) first captured=>
   if first.isEmpty then(args P σ G captured.toList []).map fun cs=>([],.clo f cs,Gm σ) else none
 | .fieldAddr t x f=>match P0 P t f,opd P σ G 0 x with
   |some (off,ft),some p=>if B8 P ft=0 then none else match p with
    | .bp s o=>some ([],.bp s (o+off),Gm σ)
    | .ip y o=>some ([],.ip y (o+off),Gm σ)
    | .ap s i o=>some ([],.ap s i (o+off),Gm σ)
    | .e y=>some ([Gp G (.der y)],.ip (.der y) off,Gm σ)
    |_=>none
   |_,_=>none
 | .field t x f=>match P0 P t f,opd P σ G 0 x with
   |some (off,ft),some sv=>Zl (U2 P G (B8 P t) off ft sv) σ
   |_,_=>none
 | .indexAddr t x i=>match P.underlying t,opd P σ G 0 x,Gx P σ G 0 i with
   |some (.slice e),some sv,some ei=>match sv with
    | .h s=>match mget σ.m s with
      |some (.arr _ sz y _)=>if sz=B8 P e∧s<NAP then some ([Gp G (.idx sz y ei)],.ap s ei 0,Gm σ) else none
      |_=>none
    | .suf s i0=>match mget σ.m s with
      |some (.arr _ sz y _)=>if sz=B8 P e then some ([Gp G (.idx sz (.lsl sz y i0 (.len y)) ei),Gp G (.bin .add i0 ei),Gp G (.bin .add i0 (.c (.i .i64 0)))],.ap s (.bin .add i0 ei) 0,Gm σ) else none
      |_=>none
    |sv=>match sv.asE with
     |some y=>if B8 P e=0 then none else some ([Gp G (.idx (B8 P e) y ei)],.ip (.idx (B8 P e) y ei) 0,Gm σ)
     |none=>none
   |some (.array n e),some sv,some (.c (.i _ k))=>if 0<=k∧k<n∧B8 P e≠0 then match sv with
    | .bp s o=>some ([],.bp s (o+k.toNat*B8 P e),Gm σ)
    | .ip y o=>some ([],.ip y (o+k.toNat*B8 P e),Gm σ)
    |_=>none
    else none
   |_,_,_=>none
 | .index t x i=>match P.underlying t,opd P σ G 0 x,Gx P σ G 0 i with
   |some .string,some (.e ex),some ei=>some ([Gp G (.sidx ex ei)],.e (.sidx ex ei),Gm σ)
   |some (.array n e),some sv,some (.c (.i _ k))=>if 0<=k∧k<n∧B8 P e≠0 then Zl (U2 P G (n*B8 P e) (k.toNat*B8 P e) e sv) σ else none
   |_,_,_=>none
 | .slice t x lo hi mx=>match (if own.contains s then opd P σ G t x else none) with
   |some (.h s0)=>Pq P σ G t s0 (lo.map (Gx P σ G 0)) (hi.map (Gx P σ G 0)) mx.isSome
   |some (.lit n y)=>F2 P σ G t n y lo hi mx
   |some (.nil n)=>F2 P σ G t n (.c (.l n [])) lo hi mx
   |_=>(opd P σ G t x).bind fun sv=>Lq P σ G t sv lo hi mx
 | .extract x i=>match opd P σ G 0 x with
   |some (.tup xs)=>(xs[i]?).map fun v=>([],v,Gm σ)
   |_=>none
 | .makeSlice t l c=>if !free then none else match H1 P t,Gx P σ G 0 l,Gx P σ G 0 c with
   |some e,some n,some n'=>if !D8 P e then none else
    match Ib P e with
    |some zs=>match Sm zs with
     |some z=>if n.same (.c (.i .i64 0)) then some ([.chk (.rep (B8 P e) n' z)],.h s,G6 σ.m σ.n s (.arr e (B8 P e) (.c (.l (B8 P e) [])) .no)) else if !n.same n' then none else some ([.chk (.rep (B8 P e) n z)],.h s,G6 σ.m σ.n s (.arr e (B8 P e) (.rep (B8 P e) n z) .no))
     |none=>none
    |none=>none
   |_,_,_=>none
 | .makeMap t r=>if !free||r.isSome||(Zy P t).isNone then none else some ([],.mh s,G6 σ.m σ.n s (.map (.c (.m [])) false))
 | .lookup t x k false=>match Zy P t,opd P σ G 0 x,Gx P σ G 0 k with
   |some e,some sv,some ek=>match Fn3 σ.m sv,Bn0 P e with
    |some em,some z=>some ([Gp G (.mget em ek z),Gp G (.slen ek)],.e (.mget em ek z),Gm σ)
    |_,_=>none
   |_,_,_=>none
 | .mapUpdate t x k y=>if !free then none else match Zy P t,opd P σ G 0 x,Gx P σ G 0 k,Gx P σ G 0 y with
   |some _,some (.mh s0),some ek,some ey=>match mget σ.m s0 with
    |some (.map em false)=>some ([.chk (.mset em ek ey),.chk (.slen ek),.chk (.scal ey)],.und,⟨It σ.m s0 (.map (.mset em ek ey) false),σ.n,none⟩)
    |_=>none
   |_,_,_,_=>none
 | .call c=>match c.callee with
   | .builtin .len=>match c.args.toList with
     |[x]=>match c.argTypes[0]? with|some t=>Zl ((opd P σ G t x).bind (gn P σ G t)) σ|none=>none
     |_=>none
   | .builtin .cap=>match c.args.toList with
     |[x]=>match c.argTypes[0]? with
      |some t=>(match opd P σ G t x with
       |some (.nil n)=>Zl (gn P σ G t (.nil n)) σ
       |some (.lit n y)=>Zl (gn P σ G t (.lit n y)) σ
       |_=>none)
      |none=>none
     |_=>none
   | .builtin .append=>if !free then none else match c.args.toList,c.argTypes.toList with
     |[d,x],[t,t']=>if t=t' then match opd P σ G t d,opd P σ G t x with
       |some sd,some sx=>Mf P σ (own.contains (s+MVH)) s t sd sx
       |_,_=>none
      else match opd P σ G t d,Gx P σ G 0 x,H1 P t with
       |some sd,some n,some e=>if By9 P t' then(match Ib P e with
        |some zs=>(match Sm zs with
         |some z=>Mf P σ (own.contains (s+MVH)) s t sd (.e (.rep (B8 P e) n z))
         |none=>none)
        |none=>none) else none
       |_,_,_=>none
     |_,_=>none
   | .builtin .min=>match c.args.toList with
     |[x,y]=>match Gx P σ G 0 x,Gx P σ G 0 y with
      |some ex,some ey=>some ([Gp G (.mn ex ey)],.e (.mn ex ey),Gm σ)
      |_,_=>none
     |_=>none
   | .builtin .max=>match c.args.toList with
     |[x,y]=>match Gx P σ G 0 x,Gx P σ G 0 y with
      |some ex,some ey=>some ([Gp G (.mx ex ey)],.e (.mx ex ey),Gm σ)
      |_,_=>none
     |_=>none
   | .builtin .clear=>match c.args.toList,c.argTypes.toList with
     |[x],[t]=>(opd P σ G t x).bind (jb P σ G t)
     |_,_=>none
   | .value (.func f)=>match jh (sig f) with
    |some (T,k)=>Ej9 P σ G s T k (args P σ G c.args.toList c.argTypes.toList)
    |none=>match Vk (sig f) with
    |some (e,r)=>Df9 P σ G f e r (args P σ G c.args.toList c.argTypes.toList)
    |none=>match cr (sig f) with
    |some e=>Dm9 P σ G s f e (args P σ G c.args.toList c.argTypes.toList)
    |none=>match args P σ G c.args.toList c.argTypes.toList with
     |some ar=>match Vr P σ G o.type (fun g fl es m=> .call g fl f es m) ar [] with
      |some (ws,r,ε)=>
       if own.contains s then
        match rkOf (sig f) with
        | .own e=>if free && H1 P o.type==some e && D8 P e then
           (if own.contains (s+FLH) then some (ws++[.chk (.flt (.v σ.n))],.h s,G6 σ.m ε.n s (.arr e (B8 P e) (.v σ.n) .no)) else some (ws,.h s,G6 ε.m ε.n s (.arr e (B8 P e) (.v σ.n) .no))) else none
        | .full nl mask=>if free && I4 P o.type && !((Kx P o.type).all (Bp7 P)) then
           some (ws++(.chk (.fit (J1 P 20 o.type).length (.v σ.n))::N9 P nl σ.n mask 0 (J1 P 20 o.type)),.ag (H5 P nl σ.n mask 0 (J1 P 20 o.type)),ε) else none
        | .ownt e=>match Kx P o.type with
          |[t0,_]=>if free && !I4 P o.type && H1 P t0==some e && D8 P e then some (ws,.tup [.h s,.e (.v (σ.n+1))],G6 ε.m ε.n s (.arr e (B8 P e) (.v σ.n) .no)) else none
          |_=>none
        | .plain=>none
       else some (ws,r,ε)
      |none=>none
     |none=>none
   | .value (.tmp t)=>match opd P σ G 0 (.tmp t),args P σ G c.args.toList c.argTypes.toList with
     |some (.e x),some ar=>Vr P σ G o.type (fun g fl es m=> .clo g fl x es m) ar []
     |some (.clo f cs),some ar=>match toE σ.m 20 (.clo f cs) with
      |some (x,ss)=>Vr P σ G o.type (fun g fl es m=> .clo g fl x es m) ar ss
      |none=>none
     |_,_=>none
   |_=>none
 |_=>none
def P8 (σ:St) (ops:Array Oper) (j:Nat) (want:Bool):Option E:=
 match ((ops[j]?).bind (·.dst)).bind (σ.t[·]?) with
 |some (.e g)=>some (if want then g else .un .not g)
 |some (.may g0 (.e g))=>some (.ite g0 (if want then g else .un .not g) (.c (.b false)))
 |_=>none
def Gk7 (o:Op):Bool:=match o with
 | .move _| .assign _| .pick .. | .load .. | .nilCheck _| .binOp .. | .unOp .. | .convert .. | .fieldAddr .. | .field .. | .indexAddr .. | .index .. | .lookup .. | .slice .. | .extract .. | .build .. | .buildSlice .. | .makeFunc .. =>true
 | .call c=>match c.callee with
   | .builtin .append=>false
   |_=>true
 |_=>false
def St.set (σ:St) (d:Option Tmp) (v:SV):St:=match d with|some d=>{σ with t:=σ.t.set d v}|none=>σ
def W.cnt:W->Nat
 | .chk _=>0
 | .call _ _ _ _ m=>m
 | .clo _ _ _ _ m=>m
 | .mcall _ _=>1
def wsN:List W->Nat
 |[]=>0
 |x::r=>x.cnt+wsN r
def Blk.same:Blk->Blk->Bool
 | .box xs r,.box ys r'=>r==r' && SV.sames xs ys
 | .arr e sz x r,.arr e' sz' x' r'=>e==e' && sz==sz' && decide (r=r') && x.same x'
 | .map x r,.map x' r'=>r==r' && x.same x'
 |_,_=>false
def f7:List (Nat×Blk)->List (Nat×Blk)->Bool
 |[],[]=>true
 |(s,b)::m,(s',b')::m'=>s==s' && b.same b' && f7 m m'
 |_,_=>false
def E.isB:E->Bool
 | .bin .eql _ _| .bin .neq _ _| .bin .lss _ _| .bin .leq _ _| .bin .gtr _ _| .bin .geq _ _=>true
 | .un .not x=>x.isB
 | .eqs .. =>true
 | .c (.b _)=>true
 | .ite _ x y=>x.isB && y.isB
 |_=>false
def S0:Nat:=987654321
def Ew1:SV->Bool
 | .h s=>s==S0
 |_=>false
def Ny (P:Program) (sig:Nat->Option Nat) (own:List Nat) (ops:Array Oper) (s:Nat) (o:Oper) (σ:St):Option (List W×SV×Eff):=
 match o.guard with
 |none=>match xop P sig own σ none s o with
  |some (ws,sv,ε)=>if wsN ws+σ.n=ε.n∧(o.dst==some 0 && Ew1 sv)=false then some (ws,sv,ε) else none
  |none=>none
 |some (j,want)=>if !Gk7 o.op then none else
  match P8 σ ops j want with
  |some g=>match xop P sig own σ (some g) s o with
   |some (ws,sv,ε)=>if wsN ws+σ.n=ε.n∧f7 ε.m σ.m=true∧ε.kl.isNone=true then some ((if g.isB then [] else [.chk (.ite g (.c .u) (.c .u))])++ws,.may g sv,ε) else none
   |none=>none
  |none=>none
def Bn2 (P:Program) (sig:Nat->Option Nat) (own:List Nat) (ops:Array Oper) (rid:Nat):List Oper->Nat->St->Option (List W×St)
 |[],_,σ=>some ([],σ)
 |o::r,i,σ=>match Ny P sig own ops (rid*4096+i) o σ with
  |some (ws,sv,ε)=>(Bn2 P sig own ops rid r (i+1) ((σ.eff ε).set o.dst sv)).map fun q=>(ws++q.1,q.2)
  |none=>none
def yj (o:Oper):List Nat:=(o.after.toList.filter (Region.binds .any)).map (·.on)
def Sj (acc:List Nat):List Nat->Nat
 |[]=>0
 |k::r=>2 ^ k|||(acc.getD k 0|||Sj acc r)
def Uc (acc:List Nat):List Oper->List Nat
 |[]=>acc
 |o::r=>Uc (acc++[Sj acc (yj o)]) r
structure Ent where
 o:Oper
 t:List SV
 n:Nat
 ws:List W
 sv:SV
 kl:Option Nat
 ef:Bool
 tr:Bool
 deriving Inhabited
def Ec4 (P:Program) (sig:Nat->Option Nat) (own:List Nat) (ops:Array Oper) (rid:Nat):List Oper->Nat->St->Option (List Ent×St)
 |[],_,σ=>some ([],σ)
 |o::r,i,σ=>match Ny P sig own ops (rid*4096+i) o σ with
  |some (ws,sv,ε)=>(Ec4 P sig own ops rid r (i+1) ((σ.eff ε).set o.dst sv)).map fun q=>
    (⟨o,σ.t,σ.n,ws,sv,ε.kl,ε.kl.isSome|| !f7 ε.m σ.m,match ε.kl with|some s=>SV.sames (SV.kills s σ.t) σ.t|none=>true⟩::q.1,q.2)
  |none=>none
def Bb1:List Ent->List W
 |[]=>[]
 |e::r=>e.ws++Bb1 r
def d5 (P:Program) (sig:Nat->Option Nat) (own:List Nat) (ops:Array Oper) (rid:Nat) (B:Nat->Bool):List Ent->Nat->List (Nat×Blk)->Option (List (Nat×Blk))
 |[],_,m=>some m
 |e::r,i,m=>if B i then(match Ny P sig own ops (rid*4096+i) e.o ⟨e.t,m,e.n⟩ with
  |some (_,_,ε)=>d5 P sig own ops rid B r (i+1) ε.m
  |none=>none) else d5 P sig own ops rid B r (i+1) m
def Bs5 (x y:Option Blk):Bool:=match x,y with|some b,some c=>b.same c|none,none=>true|_,_=>false
def eqM (m m':List (Nat×Blk)):Bool:=m.all (fun p=>Bs5 (mget m p.1) (mget m' p.1)) && m'.all (fun p=>Bs5 (mget m p.1) (mget m' p.1))
def E.sameOpt:Option E->Option E->Bool
 |some x,some y=>x.same y
 |none,none=>true
 |_,_=>false
def W.same:W->W->Bool
 | .chk x,.chk y=>x.same y
 | .call g f k ar m,.call g' f' k' ar' m'=>E.sameOpt g g' && f==f' && k==k' && E.sames ar ar' && m==m'
 | .clo g f c ar m,.clo g' f' c' ar' m'=>E.sameOpt g g' && f==f' && c.same c' && E.sames ar ar' && m==m'
 | .mcall k ar,.mcall k' ar'=>k==k' && E.sames ar ar'
 |_,_=>false
def Uh:List W->List W->Bool
 |[],[]=>true
 |x::xs,y::ys=>x.same y && Uh xs ys
 |_,_=>false
def Tl (ents:List Ent) (k:Nat):Bool:=match ents[k]? with|some e=>e.ef|none=>false
def Ev9:List Nat->List (List Nat)
 |[]=>[[]]
 |x::r=>Ev9 r++(Ev9 r).map (x::·)
def Dv0 (A:List Nat) (ents:List Ent) (y:Nat):List Nat:=(List.range ents.length).filter fun k=>Tl ents k && k !=y && !(A.getD y 0).testBit k && !(A.getD k 0).testBit y
def X0 (A:List Nat) (ents:List Ent) (B:Nat->Bool):Bool:=(List.range ents.length).all fun k=> !B k||(List.range ents.length).all fun i=> !(Tl ents i && (A.getD k 0).testBit i)||B i
def Gd6 (P:Program) (sig:Nat->Option Nat) (own:List Nat) (ops:Array Oper) (rid:Nat) (A:List Nat) (ents:List Ent) (m0:List (Nat×Blk)) (y:Nat) (e:Ent) (U:List Nat):Bool:=
 let B:Nat->Bool:=fun k=>Tl ents k && ((A.getD y 0).testBit k||U.contains k)
 if !X0 A ents B then true else
 match d5 P sig own ops rid B ents 0 m0 with
 |some m=>match Ny P sig own ops (rid*4096+y) e.o ⟨e.t,m,e.n⟩ with
  |some (ws,sv,ε)=>Uh ws e.ws && sv.same e.sv && ε.kl==e.kl && (match (if e.ef then d5 P sig own ops rid (fun k=>B k||k==y) ents 0 m0 else some m) with|some m'=>eqM ε.m m'|none=>false) && (e.ef||e.kl.isNone)
  |none=>false
 |none=>false
def Dl9 (A:List Nat) (n j:Nat):Bool:=(List.range n).all fun i=>if i<j then(A.getD j 0).testBit i else if j<i then(A.getD i 0).testBit j else true
def By4 (A:List Nat) (ents:List Ent) (t0:List SV) (y:Nat) (e:Ent):Bool:=if !e.tr then Dl9 A ents.length y else match e.kl with
 |none=>true
 |some s=>SV.sames (SV.kills s t0) t0 && (List.range ents.length).all fun k=>k==y||(A.getD k 0).testBit y||(match ents[k]? with|some e'=>(e'.sv.kill s).same e'.sv|none=>false)
def jc (P:Program) (sig:Nat->Option Nat) (own:List Nat) (ops:Array Oper) (rid:Nat) (ents:List Ent) (σ σ':St):Bool:=
 let A:=Uc [] ops.toList
 ((List.range ents.length).all fun y=>match ents[y]? with
   |some e=>decide ((Dv0 A ents y).length<=6) && (Ev9 (Dv0 A ents y)).all (Gd6 P sig own ops rid A ents σ.m y e) && By4 A ents σ.t y e
   |none=>false) &&
 (match d5 P sig own ops rid (Tl ents) ents 0 σ.m with|some m=>eqM m σ'.m|none=>false)
def p7:Op->Bool
 | .select .. =>true
 |_=>false
def Bc6 (ops:Array Oper):Bool:=
 let A:=Uc [] ops.toList
 (List.range ops.size).all fun j=>match ops[j]? with
  |some y=> !p7 y.op && (yj y).all (fun k=>decide (k<j)) &&
   (List.range j).all fun i=>(A.getD j 0).testBit i||match ops[i]? with
    |some x=>x.apart ops y
    |none=>false
  |none=>false
def R5:List (Nat×Blk)->List Nat
 |[]=>[]
 |(s,.box _ true)::m|(s,.arr _ _ _ ⟨true,_⟩)::m|(s,.map _ true)::m=>s::R5 m
 |_::m=>R5 m
def Dk7 (P:Program) (sig:Nat->Option Nat) (own:List Nat) (ops:Array Oper) (rid:Nat) (σ:St):Option (List W×St):=
 if Bc6 ops && P.follows .mixedOrders then
  match Bn2 P sig own ops rid ops.toList 0 σ with
  |some (_,σ1)=>
   let σ0:St:={σ with m:=Ks (R5 σ1.m) σ.m}
   match Ec4 P sig own ops rid ops.toList 0 σ0 with
   |some (ents,σ')=>if jc P sig own ops rid ents σ0 σ'=true then some (Bb1 ents,σ') else none
   |none=>none
  |none=>none
 else none
inductive SX where
 |normal|exit (b:Nat)|ret
 deriving DecidableEq,Inhabited
inductive Item where
 |t (k:Nat)
 |c (s off:Nat)
 |ta (k s e sz:Nat)
 |mp (s:Nat)
 |ca (b off s e sz:Nat)
 |ac (s e sz:Nat)
 |lk (k s off s2 e sz:Nat)
 deriving Inhabited
structure Pat where
 dead:List Nat
 items:List Item
 deriving Inhabited
structure Hints where
 own:List Nat:=[]
 /-- by the block that a loop leaves by -/
 loops:List (Nat×Pat):=[]
 blks:List (Nat×Pat):=[]
 /-- by the condition's slot -/
 conds:List (Nat×Pat):=[]
 /-- regions that are not carried over: whoever comes there has no answer -/
 bots:List Nat:=[]
 deriving Inhabited
def Bk9:List (Nat×Nat)->Nat->Option Nat
 |[],_=>none
 |(k,v)::r,f=>if k=f then some v else Bk9 r f
def Fn4 (l:List (Nat×Pat)) (k:Nat):Option Pat:=match l with|[]=>none|(j,p)::r=>if j=k then some p else Fn4 r k
def Fg9 (σ:St):List Nat->St
 |[]=>σ
 |k::r=>Fg9 {σ with t:=σ.t.set k .und} r
def abs (σ:St) (n:Nat):List Item->Option St
 |[]=>some σ
 | .t k::r=>abs {σ with t:=σ.t.set k (.e (.v n))} (n+1) r
 | .c s off::r=>match mget σ.m s with
   |some (.box cs false)=>if off<cs.length then abs (σ.put s (.box (cs.set off (.e (.v n))) false)) (n+1) r else none
   |_=>none
 | .ta k s e sz::r=>
   let σ1:St:=match σ.t[k]? with
    |some (.h s0)=>{σ with t:=SV.kills s0 σ.t,m:=Ld s0 (Ms σ.m s0)}
    |_=>σ
   let σ':=σ1.fresh s (.arr e sz (.v n) .no)
   abs {σ' with t:=σ'.t.set k (.h s)} (n+1) r
 | .ac s e sz::r=>match mget σ.m s with
   |some (.arr e' sz' _ ⟨false,_⟩)=>if e'=e∧sz'=sz then abs (σ.put s (.arr e sz (.v n) .no)) (n+1) r else none
   |_=>none
 | .mp s::r=>match mget σ.m s with
   |some (.map _ false)=>abs (σ.put s (.map (.v n) false)) (n+1) r
   |_=>none
 | .ca b off s e sz::r=>
   let σ1:St:=match mget σ.m b with
    |some (.box cs false)=>match cs[off]? with
     |some (.h s0)=>{σ with t:=SV.kills s0 σ.t,m:=Ld s0 (Ms σ.m s0)}
     |_=>σ
    |_=>σ
   let σ':=σ1.fresh s (.arr e sz (.v n) .no)
   match mget σ'.m b with
   |some (.box cs false)=>if off<cs.length then abs (σ'.put b (.box (cs.set off (.h s)) false)) (n+1) r else none
   |_=>none
 | .lk _ s off s2 e sz::r=>
   let σ':=σ.fresh s2 (.arr e sz (.v n) ⟨true,none⟩)
   match mget σ'.m s with
   |some (.arr e0 sz0 x ⟨false,_⟩)=>if s=s2 then none else abs (σ'.put s (.arr e0 sz0 x ⟨false,some (off,some (some s2))⟩)) (n+1) r
   |_=>none
mutual
def SV.refs:SV->List Nat
 | .bp s _| .h s| .mh s| .slf s _| .ap s _ _| .suf s _=>[s]
 | .may _ x=>x.refs
 | .tup xs| .ag xs| .clo _ xs=>SV.refss xs
 |_=>[]
def SV.refss:List SV->List Nat
 |[]=>[]
 |x::xs=>x.refs++SV.refss xs
end
def gcM (σ:St):St:=
 let rs:=SV.refss σ.t++σ.m.flatMap fun p=>match p.2 with| .box cs _=>SV.refss cs| .arr _ _ _ ⟨_,some (_,some (some s))⟩=>[s]|_=>[]
 {σ with m:=σ.m.filter fun p=>match p.2 with| .arr .. =>rs.contains p.1||p.1==S0|_=>true}
def pat (σ:St) (p:Pat):Option St:=(abs (gcM (Fg9 σ p.dead)) σ.n p.items).map fun σ'=>{σ' with n:=σ.n+p.items.length}
def Gd2 (σ:St) (k off:Nat):Option (Option Nat):=match σ.t[k]? with
 |some (.h s')=>(match mget σ.m s' with|some (.arr _ _ _ ⟨_,some (lo,some q)⟩)=>if lo=off then some q else none|_=>none)
 |some (.nil _)=>some none
 |_=>none
def yp (σ:St):List Item->Option (List E)
 |[]=>some []
 | .t k::r=>match (σ.t[k]?).bind SV.asE,yp σ r with
   |some x,some xs=>some (x::xs)
   |_,_=>none
 | .c s off::r=>match (match mget σ.m s with|some (.box cs false)=>(cs[off]?).bind SV.asE|_=>none),yp σ r with
   |some x,some xs=>some (x::xs)
   |_,_=>none
 | .ta k _ e sz::r=>match (match σ.t[k]? with
    |some (.h s')=>(match mget σ.m s' with|some (.arr e' sz' x ⟨false,_⟩)=>if e'=e∧sz'=sz then some x else none|_=>none)
    |some (.nil _)=>some (.c (.l sz []))
    |_=>none),yp σ r with
   |some x,some xs=>some (x::xs)
   |_,_=>none
 | .ac s e sz::r=>match (match mget σ.m s with|some (.arr e' sz' x ⟨false,_⟩)=>if e'=e∧sz'=sz then some x else none|_=>none),yp σ r with
   |some x,some xs=>some (x::xs)
   |_,_=>none
 | .mp s::r=>match (match mget σ.m s with|some (.map x false)=>some x|_=>none),yp σ r with
   |some x,some xs=>some (x::xs)
   |_,_=>none
 | .ca b off _ e sz::r=>match (match mget σ.m b with
    |some (.box cs false)=>(match cs[off]? with
     |some (.h s')=>(match mget σ.m s' with|some (.arr e' sz' x ⟨false,_⟩)=>if e'=e∧sz'=sz then some x else none|_=>none)
     |some (.nil _)=>some (.c (.l sz []))
     |_=>none)
    |_=>none),yp σ r with
   |some x,some xs=>some (x::xs)
   |_,_=>none
 | .lk k _ off _ e sz::r=>match (match Gd2 σ k off with
    |some (some s')=>(match mget σ.m s' with|some (.arr e' sz' x _)=>if e'=e∧sz'=sz then some x else none|_=>none)
    |some none=>some (.c (.l sz []))
    |none=>none),yp σ r with
   |some x,some xs=>some (x::xs)
   |_,_=>none
def rens (σ:St):List Item->List (Nat×SV)
 |[]=>[]
 | .ta k s _ _::r=>(s,(σ.t[k]?).getD .und)::rens σ r
 | .ca b off s _ _::r=>(s,match mget σ.m b with|some (.box cs _)=>(cs[off]?).getD .und|_=> .und)::rens σ r
 | .lk k _ off s2 _ sz::r=>(s2,match Gd2 σ k off with|some (some s')=> .h s'|some none=> .nil sz|none=> .und)::rens σ r
 |_::r=>rens σ r
def Hf (R:List (Nat×SV)) (s:Nat):Option SV:=match R with|[]=>none|(k,x)::r=>if k=s then some x else Hf r s
def Cy5 (m:List (Nat×Blk)) (s:Nat):Bool:=match mget m s with|some (.arr ..)=>true|_=>false
mutual
def SV.okM (m:List (Nat×Blk)) (R:List (Nat×SV)):SV->Bool
 | .bp s _| .h s| .mh s| .slf s _=>(Hf R s).isNone
 | .ap s _ _| .suf s _=>(Hf R s).isNone && Cy5 m s
 | .may _ x=>x.okM m R
 | .tup xs| .ag xs| .clo _ xs=>SV.okMs m R xs
 |_=>true
def SV.okMs (m:List (Nat×Blk)) (R:List (Nat×SV)):List SV->Bool
 |[]=>true
 |x::xs=>x.okM m R && SV.okMs m R xs
end
def Cl9 (es:List E) (n:Nat) (x y:E):Bool:=match y with
 | .v k=>if n<=k then(match es[k - n]? with|some e=>e.same x|none=>false) else x.same y
 |y=>x.same y && y.scp n
def tl (es:List E) (n:Nat) (m:List (Nat×Blk)) (R:List (Nat×SV)) (x y:SV):Bool:=match y with
 | .und=>true
 | .e y=>(match x.asE with|some x=>Cl9 es n x y|none=>false)
 | .h s=>(match Hf R s with
   |some (.h s')=>(match x with| .h s''=>s''==s'|_=>false)
   |some (.nil _)=>(match x with| .nil _=>true|_=>false)
   |some _=>false
   |none=>(match x with| .h s'=>s'==s|_=>false))
 |y=>x.same y && y.scp n && y.okM m R
def Jr (es:List E) (n:Nat) (m:List (Nat×Blk)) (R:List (Nat×SV)):List SV->List SV->Bool
 |[],[]=>true
 |x::xs,y::ys=>tl es n m R x y && Jr es n m R xs ys
 |_,_=>false
def w6:List (Nat×SV)->List Nat
 |[]=>[]
 |(_,.h s')::r=>s'::w6 r
 |_::r=>w6 r
def Z3:List Nat->Bool
 |[]=>true
 |x::xs=> !xs.contains x && Z3 xs
def tn (R:List (Nat×SV)) (l:Option (Nat×Option (Option Nat))):Option (Nat×Option (Option Nat))->Bool
 |some (off,some (some s))=>(match Hf R s with
  |some (.h s')=>l==some (off,some (some s'))
  |some (.nil _)=>l==some (off,some none)
  |some _=>false
  |none=>l==some (off,some (some s)))
 |some (off,some none)=>l==some (off,some none)
 |_=>true
def Zw (es:List E) (n:Nat) (m':List (Nat×Blk)) (R:List (Nat×SV)) (m:List (Nat×Blk)) (s:Nat):Bool:=
 match Hf R s with
 |some (.h s')=>(match mget m s',mget m' s with
  |some (.arr e sz x ro),some (.arr e' sz' y ro')=>e==e' && sz==sz' && (ro'.b|| !ro.b) && tn R ro.lk ro'.lk && Cl9 es n x y
  |_,_=>false)
 |some (.nil _)=>(match mget m' s with
  |some (.arr _ sz y _)=>decide (0<sz) && Cl9 es n (.c (.l sz [])) y
  |_=>false)
 |some _=>false
 |none=> !(w6 R).contains s && (match mget m s,mget m' s with
  |some (.box xs ro),some (.box ys ro')=>ro==ro' && Jr es n m' R xs ys
  |some (.arr e sz x ro),some (.arr e' sz' y ro')=>e==e' && sz==sz' && (ro'.b|| !ro.b) && tn R ro.lk ro'.lk && Cl9 es n x y
  |some (.map x ro),some (.map y ro')=>ro==ro' && Cl9 es n x y
  |_,_=>false)
def Qy (σ' σh:St) (n:Nat) (p:Pat):Option (List E):=
 match yp σ' p.items with
 |some es=>let R:=rens σ' p.items
  if Jr es n σh.m R σ'.t σh.t && σh.m.all (fun q=>Zw es n σh.m R σ'.m q.1) && Z3 (w6 R) && Z3 (R.map (·.1)) && !(R.map (·.1)).contains S0 && σh.n==n+es.length then some es else none
 |none=>none
def Bn9 (ws:List W) (k:T):T:=ws.foldr T.w k
def T.yields (id:Nat):T->Bool
 | .w _ k=>k.yields id
 | .ite _ t e=>t.yields id||e.yields id
 | .ret _=>false
 | .yld j _=>j==id
 | .blk _ b k=>b.yields id||k.yields id
 | .loop _ _ b=>b.yields id
def T.bot:T:= .ret [.scal (.c .u)]
abbrev K:=SX->St->Option T
def Z4 (id:Nat) (r:Option T):Option T:=r.bind fun t=>if t.yields id then none else some t
def T.strip:T->T
 | .w (.chk _) k=>k.strip
 |t=>t
def Dd9 (ex:E) (ta tb:T):Bool:=match ta,tb.strip with
 | .ret [.c (.l sz [])],.ret [.app s1 (.c (.l s2 [])) y]=>s1==sz && s2==sz && ex.same y
 |_,_=>false
def sx (P:Program) (sig:Nat->Option Nat) (H:Hints):Code->(lb d:Nat)->St->K->Option T
 | .skip,_,_,σ,k=>k .normal σ
 | .region id ops draw,_,_,σ,k=>
   match (if draw then Dk7 P sig H.own ops id σ else Bn2 P sig H.own ops id ops.toList 0 σ) with
   |some (ws,σ')=>(k .normal σ').map (Bn9 ws)
   |none=>if H.bots.contains id then some T.bot else none
 | .seq a b,lb,d,σ,k=>sx P sig H a lb d σ fun x σ'=>match x with
   | .normal=>sx P sig H b lb d σ' k
   |x=>k x σ'
 | .cond c a b,lb,d,σ,k=>
   match Gx P σ none 0 c with
   |some (.c (.b true))=>sx P sig H a lb d σ k
   |some (.c (.b false))=>sx P sig H b lb d σ k
   |some ec=>
    match (match c with| .tmp t=>Fn4 H.conds t|_=>none) with
    |none=>match sx P sig H a lb d σ k,sx P sig H b lb d σ k with
     |some ta,some tb=>some (.ite ec ta tb)
     |_,_=>none
    |some p=>match pat σ p with
     |none=>none
     |some σh=>
      let k':K:=fun x σ'=>match x with
       | .normal=>(Qy σ' σh σ.n p).map (.yld d)
       |x=>Z4 d (k x σ')
      match sx P sig H a lb (d+1) σ k',sx P sig H b lb (d+1) σ k',k .normal σh with
      |some ta,some tb,some tk=>some (.blk d (.ite ec ta tb) tk)
      |_,_,_=>none
   |none=>match opd P σ none 0 c with
    |some (.nilq ex)=>match sx P sig H a lb d σ k,sx P sig H b lb d σ k with
     |some ta,some tb=>if Dd9 ex ta tb then some tb else none
     |_,_=>none
    |_=>none
 | .block id c,_,d,σ,k=>
   match Fn4 H.blks id with
   |none=>sx P sig H c id d σ fun x σ'=>match x with
    | .exit b=>if b=id then k .normal σ' else k x σ'
    |x=>k x σ'
   |some p=>match pat σ p with
    |none=>none
    |some σh=>match sx P sig H c id (d+1) σ (fun x σ'=>match x with
      | .normal=>(Qy σ' σh σ.n p).map (.yld d)
      | .exit b=>if b=id then(Qy σ' σh σ.n p).map (.yld d) else Z4 d (k x σ')
      |x=>Z4 d (k x σ')),k .normal σh with
     |some tc,some tk=>some (.blk d tc tk)
     |_,_=>none
 | .loop c,lb,d,σ,k=>
   match Fn4 H.loops lb with
   |none=>none
   |some p=>match pat σ p with
    |none=>none
    |some σh=>match Qy σ σh σ.n p,sx P sig H c lb (d+1) σh fun x σ'=>match x with
      | .normal=>(Qy σ' σh σ.n p).map (.yld d)
      |x=>Z4 d (k x σ') with
     |some es,some tb=>some (.loop d es tb)
     |_,_=>none
 | .exit id,_,_,σ,k=>k (.exit id) σ
 | .ret,_,_,σ,k=>k .ret σ
 |_,_,_,_,_=>none
def Bs8 (P:Program) (σ:St):ResultVar->Option SV
 | .tmp t=>σ.t[t]?
 | .cell p t=>match σ.t[p]? with
   |some sv=>match N3 P σ none t sv with
    |some ([],v)=>some v
    |_=>none
   |none=>none
def Kp (P:Program) (σ:St):List ResultVar->Option (List SV)
 |[]=>some []
 |r::rs=>match Bs8 P σ r,Kp P σ rs with
  |some x,some xs=>some (x::xs)
  |_,_=>none
def Nh (P:Program) (mu:Option (Nat×Bool)) (fa:Option Nat) (fn:Func):St:=
 let np:=fn.params.size
 {t:=(List.range np).map (fun j=>if mu.isSome=true∧j=0 then SV.h S0 else if j=0 then(match fa with|some e=>SV.lit (B8 P e) (.v 0)|none=>SV.e (.v j)) else SV.e (.v j))++(List.range fn.nfree).map (fun j=>SV.ip (.v (np+j)) 0)++List.replicate (fn.ntmps - (np+fn.nfree)) .und,
  m:=match mu with|some (e,_)=>[(S0,.arr e (B8 P e) (.v 0) .no)]|none=>[],n:=np+fn.nfree}
def pc (P:Program) (σ:St) (e:Nat) (r:Bool) (svs:List SV):Option T:=
 match (if r then(match svs with|[.h s]=>some s|_=>none) else(match svs,(σ.t[0]? :Option SV) with|[],some (SV.h s)=>if s=S0 then some s else none|_,_=>none)) with
 |some s=>match mget σ.m s with
  |some (.arr e' sz x ⟨false,_⟩)=>if e'=e∧sz=B8 P e then some (.ret [x]) else none
  |_=>none
 |none=>none
def Q2 (P:Program) (σ:St) (e:Nat) (svs:List SV):Option T:=match svs with
 |[.h s]=>match mget σ.m s with
  |some (.arr e' sz x ⟨false,_⟩)=>if e'=e∧sz=B8 P e then some (.ret [x]) else none
  |_=>none
 |[.nil sz]=>if sz=B8 P e∧0<sz then some (.ret [.c (.l sz [])]) else none
 |[.lit sz x]=>if sz=B8 P e∧0<sz then some (.w (.chk (Ew7 (.bin .eql (.len x) (.c (.i .i64 0))))) (.ret [.c (.l sz [])])) else none
 |_=>none
def N4 (P:Program) (σ:St) (e:Nat) (svs:List SV):Option T:=match svs with
 |[.h s,.e y]=>match mget σ.m s with
  |some (.arr e' sz x ⟨false,_⟩)=>if e'=e∧sz=B8 P e then some (.ret [x,y]) else none
  |_=>none
 |[.nil sz,.e y]=>if sz=B8 P e∧0<sz then some (.ret [.c (.l sz []),y]) else none
 |_=>none
def Np (P:Program) (σ:St):List ResultVar->Option (List SV)
 |[.cell p t]=>if Kk P t then(match σ.t[p]? with
  |some (.bp s off)=>match mget σ.m s with
   |some (.box cs _)=>some ((cs.drop off).take (B8 P t))
   |_=>none
  |_=>none) else none
 |[.tmp t]=>match σ.t[t]? with
  |some (.ag cs)=>some cs
  |_=>none
 |_=>none
def SV.noRoom (nl:Bool):SV->Bool
 | .nil _=>true
 | .lit _ _=> !nl
 |_=>false
def pj (nl:Bool) (m:Nat) (cs:List SV):Bool:=decide (m<2 ^ cs.length) && (List.range cs.length).all fun j=> !m.testBit j||(cs.getD j .und).noRoom nl
def Dh3 (P:Program) (fn:Func) (own:Option Nat):K:=fun x σ=>
 match x with
 | .exit _=>none
 |_=>match Kp P σ fn.results.toList with
  |some svs=>
   match Vk own with
   |some (e,r)=>pc P σ e r svs
   |none=>
    match rkOf own with
    | .own e=>Q2 P σ e svs
    | .ownt e=>N4 P σ e svs
    | .full nl m=>match Np P σ fn.results.toList with
      |some cs=>if pj nl m cs then(fw σ.m svs).map fun r=> .ret r.1 else none
      |none=>none
    | .plain=>(fw σ.m svs).map fun r=> .ret r.1
  |none=>none
def Bm2 (P:Program) (sig:Nat->Option Nat) (f:Nat) (fn:Func) (H:Hints):Option T:=
 match fn.body with
 |some c=>if fn.params.size+fn.nfree<=fn.ntmps then(if(Vk (sig f)).isSome=true∧fn.params.size=0 then none else sx P sig H c 0 0 (Nh P (Vk (sig f)) (cr (sig f)) fn) (Dh3 P fn (sig f))) else none
 |none=>none
mutual
def E.ev_mono (J ζ:List PV):∀(x:E) (p:PV),x.ev J=some p->x.ev (J++ζ)=some p
 | .v n,p,h=>by simp only[E.ev] at h ⊢;rw[Cd (Bn.1 h).1];exact h
 | .c x,p,h=>by simpa only[E.ev] using h
 | .bin op x y,p,h=>by simp only[E.ev,Bl] at h ⊢;obtain⟨a,ha,b,hb,h⟩:=h;exact⟨a,E.ev_mono J ζ x a ha,b,E.ev_mono J ζ y b hb,h⟩
 | .un op x,p,h=>by simp only[E.ev,Bl] at h ⊢;obtain⟨a,ha,h⟩:=h;exact⟨a,E.ev_mono J ζ x a ha,h⟩
 | .ite g x y,p,h=>by
   simp only[E.ev,Bl] at h ⊢;obtain⟨a,ha,h⟩:=h;refine⟨a,E.ev_mono J ζ g a ha,?_⟩;split at h
   .exact E.ev_mono J ζ x p h
   .exact E.ev_mono J ζ y p h
   .cases h
 | .proj j x,p,h=>by simp only[E.ev,Bl] at h ⊢;obtain⟨a,ha,h⟩:=h;exact⟨a,E.ev_mono J ζ x a ha,h⟩
 | .sub o n x,p,h=>by simp only[E.ev,Bl] at h ⊢;obtain⟨a,ha,h⟩:=h;exact⟨a,E.ev_mono J ζ x a ha,h⟩
 | .agg xs,p,h=>by simp only[E.ev,Bp] at h ⊢;obtain⟨a,ha,h⟩:=h;exact⟨a,E.evs_mono J ζ xs a ha,h⟩
 | .fit n x,p,h=>by simp only[E.ev,Bl] at h ⊢;obtain⟨a,ha,h⟩:=h;exact⟨a,E.ev_mono J ζ x a ha,h⟩
 | .scal x,p,h=>by simp only[E.ev,Bl] at h ⊢;obtain⟨a,ha,h⟩:=h;exact⟨a,E.ev_mono J ζ x a ha,h⟩
 | .idx sz x y,p,h=>by simp only[E.ev,Bl] at h ⊢;obtain⟨a,ha,b,hb,h⟩:=h;exact⟨a,E.ev_mono J ζ x a ha,b,E.ev_mono J ζ y b hb,h⟩
 | .len x,p,h| .slen x,p,h=>by simp only[E.ev,Bl] at h ⊢;obtain⟨a,ha,h⟩:=h;exact⟨a,E.ev_mono J ζ x a ha,h⟩
 | .sidx x y,p,h=>by simp only[E.ev,Bl] at h ⊢;obtain⟨a,ha,b,hb,h⟩:=h;exact⟨a,E.ev_mono J ζ x a ha,b,E.ev_mono J ζ y b hb,h⟩
 | .ssl x y z,p,h=>by simp only[E.ev,Bl] at h ⊢;obtain⟨a,ha,b,hb,c,hc,h⟩:=h;exact⟨a,E.ev_mono J ζ x a ha,b,E.ev_mono J ζ y b hb,c,E.ev_mono J ζ z c hc,h⟩
 | .lsl _ x y z,p,h=>by simp only[E.ev,Bl] at h ⊢;obtain⟨a,ha,b,hb,c,hc,h⟩:=h;exact⟨a,E.ev_mono J ζ x a ha,b,E.ev_mono J ζ y b hb,c,E.ev_mono J ζ z c hc,h⟩
 | .app sz x y,p,h=>by simp only[E.ev,Bl] at h ⊢;obtain⟨a,ha,b,hb,h⟩:=h;exact⟨a,E.ev_mono J ζ x a ha,b,E.ev_mono J ζ y b hb,h⟩
 | .lit sz xs,p,h=>by simp only[E.ev,Bl] at h ⊢;obtain⟨a,ha,h⟩:=h;exact⟨a,E.evs_mono J ζ xs a ha,h⟩
 | .rep sz x y,p,h=>by simp only[E.ev,Bl] at h ⊢;obtain⟨a,ha,b,hb,h⟩:=h;exact⟨a,E.ev_mono J ζ x a ha,b,E.ev_mono J ζ y b hb,h⟩
 | .set sz x y o vs,p,h=>by simp only[E.ev,Bl] at h ⊢;obtain⟨a,ha,b,hb,c,hc,h⟩:=h;exact⟨a,E.ev_mono J ζ x a ha,b,E.ev_mono J ζ y b hb,c,E.evs_mono J ζ vs c hc,h⟩
 | .conv k x,p,h=>by simp only[E.ev,Bl] at h ⊢;obtain⟨a,ha,h⟩:=h;exact⟨a,E.ev_mono J ζ x a ha,h⟩
 | .b2s x,p,h=>by simp only[E.ev,Bl] at h ⊢;obtain⟨a,ha,h⟩:=h;exact⟨a,E.ev_mono J ζ x a ha,h⟩
 | .s2b x,p,h=>by simp only[E.ev,Bl] at h ⊢;obtain⟨a,ha,h⟩:=h;exact⟨a,E.ev_mono J ζ x a ha,h⟩
 | .eqs neg g ts x y,p,h=>by simp only[E.ev,Bl] at h ⊢;obtain⟨a,ha,b,hb,h⟩:=h;exact⟨a,E.ev_mono J ζ x a ha,b,E.ev_mono J ζ y b hb,h⟩
 | .clo g xs,p,h=>by simp only[E.ev,Bp] at h ⊢;obtain⟨a,ha,h⟩:=h;exact⟨a,E.evs_mono J ζ xs a ha,h⟩
 | .mn x y,p,h=>by simp only[E.ev,Bl] at h ⊢;obtain⟨a,ha,b,hb,h⟩:=h;exact⟨a,E.ev_mono J ζ x a ha,b,E.ev_mono J ζ y b hb,h⟩
 | .mx x y,p,h=>by simp only[E.ev,Bl] at h ⊢;obtain⟨a,ha,b,hb,h⟩:=h;exact⟨a,E.ev_mono J ζ x a ha,b,E.ev_mono J ζ y b hb,h⟩
 | .mget x y z,p,h=>by simp only[E.ev,Bl] at h ⊢;obtain⟨a,ha,b,hb,c,hc,h⟩:=h;exact⟨a,E.ev_mono J ζ x a ha,b,E.ev_mono J ζ y b hb,c,E.ev_mono J ζ z c hc,h⟩
 | .mset x y z,p,h=>by simp only[E.ev,Bl] at h ⊢;obtain⟨a,ha,b,hb,c,hc,h⟩:=h;exact⟨a,E.ev_mono J ζ x a ha,b,E.ev_mono J ζ y b hb,c,E.ev_mono J ζ z c hc,h⟩
 | .der x,p,h| .mkp _ x,p,h| .flt x,p,h=>by simp only[E.ev,Bl] at h ⊢;obtain⟨a,ha,h⟩:=h;exact⟨a,E.ev_mono J ζ x a ha,h⟩
def E.evs_mono (J ζ:List PV):∀(xs:List E) (ps:List PV),E.evs J xs=some ps->E.evs (J++ζ) xs=some ps
 |[],ps,h=>by simpa only[E.evs] using h
 |x::xs,ps,h=>by simp only[E.evs,Bl,Bp] at h ⊢;obtain⟨a,ha,b,hb,h⟩:=h;exact⟨a,E.ev_mono J ζ x a ha,b,E.evs_mono J ζ xs b hb,h⟩
end
mutual
def E.ev_scp {n:Nat} {J η':List PV} (hh:∀k,k<n->J[k]? =η'[k]?):∀(x:E),x.scp n=true->x.ev J=x.ev η'
 | .v m,h=>by simp only[E.scp,decide_eq_true_eq] at h;simp only[E.ev,hh m h]
 | .c x,h=>by simp only[E.ev]
 | .bin op x y,h=>by simp only[E.scp,Bt] at h;simp only[E.ev,E.ev_scp hh x h.1,E.ev_scp hh y h.2]
 | .un op x,h=>by simp only[E.scp] at h;simp only[E.ev,E.ev_scp hh x h]
 | .ite g x y,h=>by simp only[E.scp,Bt] at h;simp only[E.ev,E.ev_scp hh g h.1.1,E.ev_scp hh x h.1.2,E.ev_scp hh y h.2]
 | .proj j x,h=>by simp only[E.scp] at h;simp only[E.ev,E.ev_scp hh x h]
 | .sub o m x,h=>by simp only[E.scp] at h;simp only[E.ev,E.ev_scp hh x h]
 | .agg xs,h=>by simp only[E.scp] at h;simp only[E.ev,E.evs_scp hh xs h]
 | .fit m x,h=>by simp only[E.scp] at h;simp only[E.ev,E.ev_scp hh x h]
 | .scal x,h=>by simp only[E.scp] at h;simp only[E.ev,E.ev_scp hh x h]
 | .idx sz x y,h=>by simp only[E.scp,Bt] at h;simp only[E.ev,E.ev_scp hh x h.1,E.ev_scp hh y h.2]
 | .len x,h| .slen x,h=>by simp only[E.scp] at h;simp only[E.ev,E.ev_scp hh x h]
 | .sidx x y,h=>by simp only[E.scp,Bt] at h;simp only[E.ev,E.ev_scp hh x h.1,E.ev_scp hh y h.2]
 | .ssl x y z,h=>by simp only[E.scp,Bt] at h;simp only[E.ev,E.ev_scp hh x h.1.1,E.ev_scp hh y h.1.2,E.ev_scp hh z h.2]
 | .lsl _ x y z,h=>by simp only[E.scp,Bt] at h;simp only[E.ev,E.ev_scp hh x h.1.1,E.ev_scp hh y h.1.2,E.ev_scp hh z h.2]
 | .app sz x y,h=>by simp only[E.scp,Bt] at h;simp only[E.ev,E.ev_scp hh x h.1,E.ev_scp hh y h.2]
 | .lit sz xs,h=>by simp only[E.scp] at h;simp only[E.ev,E.evs_scp hh xs h]
 | .rep sz x y,h=>by simp only[E.scp,Bt] at h;simp only[E.ev,E.ev_scp hh x h.1,E.ev_scp hh y h.2]
 | .set sz x y o vs,h=>by simp only[E.scp,Bt] at h;simp only[E.ev,E.ev_scp hh x h.1.1,E.ev_scp hh y h.1.2,E.evs_scp hh vs h.2]
 | .conv k x,h=>by simp only[E.scp] at h;simp only[E.ev,E.ev_scp hh x h]
 | .b2s x,h=>by simp only[E.scp] at h;simp only[E.ev,E.ev_scp hh x h]
 | .s2b x,h=>by simp only[E.scp] at h;simp only[E.ev,E.ev_scp hh x h]
 | .eqs neg g ts x y,h=>by simp only[E.scp,Bt] at h;simp only[E.ev,E.ev_scp hh x h.1,E.ev_scp hh y h.2]
 | .clo g xs,h=>by simp only[E.scp] at h;simp only[E.ev,E.evs_scp hh xs h]
 | .mn x y,h=>by simp only[E.scp,Bt] at h;simp only[E.ev,E.ev_scp hh x h.1,E.ev_scp hh y h.2]
 | .mx x y,h=>by simp only[E.scp,Bt] at h;simp only[E.ev,E.ev_scp hh x h.1,E.ev_scp hh y h.2]
 | .mget x y z,h=>by simp only[E.scp,Bt] at h;simp only[E.ev,E.ev_scp hh x h.1.1,E.ev_scp hh y h.1.2,E.ev_scp hh z h.2]
 | .mset x y z,h=>by simp only[E.scp,Bt] at h;simp only[E.ev,E.ev_scp hh x h.1.1,E.ev_scp hh y h.1.2,E.ev_scp hh z h.2]
 | .der x,h| .mkp _ x,h| .flt x,h=>by simp only[E.scp] at h;simp only[E.ev,E.ev_scp hh x h]
def E.evs_scp {n:Nat} {J η':List PV} (hh:∀k,k<n->J[k]? =η'[k]?):∀(xs:List E),E.scps n xs=true->E.evs J xs=E.evs η' xs
 |[],h=>by simp only[E.evs]
 |x::xs,h=>by simp only[E.scps,Bt] at h;simp only[E.evs,E.ev_scp hh x h.1,E.evs_scp hh xs h.2]
end
def PV.same_eq:∀(x y:PV),x.same y=true->x=y
 | .u,y,h=>by cases y<;>simp[PV.same] at h ⊢
 | .b x,y,h=>by cases y<;>simp[PV.same] at h ⊢;exact h
 | .i k n,y,h=>by cases y<;>simp[PV.same] at h ⊢;exact h
 | .s x,y,h=>by cases y<;>simp[PV.same] at h ⊢;exact h
 | .a cs,y,h=>by cases y<;>simp[PV.same] at h
 | .pt cs,y,h=>by cases y<;>simp[PV.same] at h
 | .l n [],.l n2 [],h=>by simp[PV.same] at h;rw[h]
 | .l n [],.l n2 (_::_),h=>by simp[PV.same] at h
 | .l n (_::_),y,h=>by cases y<;>simp[PV.same] at h
 | .l n [],.u,h=>by simp[PV.same] at h
 | .l n [],.b _,h=>by simp[PV.same] at h
 | .l n [],.i _ _,h=>by simp[PV.same] at h
 | .l n [],.s _,h=>by simp[PV.same] at h
 | .l n [],.a _,h=>by simp[PV.same] at h
 | .l n [],.f _ _,h=>by simp[PV.same] at h
 | .l n [],.m _,h=>by simp[PV.same] at h
 | .f g [],.f g' [],h=>by simp[PV.same] at h;rw[h]
 | .f g [],.f g' (_::_),h=>by simp[PV.same] at h
 | .f g (_::_),y,h=>by cases y<;>simp[PV.same] at h
 | .f g [],.u,h=>by simp[PV.same] at h
 | .f g [],.b _,h=>by simp[PV.same] at h
 | .f g [],.i _ _,h=>by simp[PV.same] at h
 | .f g [],.s _,h=>by simp[PV.same] at h
 | .f g [],.a _,h=>by simp[PV.same] at h
 | .f g [],.l _ _,h=>by simp[PV.same] at h
 | .f g [],.m _,h=>by simp[PV.same] at h
 | .m (_::_),y,h=>by cases y<;>simp[PV.same] at h
 | .m [],.m [],h=>rfl
 | .m [],.m (_::_),h=>by simp[PV.same] at h
 | .m [],.u,h=>by simp[PV.same] at h
 | .m [],.b _,h=>by simp[PV.same] at h
 | .m [],.i _ _,h=>by simp[PV.same] at h
 | .m [],.s _,h=>by simp[PV.same] at h
 | .m [],.a _,h=>by simp[PV.same] at h
 | .m [],.l _ _,h=>by simp[PV.same] at h
 | .m [],.f _ _,h=>by simp[PV.same] at h
mutual
def E.same_eq:∀(x y:E),x.same y=true->x=y
 | .v n,y,h=>by cases y<;>simp[E.same] at h ⊢;exact h
 | .c x,y,h=>by cases y<;>simp[E.same] at h ⊢;exact PV.same_eq _ _ h
 | .bin op a b,y,h=>by cases y<;>simp only[E.same,Bt,decide_eq_true_eq,B5] at h;rw[h.1.1,E.same_eq a _ h.1.2,E.same_eq b _ h.2]
 | .un op a,y,h=>by cases y<;>simp only[E.same,Bt,decide_eq_true_eq,B5] at h;rw[h.1,E.same_eq a _ h.2]
 | .ite g a b,y,h=>by cases y<;>simp only[E.same,Bt,B5] at h;rw[E.same_eq g _ h.1.1,E.same_eq a _ h.1.2,E.same_eq b _ h.2]
 | .proj j a,y,h=>by cases y<;>simp only[E.same,Bt,beq_iff_eq,B5] at h;rw[h.1,E.same_eq a _ h.2]
 | .sub o n a,y,h=>by cases y<;>simp only[E.same,Bt,beq_iff_eq,B5] at h;rw[h.1.1,h.1.2,E.same_eq a _ h.2]
 | .agg xs,y,h=>by cases y<;>simp only[E.same,B5] at h;rw[E.sames_eq xs _ h]
 | .fit n a,y,h=>by cases y<;>simp only[E.same,Bt,beq_iff_eq,B5] at h;rw[h.1,E.same_eq a _ h.2]
 | .scal a,y,h=>by cases y<;>simp only[E.same,B5] at h;rw[E.same_eq a _ h]
 | .idx s a b,y,h=>by cases y<;>simp only[E.same,Bt,beq_iff_eq,B5] at h;rw[h.1.1,E.same_eq a _ h.1.2,E.same_eq b _ h.2]
 | .len a,y,h| .slen a,y,h=>by cases y<;>simp only[E.same,B5] at h;rw[E.same_eq a _ h]
 | .sidx a b,y,h=>by cases y<;>simp only[E.same,Bt,B5] at h;rw[E.same_eq a _ h.1,E.same_eq b _ h.2]
 | .ssl a b d,y,h=>by cases y<;>simp only[E.same,Bt,B5] at h;rw[E.same_eq a _ h.1.1,E.same_eq b _ h.1.2,E.same_eq d _ h.2]
 | .lsl n a b d,y,h=>by cases y<;>simp only[E.same,Bt,beq_iff_eq,B5] at h;rw[h.1.1.1,E.same_eq a _ h.1.1.2,E.same_eq b _ h.1.2,E.same_eq d _ h.2]
 | .app s a b,y,h=>by cases y<;>simp only[E.same,Bt,beq_iff_eq,B5] at h;rw[h.1.1,E.same_eq a _ h.1.2,E.same_eq b _ h.2]
 | .lit s xs,y,h=>by cases y<;>simp only[E.same,Bt,beq_iff_eq,B5] at h;rw[h.1,E.sames_eq xs _ h.2]
 | .rep s a b,y,h=>by cases y<;>simp only[E.same,Bt,beq_iff_eq,B5] at h;rw[h.1.1,E.same_eq a _ h.1.2,E.same_eq b _ h.2]
 | .set s a b o vs,y,h=>by cases y<;>simp only[E.same,Bt,beq_iff_eq,B5] at h;rw[h.1.1.1.1,E.same_eq a _ h.1.1.1.2,E.same_eq b _ h.1.1.2,h.1.2,E.sames_eq vs _ h.2]
 | .conv k a,y,h=>by cases y<;>simp only[E.same,Bt,beq_iff_eq,B5] at h;rw[h.1,E.same_eq a _ h.2]
 | .b2s a,y,h=>by cases y<;>simp only[E.same,B5] at h;rw[E.same_eq a _ h]
 | .s2b a,y,h=>by cases y<;>simp only[E.same,B5] at h;rw[E.same_eq a _ h]
 | .eqs n g ts a b,y,h=>by cases y<;>simp only[E.same,Bt,beq_iff_eq,decide_eq_true_eq,B5] at h;rw[h.1.1.1.1,h.1.1.1.2,h.1.1.2,E.same_eq a _ h.1.2,E.same_eq b _ h.2]
 | .clo g xs,y,h=>by cases y<;>simp only[E.same,Bt,beq_iff_eq,B5] at h;rw[h.1,E.sames_eq xs _ h.2]
 | .mn a b,y,h=>by cases y<;>simp only[E.same,Bt,B5] at h;rw[E.same_eq a _ h.1,E.same_eq b _ h.2]
 | .mx a b,y,h=>by cases y<;>simp only[E.same,Bt,B5] at h;rw[E.same_eq a _ h.1,E.same_eq b _ h.2]
 | .mget a b d,y,h=>by cases y<;>simp only[E.same,Bt,B5] at h;rw[E.same_eq a _ h.1.1,E.same_eq b _ h.1.2,E.same_eq d _ h.2]
 | .mset a b d,y,h=>by cases y<;>simp only[E.same,Bt,B5] at h;rw[E.same_eq a _ h.1.1,E.same_eq b _ h.1.2,E.same_eq d _ h.2]
 | .der a,y,h=>by cases y<;>simp only[E.same,B5] at h;rw[E.same_eq a _ h]
 | .flt a,y,h=>by cases y<;>simp only[E.same,B5] at h;rw[E.same_eq a _ h]
 | .mkp o a,y,h=>by cases y<;>simp only[E.same,Bt,beq_iff_eq,B5] at h;rw[h.1,E.same_eq a _ h.2]
def E.sames_eq:∀(xs ys:List E),E.sames xs ys=true->xs=ys
 |[],[],_=>rfl
 |[],_::_,h=>by simp[E.sames] at h
 |_::_,[],h=>by simp[E.sames] at h
 |x::xs,y::ys,h=>by simp only[E.sames,Bt] at h;rw[E.same_eq x y h.1,E.sames_eq xs ys h.2]
end
mutual
def SV.same_eq:∀(x y:SV),x.same y=true->x=y
 | .e a,y,hh=>by cases y<;>simp only[SV.same,B5] at hh;rw[E.same_eq a _ hh]
 | .nil n,y,hh=>by cases y<;>simp only[SV.same,beq_iff_eq,B5] at hh;rw[hh]
 | .lit n a,y,hh=>by cases y<;>simp only[SV.same,Bt,beq_iff_eq,B5] at hh;rw[hh.1,E.same_eq a _ hh.2]
 | .may g a,y,hh=>by cases y<;>simp only[SV.same,Bt,B5] at hh;rw[E.same_eq g _ hh.1,SV.same_eq a _ hh.2]
 | .und,y,hh=>by cases y<;>simp only[SV.same,B5] at hh;rfl
 | .bp s o,y,hh=>by cases y<;>simp only[SV.same,Bt,beq_iff_eq,B5] at hh;rw[hh.1,hh.2]
 | .ip a o,y,hh=>by cases y<;>simp only[SV.same,Bt,beq_iff_eq,B5] at hh;rw[E.same_eq a _ hh.1,hh.2]
 | .ap s i o,y,hh=>by cases y<;>simp only[SV.same,Bt,beq_iff_eq,B5] at hh;rw[hh.1.1,E.same_eq i _ hh.1.2,hh.2]
 | .suf s i,y,hh=>by cases y<;>simp only[SV.same,Bt,beq_iff_eq,B5] at hh;rw[hh.1,E.same_eq i _ hh.2]
 | .h s,y,hh=>by cases y<;>simp only[SV.same,beq_iff_eq,B5] at hh;rw[hh]
 | .mh s,y,hh=>by cases y<;>simp only[SV.same,beq_iff_eq,B5] at hh;rw[hh]
 | .tup xs,y,hh=>by cases y<;>simp only[SV.same,B5] at hh;rw[SV.sames_eq xs _ hh]
 | .ag xs,y,hh=>by cases y<;>simp only[SV.same,B5] at hh;rw[SV.sames_eq xs _ hh]
 | .clo g xs,y,hh=>by cases y<;>simp only[SV.same,Bt,beq_iff_eq,B5] at hh;rw[hh.1,SV.sames_eq xs _ hh.2]
 | .nilq a,y,hh=>by cases y<;>simp only[SV.same,B5] at hh;rw[E.same_eq a _ hh]
 | .slf s t,y,hh=>by cases y<;>simp only[SV.same,Bt,beq_iff_eq,B5] at hh;rw[hh.1,hh.2]
def SV.sames_eq:∀(xs ys:List SV),SV.sames xs ys=true->xs=ys
 |[],[],_=>rfl
 |[],_::_,hh=>by simp[SV.sames] at hh
 |_::_,[],hh=>by simp[SV.sames] at hh
 |x::xs,y::ys,hh=>by simp only[SV.sames,Bt] at hh;rw[SV.same_eq x y hh.1,SV.sames_eq xs ys hh.2]
end
def Vb {J:List PV}:∀(g g0:E),Ss g g0=true->g.ev J=some (.b true)->g0.ev J=some (.b true)
 | .ite g' x y,g0,h,he=>by
   simp only[Ss,Cq,Bt] at h;rcases h with h|⟨hy,h⟩
   .rw[<-E.same_eq _ _ h];exact he
   .refine Vb g' g0 h ?_;simp only[E.ev,Bl] at he;obtain⟨r,hr,he⟩:=he;split at he
    .exact hr
    .split at hy
     .simp[E.ev] at he
     .cases hy
    .cases he
 | .v ..,g0,h,he| .c ..,g0,h,he| .bin ..,g0,h,he| .un ..,g0,h,he| .proj ..,g0,h,he| .sub ..,g0,h,he| .agg ..,g0,h,he| .fit ..,g0,h,he
 | .scal ..,g0,h,he| .idx ..,g0,h,he| .len ..,g0,h,he| .slen ..,g0,h,he| .sidx ..,g0,h,he| .ssl ..,g0,h,he| .lsl ..,g0,h,he| .app ..,g0,h,he| .lit ..,g0,h,he
 | .rep ..,g0,h,he| .set ..,g0,h,he| .conv ..,g0,h,he| .b2s ..,g0,h,he| .s2b ..,g0,h,he| .eqs ..,g0,h,he| .clo ..,g0,h,he| .mn ..,g0,h,he
 | .mx ..,g0,h,he| .mget ..,g0,h,he| .mset ..,g0,h,he| .der ..,g0,h,he| .mkp ..,g0,h,he| .flt ..,g0,h,he=>by simp only[Ss] at h;rw[<-E.same_eq _ _ h];exact he
open Go Go.RowKit
structure Vw where
 cell:Addr->Option Value
 map:Nat->Option (Array MapEntry)
structure Vw.Le (M M':Vw):Prop where
 cell:∀a v,M.cell a=some v->M'.cell a=some v
 map:∀r es,M.map r=some es->M'.map r=some es
def Vw.Le.refl (M:Vw):M.Le M:=⟨fun _ _ h=>h,fun _ _ h=>h⟩
def Vw.Le.trans {M M' M'':Vw} (h:M.Le M') (h':M'.Le M''):M.Le M'':=⟨fun a v e=>h'.cell a v (h.cell a v e),fun a v e=>h'.map a v (h.map a v e)⟩
abbrev One (v:Value):Prop:=v.oneCell'=true
inductive Rep (M:Vw):PV->Value->Prop
 |u (v:Value):Rep M .u v
 |b (x:Bool):Rep M (.b x) (.bool x)
 |i (k:IntKind) (n:Int):Rep M (.i k n) (.int k n)
 |s (x:List UInt8) (y:ByteArray) (h:y.data.toList=x):Rep M (.s x) (.string y)
 |a (cs:List PV) (vs:Array Value) (hl:vs.size=cs.length) (h1:∀v,v∈vs.toList->One v)
    (h:∀(j:Nat) (c:PV) (v:Value),cs[j]? =some c->vs[j]? =some v->Rep M c v):Rep M (.a cs) (.agg vs)
 |l (sz:Nat) (xs:List PV) (base:Option Addr) (cap:Nat) (ad:Addr) (el:Nat->Nat->Value) (hc:xs.length<=cap) (hb:xs≠[]->base=some ad)
    (hsz:∀(i:Nat) (x:PV),xs[i]? =some x->x.cells.length=sz)
    (hM:∀(i:Nat) (x:PV) (j:Nat) (c:PV),xs[i]? =some x->x.cells[j]? =some c->M.cell (ad.add (i*sz+j))=some (el i j))
    (h1:∀(i:Nat) (x:PV) (j:Nat) (c:PV),xs[i]? =some x->x.cells[j]? =some c->One (el i j))
    (h:∀(i:Nat) (x:PV) (j:Nat) (c:PV),xs[i]? =some x->x.cells[j]? =some c->Rep M c (el i j)):Rep M (.l sz xs) (.slice base xs.length cap)
 |f (g:Nat) (caps:List PV) (cv:Array Value) (ads:Nat->Addr) (el:Nat->Nat->Value) (hl:cv.size=caps.length)
    (hcv:∀j:Nat,j<caps.length->cv[j]? =some (.pointer (some (ads j))))
    (hM:∀(i:Nat) (x:PV) (j:Nat) (c:PV),caps[i]? =some x->x.cells[j]? =some c->M.cell ((ads i).add j)=some (el i j))
    (h1:∀(i:Nat) (x:PV) (j:Nat) (c:PV),caps[i]? =some x->x.cells[j]? =some c->One (el i j))
    (h:∀(i:Nat) (x:PV) (j:Nat) (c:PV),caps[i]? =some x->x.cells[j]? =some c->Rep M c (el i j)):Rep M (.f g caps) (.func (.func g) #[] cv)
 |m (es:List (PV×PV)) (r:Nat) (ents:Array MapEntry) (hr:M.map r=some ents) (hl:ents.size=es.length)
    (hk:∀(j:Nat) (e:PV×PV) (x:MapEntry),es[j]? =some e->ents[j]? =some x->Rep M e.1 x.key)
    (hv:∀(j:Nat) (e:PV×PV) (x:MapEntry),es[j]? =some e->ents[j]? =some x->Rep M e.2 x.val)
    (h1:∀(j:Nat) (e:PV×PV) (x:MapEntry),es[j]? =some e->ents[j]? =some x->One x.val):Rep M (.m es) (.map (some r))
 |pt (cs:List PV) (ad:Addr) (el:Nat->Value) (hM:∀(j:Nat) (c:PV),cs[j]? =some c->M.cell (ad.add j)=some (el j))
   (h1:∀(j:Nat) (c:PV),cs[j]? =some c->One (el j)) (h:∀(j:Nat) (c:PV),cs[j]? =some c->Rep M c (el j)):Rep M (.pt cs) (.pointer (some ad))
def Rep.mono {M M':Vw} (hM:M.Le M') {p:PV} {v:Value} (h:Rep M p v):Rep M' p v:=by
 induction h with
 |u v=>exact .u v
 |b x=>exact .b x
 |i k n=>exact .i k n
 |s x y h=>exact .s x y h
 |a cs vs hl h1 _ ih=>exact .a cs vs hl h1 ih
 |l sz xs base cap ad el hc hb hsz hm h1 _ ih=>exact .l sz xs base cap ad el hc hb hsz (fun i x j c h h'=>hM.cell _ _ (hm i x j c h h')) h1 ih
 |f g caps cv ads el hl hcv hm h1 _ ih=>exact .f g caps cv ads el hl hcv (fun i x j c h h'=>hM.cell _ _ (hm i x j c h h')) h1 ih
 |m es r ents hr hl _ _ h1 ihk ihv=>exact .m es r ents (hM.map _ _ hr) hl ihk ihv h1
 |pt cs ad el hm h1 _ ih=>exact .pt cs ad el (fun j c hj=>hM.cell _ _ (hm j c hj)) h1 ih
def Rep.one {M:Vw} {p:PV} {v:Value} (h:Rep M p v) (hp:p.scal=true):One v:=by cases h<;>first|rfl|simp[PV.scal] at hp
def Rep.notAgg {M:Vw} {p:PV} {v:Value} (h:Rep M p v) (hp:p.scal=true):v.cells= #[v]:=by cases h<;>first|rfl|simp[PV.scal] at hp
def PV.scal_cells {p:PV} (hp:p.scal=true):p.cells=[p]:=by cases p<;>first|rfl|simp[PV.scal] at hp
def Rep.cells {M:Vw} {p:PV} {v:Value} (h:Rep M p v) (hp:p≠ .u):
  v.cells.size=p.cells.length∧(∀u,u∈v.cells.toList->One u)∧∀(j:Nat) (c:PV) (u:Value),p.cells[j]? =some c->v.cells[j]? =some u->Rep M c u:=by
 have sc:∀{q:PV} {y:Value},Rep M q y->q.scal=true->y.cells.size=q.cells.length∧(∀u,u∈y.cells.toList->One u)∧∀(j:Nat) (c:PV) (u:Value),q.cells[j]? =some c->y.cells[j]? =some u->Rep M c u:=by
  intro q y hq hs;rw[hq.notAgg hs,PV.scal_cells hs];refine⟨rfl,fun u hu=> ?_,fun j c u hc hu=> ?_⟩
  .simp at hu;subst hu;exact hq.one hs
  .cases j with
   |zero=>simp at hc hu;subst hc;subst hu;exact hq
   |succ j=>simp at hc
 cases p with
 |u=>exact absurd rfl hp
 |a cs=>
  cases h with
  |a _ vs hl h1 h=>exact⟨hl,h1,fun j c u hc hu=>h j c u hc hu⟩
 |_=>exact sc h rfl
def H7 (M:Vw) (cs:List PV) (v:Value):Prop:=
 ∃ad,∃el:Nat->Value,v= .pointer (some ad)∧(∀(j:Nat) (c:PV),cs[j]? =some c->M.cell (ad.add j)=some (el j))∧(∀(j:Nat) (c:PV),cs[j]? =some c->One (el j))∧∀(j:Nat) (c:PV),cs[j]? =some c->Rep M c (el j)
def H7.mono {M M':Vw} (hM:M.Le M') {cs:List PV} {v:Value} (h:H7 M cs v):H7 M' cs v:=by obtain⟨ad,el,rfl,h1,h2,h3⟩:=h;exact⟨ad,el,rfl,fun j c hj=>hM.cell _ _ (h1 j c hj),h2,fun j c hj=>(h3 j c hj).mono hM⟩
def Rep.ptr {M:Vw} {cs:List PV} {v:Value} (h:Rep M (.pt cs) v):H7 M cs v:=by
 cases h with
 |pt _ ad el hm h1 h=>exact⟨ad,el,rfl,hm,h1,h⟩
def H7.rep {M:Vw} {cs:List PV} {v:Value} (h:H7 M cs v):Rep M (.pt cs) v:=by obtain⟨ad,el,rfl,hm,h1,h⟩:=h;exact .pt cs ad el hm h1 h
def Addr.add_add (a:Addr) (k j:Nat):(a.add k).add j=a.add (k+j):=by unfold Go.Addr.add;by_cases hk:k=0<;>by_cases hj:j=0<;>simp[hk,hj,Fc]
structure Cx where
 J:List PV
 M:Vw
 β:Nat->Nat
 hv:Nat->Value
 m:List (Nat×Blk)
def yr (sz k:Nat):Value->Value
 | .slice a n c=> .slice (if c=k then a else a.map (·.add (k*sz))) (n - k) (c - k)
 |v=>v
mutual
def Cj (C:Cx):SV->Value->Prop
 | .e x,v=>∃p,x.ev C.J=some p∧Rep C.M p v
 | .nil _,v=>v= .slice none 0 0
 | .lit sz x,v=>∃xs a,x.ev C.J=some (.l sz xs)∧v= .slice a xs.length xs.length∧Rep C.M (.l sz xs) v
 | .may g x,v=>∃b,g.ev C.J=some (.b b)∧(b=true->Cj C x v)∧(b=false->v=undef)
 | .und,_=>True
 | .bp s off,v=>v= .pointer (some ⟨C.β s,off,none⟩)
 | .ip x off,v=>∃p,x.ev C.J=some p∧H7 C.M (p.cells.drop off) v
 | .ap s i off,v=>s<NAP∧∃e sz x ro xs k iv,mget C.m s=some (.arr e sz x ro)∧x.ev C.J=some (.l sz xs)∧i.ev C.J=some (.i k iv)∧0<=iv∧iv.toNat<xs.length∧
    v= .pointer (some ⟨C.β s,iv.toNat*sz+off,none⟩)
 | .suf s i,v=>s<NAP∧∃e sz x ro xs k iv,mget C.m s=some (.arr e sz x ro)∧x.ev C.J=some (.l sz xs)∧i.ev C.J=some (.i k iv)∧0<=iv∧iv.toNat<=xs.length∧v=yr sz iv.toNat (C.hv s)
 | .h s,v=>v=C.hv s
 | .mh s,v=>v= .map (some (C.β s))
 | .tup xs,v=>∃vs:Array Value,v= .tuple vs∧Cb C xs vs.toList
 | .ag xs,v=>∃vs:Array Value,v= .agg vs∧(∀u,u∈vs.toList->One u)∧Cb C xs vs.toList
 | .clo g caps,v=>∃cv:Array Value,v= .func (.func g) #[] cv∧Cb C caps cv.toList
 | .nilq x,v=>∃sz xs b,x.ev C.J=some (.l sz xs)∧v= .bool b∧(b=true->xs=[])
 | .slf s _,v=>v= .pointer none∨v= .pointer (some ⟨C.β s,0,none⟩)
def Cb (C:Cx):List SV->List Value->Prop
 |[],vs=>vs=[]
 |x::xs,vs=>∃v r,vs=v::r∧Cj C x v∧Cb C xs r
end
def Cb.length {C:Cx}:∀{xs:List SV} {vs:List Value},Cb C xs vs->xs.length=vs.length
 |[],_,h=>by simp only[Cb] at h;subst h;rfl
 |x::xs,_,h=>by simp only[Cb] at h;obtain⟨v,r,rfl,_,h⟩:=h;simp[Cb.length h]
def Cb.get {C:Cx}:∀{xs:List SV} {vs:List Value},Cb C xs vs->∀(j:Nat) (x:SV),xs[j]? =some x->∃v,vs[j]? =some v∧Cj C x v
 |[],_,_,j,x,hj=>by simp at hj
 |y::xs,_,h,j,x,hj=>by
  simp only[Cb] at h;obtain⟨v,r,rfl,hv,h⟩:=h;cases j with
  |zero=>simp at hj;subst hj;exact⟨v,rfl,hv⟩
  |succ j=>exact h.get j x (by simpa using hj)
def Cb.mk {C:Cx}:∀{xs:List SV} {vs:List Value},xs.length=vs.length->(∀(j:Nat) (x:SV) (v:Value),xs[j]? =some x->vs[j]? =some v->Cj C x v)->Cb C xs vs
 |[],vs,hl,_=>by simp only[Cb];exact Cp (by simpa using hl.symm)
 |x::xs,[],hl,_=>by simp at hl
 |x::xs,v::vs,hl,h=>by simp only[Cb];exact⟨v,vs,rfl,h 0 x v rfl rfl,Cb.mk (by simpa using hl) fun j y u hy hu=>h (j+1) y u (by simpa using hy) (by simpa using hu)⟩
def Cb.set {C:Cx} {xs:List SV} {vs:List Value} (h:Cb C xs vs) (k:Nat) {x:SV} {v:Value} (hx:Cj C x v):Cb C (xs.set k x) (vs.set k v):=by
 refine Cb.mk (by simp[h.length]) fun j y u hy hu=> ?_;rw[Ev] at hy hu;by_cases hk:k=j
 .subst hk;simp only[if_true] at hy hu;split at hy
  .rename_i hlt;rw[if_pos (by rw[<-h.length];exact hlt)] at hu;injection hy with hy;injection hu with hu;subst hy;subst hu;exact hx
  .cases hy
 .rw[if_neg hk] at hy hu;obtain⟨v',hv',hr⟩:=h.get j y hy;rw[hu] at hv';injection hv' with hv';subst hv';exact hr
structure Cx.At (C C':Cx) (s:Nat):Prop where
 β:C'.β s=C.β s
 hv:C'.hv s=C.hv s
 arr:∀e sz x ro xs,mget C.m s=some (.arr e sz x ro)->x.ev C.J=some (.l sz xs)->∃e' x' ro' xs',mget C'.m s=some (.arr e' sz x' ro')∧x'.ev C'.J=some (.l sz xs')∧xs.length<=xs'.length
structure Cx.Le (C C':Cx):Prop where
 ev:∀(x:E) p,x.ev C.J=some p->x.ev C'.J=some p
 M:C.M.Le C'.M
mutual
def Cj.kill {C C':Cx} {s0:Nat} (hl:C.Le C') (hs:∀s,s≠s0->C.At C' s):∀(x:SV) (v:Value),Cj C x v->Cj C' (x.kill s0) v
 | .e x,v,h=>by simp only[Cj,SV.kill] at h ⊢;obtain⟨p,h1,h2⟩:=h;exact⟨p,hl.ev _ _ h1,h2.mono hl.M⟩
 | .nil _,v,h=>by simpa only[Cj,SV.kill] using h
 | .lit sz x,v,h=>by simp only[Cj,SV.kill] at h ⊢;obtain⟨xs,a,h1,h2,h3⟩:=h;exact⟨xs,a,hl.ev _ _ h1,h2,h3.mono hl.M⟩
 | .may g x,v,h=>by simp only[Cj,SV.kill] at h ⊢;obtain⟨b,h1,h2,h3⟩:=h;exact⟨b,hl.ev _ _ h1,fun hb=>Cj.kill hl hs x v (h2 hb),h3⟩
 | .und,v,h=>by simp only[Cj,SV.kill]
 | .bp s off,v,h=>by
   simp only[SV.kill];split
   .simp only[Cj]
   .rename_i hne;simp only[Cj] at h ⊢;rw[(hs s hne).β];exact h
 | .ip x off,v,h=>by simp only[Cj,SV.kill] at h ⊢;obtain⟨p,h1,h2⟩:=h;exact⟨p,hl.ev _ _ h1,h2.mono hl.M⟩
 | .ap s i off,v,h=>by
   simp only[SV.kill];split
   .simp only[Cj]
   .rename_i hne;simp only[Cj] at h ⊢;obtain⟨hn,e,sz,x,ro,xs,k,iv,h1,h2,h3,h4,h5,h6⟩:=h;obtain⟨e',x',ro',xs',g1,g2,g3⟩:=(hs s hne).arr e sz x ro xs h1 h2;exact⟨hn,e',sz,x',ro',xs',k,iv,g1,g2,hl.ev _ _ h3,h4,by omega,by rw[(hs s hne).β];exact h6⟩
 | .suf s i,v,h=>by
   simp only[SV.kill];split
   .simp only[Cj]
   .rename_i hne;simp only[Cj] at h ⊢;obtain⟨hn,e,sz,x,ro,xs,k,iv,h1,h2,h3,h4,h5,h6⟩:=h;obtain⟨e',x',ro',xs',g1,g2,g3⟩:=(hs s hne).arr e sz x ro xs h1 h2;exact⟨hn,e',sz,x',ro',xs',k,iv,g1,g2,hl.ev _ _ h3,h4,by omega,by rw[(hs s hne).hv];exact h6⟩
 | .h s,v,hh=>by
   simp only[SV.kill];split
   .simp only[Cj]
   .rename_i hne;simp only[Cj] at hh ⊢;rw[(hs s hne).hv];exact hh
 | .mh s,v,hh=>by
   simp only[SV.kill];split
   .simp only[Cj]
   .rename_i hne;simp only[Cj] at hh ⊢;rw[(hs s hne).β];exact hh
 | .tup xs,v,h=>by simp only[Cj,SV.kill] at h ⊢;obtain⟨vs,h1,h2⟩:=h;exact⟨vs,h1,Cb.kill hl hs xs _ h2⟩
 | .ag xs,v,h=>by simp only[Cj,SV.kill] at h ⊢;obtain⟨vs,h1,h2,h3⟩:=h;exact⟨vs,h1,h2,Cb.kill hl hs xs _ h3⟩
 | .clo g xs,v,h=>by simp only[Cj,SV.kill] at h ⊢;obtain⟨vs,h1,h2⟩:=h;exact⟨vs,h1,Cb.kill hl hs xs _ h2⟩
 | .nilq x,v,h=>by simp only[Cj,SV.kill] at h ⊢;obtain⟨sz,xs,b,h1,h2,h3⟩:=h;exact⟨sz,xs,b,hl.ev _ _ h1,h2,h3⟩
 | .slf s T,v,h=>by
   simp only[SV.kill];split
   .simp only[Cj]
   .rename_i hne;simp only[Cj] at h ⊢;rw[(hs s hne).β];exact h
def Cb.kill {C C':Cx} {s0:Nat} (hl:C.Le C') (hs:∀s,s≠s0->C.At C' s):∀(xs:List SV) (vs:List Value),Cb C xs vs->Cb C' (SV.kills s0 xs) vs
 |[],vs,h=>by simpa only[Cb,SV.kills] using h
 |x::xs,vs,h=>by simp only[Cb,SV.kills] at h ⊢;obtain⟨v,r,rfl,h1,h2⟩:=h;exact⟨v,r,rfl,Cj.kill hl hs x v h1,Cb.kill hl hs xs r h2⟩
end
mutual
def Cj.le {C C':Cx} (hl:C.Le C') (hs:∀s,C.At C' s):∀(x:SV) (v:Value),Cj C x v->Cj C' x v
 | .e x,v,h=>by simp only[Cj] at h ⊢;obtain⟨p,h1,h2⟩:=h;exact⟨p,hl.ev _ _ h1,h2.mono hl.M⟩
 | .nil _,v,h=>by simpa only[Cj] using h
 | .lit sz x,v,h=>by simp only[Cj] at h ⊢;obtain⟨xs,a,h1,h2,h3⟩:=h;exact⟨xs,a,hl.ev _ _ h1,h2,h3.mono hl.M⟩
 | .may g x,v,h=>by simp only[Cj] at h ⊢;obtain⟨b,h1,h2,h3⟩:=h;exact⟨b,hl.ev _ _ h1,fun hb=>Cj.le hl hs x v (h2 hb),h3⟩
 | .und,v,h=>by simp only[Cj]
 | .bp s off,v,h=>by simp only[Cj] at h ⊢;rw[(hs s).β];exact h
 | .ip x off,v,h=>by simp only[Cj] at h ⊢;obtain⟨p,h1,h2⟩:=h;exact⟨p,hl.ev _ _ h1,h2.mono hl.M⟩
 | .ap s i off,v,h=>by simp only[Cj] at h ⊢;obtain⟨hn,e,sz,x,ro,xs,k,iv,h1,h2,h3,h4,h5,h6⟩:=h;obtain⟨e',x',ro',xs',g1,g2,g3⟩:=(hs s).arr e sz x ro xs h1 h2;exact⟨hn,e',sz,x',ro',xs',k,iv,g1,g2,hl.ev _ _ h3,h4,by omega,by rw[(hs s).β];exact h6⟩
 | .suf s i,v,h=>by simp only[Cj] at h ⊢;obtain⟨hn,e,sz,x,ro,xs,k,iv,h1,h2,h3,h4,h5,h6⟩:=h;obtain⟨e',x',ro',xs',g1,g2,g3⟩:=(hs s).arr e sz x ro xs h1 h2;exact⟨hn,e',sz,x',ro',xs',k,iv,g1,g2,hl.ev _ _ h3,h4,by omega,by rw[(hs s).hv];exact h6⟩
 | .h s,v,hh=>by simp only[Cj] at hh ⊢;rw[(hs s).hv];exact hh
 | .mh s,v,hh=>by simp only[Cj] at hh ⊢;rw[(hs s).β];exact hh
 | .tup xs,v,h=>by simp only[Cj] at h ⊢;obtain⟨vs,h1,h2⟩:=h;exact⟨vs,h1,Cb.le hl hs xs _ h2⟩
 | .ag xs,v,h=>by simp only[Cj] at h ⊢;obtain⟨vs,h1,h2,h3⟩:=h;exact⟨vs,h1,h2,Cb.le hl hs xs _ h3⟩
 | .clo g xs,v,h=>by simp only[Cj] at h ⊢;obtain⟨vs,h1,h2⟩:=h;exact⟨vs,h1,Cb.le hl hs xs _ h2⟩
 | .nilq x,v,h=>by simp only[Cj] at h ⊢;obtain⟨sz,xs,b,h1,h2,h3⟩:=h;exact⟨sz,xs,b,hl.ev _ _ h1,h2,h3⟩
 | .slf s T,v,h=>by simp only[Cj] at h ⊢;rw[(hs s).β];exact h
def Cb.le {C C':Cx} (hl:C.Le C') (hs:∀s,C.At C' s):∀(xs:List SV) (vs:List Value),Cb C xs vs->Cb C' xs vs
 |[],vs,h=>by simpa only[Cb] using h
 |x::xs,vs,h=>by simp only[Cb] at h ⊢;obtain⟨v,r,rfl,h1,h2⟩:=h;exact⟨v,r,rfl,Cj.le hl hs x v h1,Cb.le hl hs xs r h2⟩
end
def Cr (w:World) (O:Nat->Option Nat):Vw where
 cell a:=match O a.block with
  |none=>w.cell? a
  |some lim=>if a.off<lim then w.cell? a else none
 map r:=match O r with
  |none=>match w.heap[r]? with|some (.map es _)=>some es|_=>none
  |some _=>none
def Lj {w:World} {O:Nat->Option Nat} {a:Addr} {v:Value} (h:(Cr w O).cell a=some v):w.cell? a=some v∧∀lim,O a.block=some lim->a.off<lim:=by
 simp only[Cr] at h;split at h
 .rename_i ho;exact⟨h,fun lim hl=>by rw[ho] at hl;cases hl⟩
 .rename_i lim ho;split at h
  .rename_i hlt;exact⟨h,fun l hl=>by rw[ho] at hl;injection hl with hl;omega⟩
  .cases h
def Fy {w:World} {O:Nat->Option Nat} {a:Addr} {v:Value} (h:w.cell? a=some v) (ho:∀lim,O a.block=some lim->a.off<lim):(Cr w O).cell a=some v:=by
 simp only[Cr];split
 .exact h
 .rename_i lim hl;rw[if_pos (ho lim hl)];exact h
def Wv {w:World} {O:Nat->Option Nat} {r:Nat} {es:Array MapEntry} (h:(Cr w O).map r=some es):O r=none∧∃clock,w.heap[r]? =some (.map es clock):=by
 simp only[Cr] at h;split at h
 .rename_i ho;split at h
  .rename_i es' c hh;injection h with h;subst h;exact⟨ho,c,hh⟩
  .cases h
 .cases h
def M1 {w:World} {O:Nat->Option Nat} {r:Nat} {es:Array MapEntry} {clock:Nat} (ho:O r=none) (h:w.heap[r]? =some (.map es clock)):(Cr w O).map r=some es:=by simp only[Cr,ho,h]
def Ds4 {w:World} {a:Addr} {v:Value} (h:w.cell? a=some v):a.block<w.heap.size:=World.block_lt_of_cell? w a h
def Hc {w w':World} {O O':Nat->Option Nat} (hb:∀c,c<w.heap.size->(∀lim,O c=some lim->0<lim)->w'.heap[c]? =w.heap[c]?)
  (hO:∀c,c<w.heap.size->(∀lim,O' c=some lim->∃l,O c=some l∧l<=lim)) (hO2:∀c,c<w.heap.size->O c=none->O' c=none):(Cr w O).Le (Cr w' O'):=by
 constructor
 .intro a v h;obtain⟨h1,h2⟩:=Lj h;have hlt:=Ds4 h1;refine Fy ?_ fun lim hl=> ?_
  .rw[World.cell?_of_block (hb a.block hlt fun lim hl=>Nat.lt_of_le_of_lt (D9 _) (h2 lim hl))];exact h1
  .obtain⟨l,h3,h4⟩:=hO a.block hlt lim hl;have:=h2 l h3;omega
 .intro r es h;obtain⟨h1,c,h2⟩:=Wv h;have hlt:r<w.heap.size:=(Dd.1 h2).1;exact M1 (hO2 r hlt h1) (by rw[hb r hlt (fun lim hl=>by rw[h1] at hl;cases hl)];exact h2)
def I7 (M:Vw) (sz:Nat) (xs:List PV) (vs:List Value):Prop:=
 ∀(i:Nat) (x:PV),xs[i]? =some x->x.cells.length=sz∧∀(j:Nat) (c:PV),x.cells[j]? =some c->∃u,vs[i*sz+j]? =some u∧One u∧Rep M c u
def I7.mono {M M':Vw} (hM:M.Le M') {sz:Nat} {xs:List PV} {vs:List Value} (h:I7 M sz xs vs):I7 M' sz xs vs:=by intro i x hx;obtain⟨h1,h2⟩:=h i x hx;refine⟨h1,fun j c hc=> ?_⟩;obtain⟨u,g1,g2,g3⟩:=h2 j c hc;exact⟨u,g1,g2,g3.mono hM⟩
structure MapRep (M:Vw) (es:List (PV×PV)) (ents:Array MapEntry):Prop where
 len:ents.size=es.length
 key:∀(j:Nat) (e:PV×PV) (x:MapEntry),es[j]? =some e->ents[j]? =some x->Rep M e.1 x.key
 val:∀(j:Nat) (e:PV×PV) (x:MapEntry),es[j]? =some e->ents[j]? =some x->Rep M e.2 x.val
 one:∀(j:Nat) (e:PV×PV) (x:MapEntry),es[j]? =some e->ents[j]? =some x->One x.val
def MapRep.mono {M M':Vw} (hM:M.Le M') {es:List (PV×PV)} {ents:Array MapEntry} (h:MapRep M es ents):MapRep M' es ents:=
 ⟨h.len,fun j e x a b=>(h.key j e x a b).mono hM,fun j e x a b=>(h.val j e x a b).mono hM,h.one⟩
def C8:Value->Option Nat
 | .slice (some a) _ cap=>if cap=0 then none else some a.block
 |_=>none
abbrev y3 (n:Nat):Nat->Prop:=fun g=>n<=g
def Own (w:World) (B:Nat->Prop) (e size:Nat) (v:Value) (n:Nat) (xs:List Value):Prop:=
 xs.length=n*size∧
 ((∃a,v= .slice a 0 0∧n=0)∨
  ∃g cap cur,v= .slice (some ⟨g,0,none⟩) n cap∧0<cap∧B g∧w.heap[g]? =some (.cells cur e (0,0))∧n<=cap∧cap<=maxLen∧cur.size=cap*size∧cur.toList.take (n*size)=xs)
def Own.of {w:World} {base e size:Nat} {v:Value} {n:Nat} {xs:List Value} (h:w.ownsRow base e size v n xs):Own w (y3 base) e size v n xs:=by
 refine⟨h.1,?_⟩;rcases h.2 with⟨h1,h2⟩|⟨g,cap,cur,h1,h2,h3,h4,h5⟩
 .exact .inl ⟨none,h1,h2⟩
 .by_cases hc:cap=0
  .have hn:n=0:=by omega
   subst hc;subst hn;exact .inl ⟨_,h1,rfl⟩
  .exact .inr ⟨g,cap,cur,h1,by omega,h2,h3,h4,h5⟩
def Own.lt {w:World} {B:Nat->Prop} {e size:Nat} {v:Value} {n:Nat} {xs:List Value} (h:Own w B e size v n xs):∀k,C8 v=some k->B k∧k<w.heap.size:=by
 intro k hk;rcases h.2 with⟨a,rfl,_⟩|⟨g,cap,cur,rfl,hc,hb,hg,_⟩
 .cases a<;>simp[C8] at hk
 .simp only[C8,if_neg (show¬cap=0 by omega),Bm] at hk;subst hk;exact⟨hb,(Dd.1 hg).1⟩
def Own.cells {w:World} {B:Nat->Prop} {e size:Nat} {v:Value} {n:Nat} {xs:List Value} (h:Own w B e size v n xs) {g:Nat} (hg:C8 v=some g):∀j u,xs[j]? =some u->w.cell? ((⟨g,0,none⟩:Addr).add j)=some u:=by
 intro j u hu;rcases h.2 with⟨a,rfl,_⟩|⟨g',cap,cur,rfl,hc,hb,hgg,_,_,_,htake⟩
 .cases a<;>simp[C8] at hg
 .simp only[C8,if_neg (show¬cap=0 by omega),Bm] at hg;subst hg;have hadd:(⟨g',0,none⟩:Addr).add j=⟨g',j,none⟩:=by unfold Go.Addr.add;split<;>simp_all
  rw[hadd];have:w.cell? ⟨g',j,none⟩=cur[j]? :=by simp[World.cell?,hgg]
  rw[this];rw[<-htake,Ch] at hu;split at hu
  .simpa using hu
  .cases hu
def Has (C:Cx) (s:Nat):Blk->Prop
 | .arr .. =>C8 (C.hv s)=some (C.β s)
 |_=>True
def G7 (C:Cx) (sz n:Nat) (vs:List Value):Option (Nat×Option (Option Nat))->Prop
 |some (off,some t)=>0<n->vs[(n - 1)*sz+off]? =some (match t with|none=> .slice none 0 0|some s=>C.hv s)
 |_=>True
def G7.kill {C C':Cx} {sz n s0:Nat} {vs:List Value} (hs:∀s,s≠s0->C'.hv s=C.hv s):∀{ro:Ro},G7 C sz n vs ro.lk->G7 C' sz n vs (ro.kill s0).lk
 |⟨_,none⟩,_=>trivial
 |⟨_,some (_,none)⟩,_=>trivial
 |⟨_,some (_,some none)⟩,h=>h
 |⟨_,some (off,some (some s'))⟩,h=>by
  simp only[Ro.kill];split
  .trivial
  .rename_i hne;simp only[G7] at h ⊢;rw[hs s' hne];exact h
def G7.le {C C':Cx} {sz n:Nat} {vs:List Value} (hs:∀s,C'.hv s=C.hv s):∀{lk:Option (Nat×Option (Option Nat))},G7 C sz n vs lk->G7 C' sz n vs lk
 |none,_=>trivial
 |some (_,none),_=>trivial
 |some (_,some none),h=>h
 |some (off,some (some s')),h=>by simp only[G7] at h ⊢;rw[hs s'];exact h
def Ro.kill_b (s:Nat):∀ro:Ro,(ro.kill s).b=ro.b
 |⟨_,none⟩|⟨_,some (_,none)⟩|⟨_,some (_,some none)⟩=>rfl
 |⟨_,some (_,some (some _))⟩=>by simp only[Ro.kill];split<;>rfl
def Kj (C:Cx) (w:World) (O:Nat->Option Nat) (B:Nat->Prop) (s:Nat):Blk->Prop
 | .box cs ro=>B (C.β s)∧(ro=false->O (C.β s)=some 0)∧∃vs T,w.heap[C.β s]? =some (.cells vs T (0,0))∧(∀u,u∈vs.toList->One u)∧Cb C cs vs.toList∧∀s' T',cs[0]? =some (.slf s' T')->T=T'
 | .arr e sz x ro=>0<sz∧∃xs vs,x.ev C.J=some (.l sz xs)∧Own w B e sz (C.hv s) xs.length vs∧I7 C.M sz xs vs∧
    (∀g,C8 (C.hv s)=some g->g=C.β s∧∃lim,O g=some lim∧lim<=xs.length*sz∧(ro.b=false->lim=0))∧G7 C sz xs.length vs ro.lk
 | .map x ro=>B (C.β s)∧(ro=false->O (C.β s)=some 0)∧∃es ents clock,x.ev C.J=some (.m es)∧w.heap[C.β s]? =some (.map ents clock)∧MapRep C.M es ents
structure Fr where
 w:World
 v:Option Value
abbrev Fr.heap (F:Fr):Array Obj:=F.w.heap
def Fr.x (F:Fr):Option Nat:=F.v.bind C8
def Fr.ok (F:Fr) (g:Nat):Prop:=F.w.heap.size<=g∨F.x=some g
structure Blw (B:Nat) (w w':World):Prop where
 os:w'.os=w.os
 tape:w'.tape=w.tape
 output:w'.output=w.output
 drawn:w.drawn<=w'.drawn
 size:w.heap.size<=w'.heap.size
 block:∀k,k<B->w'.heap[k]? =w.heap[k]?
def Blw.refl (B:Nat) (w:World):Blw B w w:=⟨rfl,rfl,rfl,B7 _,B7 _,fun _ _=>rfl⟩
def Blw.trans {B:Nat} {a b c:World} (h:Blw B a b) (k:Blw B b c):Blw B a c:=
 ⟨k.os.trans h.os,k.tape.trans h.tape,k.output.trans h.output,En h.drawn k.drawn,En h.size k.size,fun i hi=>(k.block i hi).trans (h.block i hi)⟩
def Blw.mono {B B':Nat} {w w':World} (h:Blw B w w') (hB:B'<=B):Blw B' w w':=⟨h.os,h.tape,h.output,h.drawn,h.size,fun k hk=>h.block k (F5 hk hB)⟩
def Blw.drew {B:Nat} {a w:World} (h:Blw B a w):Blw B a w.drew:=⟨h.os,h.tape,h.output,Nat.le_succ_of_le h.drawn,h.size,h.block⟩
def Blw.alloc {B:Nat} {a w:World} (h:Blw B a w) (hB:B<=w.heap.size) (o:Obj):Blw B a (w.alloc o):=
 h.trans ⟨rfl,rfl,rfl,B7 _,by simp,fun k hk=>Below.heap_alloc _ _ _ (by omega)⟩
def Blw.to {B:Nat} {a w:World} (h:Blw B a w):Below B a w:=⟨h.os,h.tape,h.output,h.size,h.block⟩
structure Bel (F:Fr) (w:World):Prop where
 os:w.os=F.w.os
 tape:w.tape=F.w.tape
 output:w.output=F.w.output
 drawn:F.w.drawn<=w.drawn
 size:F.w.heap.size<=w.heap.size
 block:∀k,k<F.w.heap.size->F.x≠some k->w.heap[k]? =F.w.heap[k]?
def Bel.refl (F:Fr):Bel F F.w:=⟨rfl,rfl,rfl,B7 _,B7 _,fun _ _ _=>rfl⟩
def Bel.then {F:Fr} {w w':World} (h:Bel F w) (k:Blw w.heap.size w w'):Bel F w':=
 ⟨k.os.trans h.os,k.tape.trans h.tape,k.output.trans h.output,En h.drawn k.drawn,En h.size k.size,fun i hi hx=>(k.block i (F5 hi h.size)).trans (h.block i hi hx)⟩
def Bel.turn {F:Fr} {w w':World} {g:Nat} (h:Bel F w) (hg:F.ok g) (h1:w'.os=w.os) (h2:w'.tape=w.tape) (h3:w'.output=w.output) (h0:w.drawn<=w'.drawn) (h4:w.heap.size<=w'.heap.size) (h5:∀c,c<w.heap.size->c≠g->w'.heap[c]? =w.heap[c]?):Bel F w':=
 ⟨h1.trans h.os,h2.trans h.tape,h3.trans h.output,En h.drawn h0,En h.size h4,fun i hi hx=>by
  have hne:i≠g:=fun e=>by
   subst e;rcases hg with hg|hg
   .omega
   .exact hx hg
  rw[h5 i (F5 hi h.size) hne];exact h.block i hi hx⟩
def Bel.below {F:Fr} {w:World} (h:Bel F w) (hx:F.x=none):Blw F.w.heap.size F.w w:=⟨h.os,h.tape,h.output,h.drawn,h.size,fun k hk=>h.block k hk (by rw[hx];simp)⟩
structure Rel (w0:Fr) (Oe:Nat->Option Nat) (J:List PV) (σ:St) (tm:Array Value) (w:World) (β:Nat->Nat) (hv:Nat->Value) (O:Nat->Option Nat):Prop where
 bel:Bel w0 w
 ext:∀c,c<w0.heap.size->w0.x≠some c->O c=Oe c
 out:∀c,w.heap.size<=c->O c=none
 tmps:Cb ⟨J,Cr w O,β,hv,σ.m⟩ σ.t tm.toList
 mem:∀s b,mget σ.m s=some b->Kj ⟨J,Cr w O,β,hv,σ.m⟩ w O w0.ok s b
 inj:∀s s' b b',mget σ.m s=some b->mget σ.m s'=some b'->s≠s'->Has ⟨J,Cr w O,β,hv,σ.m⟩ s b->Has ⟨J,Cr w O,β,hv,σ.m⟩ s' b'->β s≠β s'
 t0:∀v,w0.v=some v->σ.t[0]? =some (.h S0)->tm[0]? =some v
def Yq (w0:Fr) (Oe:Nat->Option Nat) (J:List PV) (σ:St) (tm:Array Value) (w:World):Prop:=∃β hv O,Rel w0 Oe J σ tm w β hv O
def Br9 {s s' T':Nat}:∀{x:SV},x.kill s= .slf s' T'->x= .slf s' T'
 | .e _,h| .nil _,h| .lit _ _,h| .may _ _,h| .und,h| .ip _ _,h| .tup _,h| .ag _,h| .clo _ _,h| .nilq _,h=>by simp[SV.kill] at h
 | .bp _ _,h| .ap _ _ _,h| .suf _ _,h| .h _,h| .mh _,h=>by simp only[SV.kill] at h;split at h<;>cases h
 | .slf _ _,h=>by
   simp only[SV.kill] at h;split at h
   .cases h
   .exact h
def Zc {s s' T':Nat} {cs:List SV} (h:(SV.kills s cs)[0]? =some (.slf s' T')):cs[0]? =some (.slf s' T'):=by
 cases cs with
 |nil=>simp[SV.kills] at h
 |cons x r=>
  simp only[SV.kills,Dm,Bm] at h ⊢;exact Br9 h
def Kj.kill {C C':Cx} {w w':World} {O O':Nat->Option Nat} {B:Nat->Prop} {s0 s:Nat} {b:Blk} (h:Kj C w O B s b) (hl:C.Le C') (hs:∀s,s≠s0->C.At C' s) (hne:s≠s0)
  (hw:Has C s b->w'.heap[C.β s]? =w.heap[C.β s]?) (hO:Has C s b->O' (C.β s)=O (C.β s)):Kj C' w' O' B s (b.kill s0):=by
 have hβ:=(hs s hne).β;have hhv:=(hs s hne).hv;cases b with
 |box cs ro=>
  obtain⟨h1,h2,vs,T,h3,h4,h5,h6⟩:=h;refine⟨by rw[hβ];exact h1,fun hr=>by rw[hβ,hO trivial];exact h2 hr,vs,T,by rw[hβ,hw trivial];exact h3,h4,Cb.kill hl hs _ _ h5,fun s' T' hc=>h6 s' T' (Zc hc)⟩
 |arr e sz x ro=>
  obtain⟨h0,xs,vs,h1,h2,h3,h4,hlk⟩:=h;refine⟨h0,xs,vs,hl.ev _ _ h1,?_,h3.mono hl.M,?_,hlk.kill fun s hs'=>(hs s hs').hv⟩
  .rw[hhv];refine⟨h2.1,?_⟩;rcases h2.2 with h5|⟨g,cap,cur,e1,e2,e2',e3,e4⟩
   .exact .inl h5
   .have hg:C8 (C.hv s)=some g:=by rw[e1];simp only[C8,if_neg (show¬cap=0 by omega)]
    have:=(h4 g hg).1;subst this;exact .inr ⟨_,cap,cur,e1,e2,e2',by rw[hw hg];exact e3,e4⟩
  .intro g hg;rw[hhv] at hg;obtain⟨h5,lim,h6,h7⟩:=h4 g hg;subst h5;exact⟨hβ.symm,lim,by rw[hO hg];exact h6,h7.1,by rw[Ro.kill_b];exact h7.2⟩
 |map x ro=>
  obtain⟨h1,h2,es,ents,ck,h3,h4,h5⟩:=h;exact⟨by rw[hβ];exact h1,fun hr=>by rw[hβ,hO trivial];exact h2 hr,es,ents,ck,hl.ev _ _ h3,by rw[hβ,hw trivial];exact h4,h5.mono hl.M⟩
def Kj.le {C C':Cx} {w w':World} {O O':Nat->Option Nat} {B:Nat->Prop} {s:Nat} {b:Blk} (h:Kj C w O B s b) (hl:C.Le C') (hs:∀s,C.At C' s)
  (hw:Has C s b->w'.heap[C.β s]? =w.heap[C.β s]?) (hO:Has C s b->O' (C.β s)=O (C.β s)):Kj C' w' O' B s b:=by
 have hβ:=(hs s).β;have hhv:=(hs s).hv;cases b with
 |box cs ro=>
  obtain⟨h1,h2,vs,T,h3,h4,h5,h6⟩:=h;refine⟨by rw[hβ];exact h1,fun hr=>by rw[hβ,hO trivial];exact h2 hr,vs,T,by rw[hβ,hw trivial];exact h3,h4,Cb.le hl hs _ _ h5,h6⟩
 |arr e sz x ro=>
  obtain⟨h0,xs,vs,h1,h2,h3,h4,hlk⟩:=h;refine⟨h0,xs,vs,hl.ev _ _ h1,?_,h3.mono hl.M,?_,hlk.le fun s=>(hs s).hv⟩
  .rw[hhv];refine⟨h2.1,?_⟩;rcases h2.2 with h5|⟨g,cap,cur,e1,e2,e2',e3,e4⟩
   .exact .inl h5
   .have hg:C8 (C.hv s)=some g:=by rw[e1];simp only[C8,if_neg (show¬cap=0 by omega)]
    have:=(h4 g hg).1;subst this;exact .inr ⟨_,cap,cur,e1,e2,e2',by rw[hw hg];exact e3,e4⟩
  .intro g hg;rw[hhv] at hg;obtain⟨h5,lim,h6,h7⟩:=h4 g hg;subst h5;exact⟨hβ.symm,lim,by rw[hO hg];exact h6,h7⟩
 |map x ro=>
  obtain⟨h1,h2,es,ents,ck,h3,h4,h5⟩:=h;exact⟨by rw[hβ];exact h1,fun hr=>by rw[hβ,hO trivial];exact h2 hr,es,ents,ck,hl.ev _ _ h3,by rw[hβ,hw trivial];exact h4,h5.mono hl.M⟩
def Kj.lt {C:Cx} {w:World} {O:Nat->Option Nat} {B:Nat->Prop} {s:Nat} {b:Blk} (h:Kj C w O B s b) (hh:Has C s b):B (C.β s)∧C.β s<w.heap.size:=by
 cases b with
 |box cs ro=>obtain⟨h1,_,vs,T,h3,_⟩:=h;exact⟨h1,(Dd.1 h3).1⟩
 |arr e sz x ro=>obtain⟨_,xs,vs,_,h2,_,_⟩:=h;exact h2.lt _ hh
 |map x ro=>obtain⟨h1,_,es,ents,ck,_,h4,_⟩:=h;exact⟨h1,(Dd.1 h4).1⟩
def Gy {s s':Nat} (h:s≠s'):∀m:List (Nat×Blk),mget (Ms m s') s=mget m s
 |[]=>rfl
 |(k,b)::r=>by
  simp only[Ms];by_cases hk:k=s'
  .rw[if_pos hk,Gy h r];simp only[mget];rw[if_neg (by omega)]
  .rw[if_neg hk];simp only[mget];by_cases hks:k=s
   .rw[if_pos hks,if_pos hks]
   .rw[if_neg hks,if_neg hks,Gy h r]
def Hw (s:Nat):∀m:List (Nat×Blk),mget (Ms m s) s=none
 |[]=>rfl
 |(k,b)::r=>by
  simp only[Ms];by_cases hk:k=s
  .rw[if_pos hk,Hw s r]
  .rw[if_neg hk];simp only[mget];rw[if_neg hk,Hw s r]
def Mw (s0 s:Nat):∀m:List (Nat×Blk),mget (Ld s0 m) s=(mget m s).map (Blk.kill s0)
 |[]=>rfl
 |(k,b)::r=>by
  simp only[Ld,Gs,mget];by_cases hk:k=s
  .rw[if_pos hk,if_pos hk];rfl
  .rw[if_neg hk,if_neg hk];exact Mw s0 s r
def Cw4 {m:List (Nat×Blk)} {s:Nat} {b:Blk} (h:mget m s=some b):(s,b)∈m:=by
 induction m with
 |nil=>simp[mget] at h
 |cons p m ih=>
  obtain⟨k,b'⟩:=p;simp only[mget] at h;split at h
  .rename_i hk;subst hk;injection h with h;subst h;exact .head _
  .exact .tail _ (ih h)
def Lc (σ:St) (s:Nat) (b:Blk):mget (σ.fresh s b).m s=some b:=by simp[St.fresh,mget]
def Kz (σ:St) {s s':Nat} (h:s'≠s) (b:Blk):mget (σ.fresh s b).m s'=(mget σ.m s').map (Blk.kill s):=by simp only[St.fresh,mget];rw[if_neg (fun e=>h e.symm),Mw,Gy h]
def Ky (σ:St) (s:Nat) (b:Blk):mget (σ.put s b).m s=some b:=by simp[St.put,mget]
def Iv (σ:St) {s s':Nat} (h:s'≠s) (b:Blk):mget (σ.put s b).m s'=mget σ.m s':=by simp only[St.put,mget];rw[if_neg (fun e=>h e.symm),Gy h]
section
variable {w0:Fr} {Oe:Nat->Option Nat} {J:List PV} {σ:St} {tm:Array Value} {w:World} {β:Nat->Nat} {hv:Nat->Value} {O:Nat->Option Nat}
def At.refl (C:Cx) (s:Nat):C.At C s:=⟨rfl,rfl,fun e sz x ro xs h h'=>⟨e,x,ro,xs,h,h',B7 _⟩⟩
def At.of {J η':List PV} {M M':Vw} {β:Nat->Nat} {hv:Nat->Value} {m:List (Nat×Blk)} (he:∀(x:E) p,x.ev J=some p->x.ev η'=some p) (s:Nat):
  (Cx.mk J M β hv m).At ⟨η',M',β,hv,m⟩ s:=⟨rfl,rfl,fun e sz x ro xs h h'=>⟨e,x,ro,xs,h,he _ _ h',B7 _⟩⟩
def Has.congr {C C':Cx} {s:Nat} {b:Blk} (hh:C'.hv s=C.hv s) (hβ:C'.β s=C.β s):Has C' s b↔Has C s b:=by cases b<;>simp[Has,hh,hβ]
def Rel.env (h:Rel w0 Oe J σ tm w β hv O) (ζ:List PV):Rel w0 Oe (J++ζ) σ tm w β hv O:=by
 have he:∀(x:E) p,x.ev J=some p->x.ev (J++ζ)=some p:=fun x p=>E.ev_mono J ζ x p;have hl:(Cx.mk J (Cr w O) β hv σ.m).Le ⟨J++ζ,Cr w O,β,hv,σ.m⟩:=⟨he,Vw.Le.refl _⟩;exact⟨h.bel,h.ext,h.out,Cb.le hl (fun s=>At.of he s) _ _ h.tmps,
  fun s b hb=>(h.mem s b hb).le hl (fun s=>At.of he s) (fun _=>rfl) (fun _=>rfl),h.inj,h.t0⟩
def Rel.setT (h:Rel w0 Oe J σ tm w β hv O) (d:Option Tmp) {sv:SV} {v:Value} (hr:Cj ⟨J,Cr w O,β,hv,σ.m⟩ sv v) (hd:(d==some 0 && Ew1 sv)=false) {ds:List Deferred}:
  Rel w0 Oe J (σ.set d sv) ((Act.mk tm ds).put d v).tmps w β hv O:=by
 cases d with
 |none=>exact h
 |some d=>
  refine⟨h.bel,h.ext,h.out,?_,h.mem,h.inj,fun vx hvx ht=> ?_⟩
  .show Cb _ (σ.t.set d sv) (tm.setIfInBounds d v).toList;rw[Array.toList_setIfInBounds];exact h.tmps.set d hr
  .have ht':(σ.t.set d sv)[0]? =some (.h S0):=ht;show (tm.setIfInBounds d v)[0]? =some vx;by_cases hd0:d=0
   .subst hd0;exfalso;rw[Ev] at ht';simp only[if_true] at ht';split at ht'
    .injection ht' with ht';subst ht';simp[Ew1] at hd
    .cases ht'
   .rw[Ev,if_neg hd0] at ht';rw[Array.getElem?_setIfInBounds_ne hd0];exact h.t0 vx hvx ht'
def Rel.below {w':World} (h:Rel w0 Oe J σ tm w β hv O) (hb:Blw w.heap.size w w'):Rel w0 Oe J σ tm w' β hv O:=by have hM:(Cr w O).Le (Cr w' O):=Hc (fun c hc _=>hb.block c hc) (fun c _ lim hl=>⟨lim,hl,B7 _⟩) (fun c _ hc=>hc);have hl:(Cx.mk J (Cr w O) β hv σ.m).Le ⟨J,Cr w' O,β,hv,σ.m⟩:=⟨fun _ _ h=>h,hM⟩;refine⟨h.bel.then hb,h.ext,fun c hc=>h.out c (En hb.size hc),Cb.le hl (fun s=>At.of (fun _ _ h=>h) s) _ _ h.tmps,fun s b hs=> ?_,h.inj,h.t0⟩;have hbl:=h.mem s b hs;exact hbl.le hl (fun s=>At.of (fun _ _ h=>h) s) (fun hh=>hb.block _ (hbl.lt hh).2) (fun _=>rfl)
def By3 {s k:Nat} {j:Nat}:∀{l:List SV},(SV.kills s l)[j]? =some (.h k)->l[j]? =some (.h k):=by
 intro l
 induction l generalizing j with
 |nil=>intro h;simp[SV.kills] at h
 |cons x l ih=>
  intro h;cases j with
  |zero=>
   simp only[SV.kills,Dm,Bm] at h ⊢;cases x<;>simp only[SV.kill] at h<;>first|exact h|(split at h<;>first|exact h|cases h)|cases h
  |succ j=>
   simp only[SV.kills,Ec] at h ⊢;exact ih h
def Rel.fresh {w':World} {β':Nat->Nat} {hv':Nat->Value} {O':Nat->Option Nat} {s:Nat} {b:Blk} {n:Nat} (h:Rel w0 Oe J σ tm w β hv O)
  (hb:Bel w0 w') (hM:(Cr w O).Le (Cr w' O'))
  (hβ:∀s',s'≠s->β' s'=β s') (hhv:∀s',s'≠s->hv' s'=hv s')
  (hblk:∀s' b',s'≠s->mget σ.m s'=some b'->Has ⟨J,Cr w O,β,hv,σ.m⟩ s' b'->w'.heap[β s']? =w.heap[β s']? ∧O' (β s')=O (β s'))
  (hext:∀c,c<w0.heap.size->w0.x≠some c->O' c=Oe c) (hout:∀c,w'.heap.size<=c->O' c=none)
  (hnew:Kj ⟨J,Cr w' O',β',hv',(G6 σ.m n s b).m⟩ w' O' w0.ok s b)
  (hinj:∀s' b',s'≠s->mget σ.m s'=some b'->Has ⟨J,Cr w O,β,hv,σ.m⟩ s' b'->Has ⟨J,Cr w' O',β',hv',(G6 σ.m n s b).m⟩ s b->β s'≠β' s):
  Rel w0 Oe J (σ.eff (G6 σ.m n s b)) tm w' β' hv' O':=by
 have hne:∀s',s'≠s->mget (G6 σ.m n s b).m s'=(mget σ.m s').map (Blk.kill s):=fun s' hs=>Kz σ hs b;have hsame:mget (G6 σ.m n s b).m s=some b:=Lc σ s b;have hl:(Cx.mk J (Cr w O) β hv σ.m).Le ⟨J,Cr w' O',β',hv',(G6 σ.m n s b).m⟩:=⟨fun _ _ h=>h,hM⟩;have hat:∀s',s'≠s->(Cx.mk J (Cr w O) β hv σ.m).At ⟨J,Cr w' O',β',hv',(G6 σ.m n s b).m⟩ s':=fun s' hs=>
  ⟨hβ s' hs,hhv s' hs,fun e sz x ro xs h1 h2=>⟨e,x,ro.kill s,xs,by show mget (G6 σ.m n s b).m s'=_;rw[hne s' hs,h1];rfl,h2,B7 _⟩⟩
 have hkhas:∀s' b',s'≠s->(Has ⟨J,Cr w' O',β',hv',(G6 σ.m n s b).m⟩ s' (b'.kill s)↔Has ⟨J,Cr w O,β,hv,σ.m⟩ s' b'):=by
  intro s' b' hs;cases b' with
  |box _ _=>exact Iff.rfl
  |map _ _=>exact Iff.rfl
  |arr _ _ _ _=>show C8 (hv' s')=some (β' s')↔C8 (hv s')=some (β s');rw[hβ s' hs,hhv s' hs]
 have ht0:∀v,w0.v=some v->(σ.eff (G6 σ.m n s b)).t[0]? =some (.h S0)->tm[0]? =some v:=by intro v hv0 ht;exact h.t0 v hv0 (By3 ht)
 refine⟨hb,hext,hout,Cb.kill hl hat _ _ h.tmps,fun s' b' hs'=> ?_,fun s1 s2 b1 b2 h1 h2 h12 hh1 hh2=> ?_,ht0⟩
 .by_cases hs:s'=s
  .subst hs;have:mget (G6 σ.m n s' b).m s'=some b':=hs';rw[hsame] at this;injection this with this;subst this;exact hnew
  .have hg:mget (G6 σ.m n s b).m s'=some b':=hs';rw[hne s' hs] at hg;obtain⟨b'',hb'',rfl⟩:=Bp.1 hg;exact(h.mem s' b'' hb'').kill hl hat hs (fun hh=>(hblk s' b'' hs hb'' hh).1) (fun hh=>(hblk s' b'' hs hb'' hh).2)
 .have g1:mget (G6 σ.m n s b).m s1=some b1:=h1;have g2:mget (G6 σ.m n s b).m s2=some b2:=h2;by_cases hs1:s1=s
  .have hs2:s2≠s:=fun e=>h12 (hs1.trans e.symm);rw[hne s2 hs2] at g2;obtain⟨b'',hb'',rfl⟩:=Bp.1 g2;subst hs1;rw[hsame] at g1;injection g1 with g1;subst g1;rw[hβ s2 hs2];exact fun e=>hinj s2 b'' hs2 hb'' ((hkhas s2 b'' hs2).1 hh2) hh1 e.symm
  .rw[hne s1 hs1] at g1;obtain⟨b1',hb1',rfl⟩:=Bp.1 g1;by_cases hs2:s2=s
   .subst hs2;rw[hsame] at g2;injection g2 with g2;subst g2;rw[hβ s1 hs1];exact hinj s1 b1' hs1 hb1' ((hkhas s1 b1' hs1).1 hh1) hh2
   .rw[hne s2 hs2] at g2;obtain⟨b2',hb2',rfl⟩:=Bp.1 g2;rw[hβ s1 hs1,hβ s2 hs2];exact h.inj s1 s2 b1' b2' hb1' hb2' h12 ((hkhas s1 b1' hs1).1 hh1) ((hkhas s2 b2' hs2).1 hh2)
def Rel.alloc {s:Nat} {b:Blk} {n:Nat} (h:Rel w0 Oe J σ tm w β hv O) (o:Obj)
  (hnew:∀β' O',β' s=w.heap.size->(∀s',s'≠s->β' s'=β s')->O' w.heap.size=some 0->(Cr w O).Le (Cr (w.alloc o) O')->
   Kj ⟨J,Cr (w.alloc o) O',β',hv,(G6 σ.m n s b).m⟩ (w.alloc o) O' w0.ok s b):
  ∃β' O',β' s=w.heap.size∧Rel w0 Oe J (σ.eff (G6 σ.m n s b)) tm (w.alloc o) β' hv O':=by
 let β':=fun s'=>if s'=s then w.heap.size else β s'
 let O':=fun c=>if c=w.heap.size then some 0 else O c
 have hβ:∀s',s'≠s->β' s'=β s':=fun s' hs=>if_neg hs;have hβs:β' s=w.heap.size:=if_pos rfl;have hsz:w0.heap.size<=w.heap.size:=h.bel.size;have hO:∀c,c<w.heap.size->O' c=O c:=fun c hc=>if_neg (by omega);have hM:(Cr w O).Le (Cr (w.alloc o) O'):=Hc (fun c hc _=>Below.heap_alloc w o c hc) (fun c hc lim hl=>⟨lim,by rw[<-hO c hc];exact hl,B7 _⟩) (fun c hc hn=>by rw[hO c hc];exact hn);refine⟨β',O',hβs,h.fresh (h.bel.then ((Blw.refl _ _).alloc (B7 _) o)) hM hβ (fun _ _=>rfl) (fun s' b' hs hb' hh=> ?_) (fun c hc hx=>by rw[hO c (F5 hc hsz)];exact h.ext c hc hx) (fun c hc=> ?_)
  (hnew β' O' hβs hβ (if_pos rfl) hM) (fun s' b' hs hb' hh _=> ?_)⟩
 .have hlt:=((h.mem s' b' hb').lt hh).2;exact⟨Below.heap_alloc w o _ hlt,hO _ hlt⟩
 .have hc':w.heap.size+1<=c:=by simpa using hc
  show (if c=w.heap.size then some 0 else O c)=none;rw[if_neg (by omega)];exact h.out c (by omega)
 .have hlt:=((h.mem s' b' hb').lt hh).2;rw[hβs];have:β s'<w.heap.size:=hlt;omega
def Rel.put {w':World} {s:Nat} {b0 b:Blk} {n:Nat} (h:Rel w0 Oe J σ tm w β hv O) (h0:mget σ.m s=some b0) (hh0:Has ⟨J,Cr w O,β,hv,σ.m⟩ s b0)
  (hO:O (β s)=some 0)
  (hb:Bel w0 w') (hsz:w'.heap.size=w.heap.size) (hblk:∀c,c≠β s->w'.heap[c]? =w.heap[c]?)
  (harr:∀e sz x ro xs,b0= .arr e sz x ro->x.ev J=some (.l sz xs)->∃e' x' ro' xs',b= .arr e' sz x' ro'∧x'.ev J=some (.l sz xs')∧xs.length<=xs'.length)
  (hnew:Kj ⟨J,Cr w' O,β,hv,It σ.m s b⟩ w' O w0.ok s b):
  Rel w0 Oe J (σ.eff ⟨It σ.m s b,n,none⟩) tm w' β hv O:=by
 have hne:∀s',s'≠s->mget (It σ.m s b) s'=mget σ.m s':=fun s' hs=>Iv σ hs b;have hsame:mget (It σ.m s b) s=some b:=Ky σ s b;have hM:(Cr w O).Le (Cr w' O):=Hc (fun c _ hc=>hblk c (fun e=>by subst e;exact absurd (hc 0 hO) (by omega))) (fun c _ lim hl=>⟨lim,hl,B7 _⟩) (fun c _ hn=>hn);have hl:(Cx.mk J (Cr w O) β hv σ.m).Le ⟨J,Cr w' O,β,hv,It σ.m s b⟩:=⟨fun _ _ h=>h,hM⟩;have hat:∀s',(Cx.mk J (Cr w O) β hv σ.m).At ⟨J,Cr w' O,β,hv,It σ.m s b⟩ s':=fun s'=>
  ⟨rfl,rfl,fun e sz x ro xs h1 h2=>by
   by_cases hs:s'=s
   .subst hs;have h1':mget σ.m s'=some (.arr e sz x ro):=h1;rw[h0] at h1';injection h1' with h1';obtain⟨e',x',ro',xs',rfl,g2,g3⟩:=harr e sz x ro xs h1' h2;exact⟨e',x',ro',xs',hsame,g2,g3⟩
   .exact⟨e,x,ro,xs,by show mget (It σ.m s b) s'=_;rw[hne s' hs];exact h1,h2,B7 _⟩⟩
 have hlive:∀s' b',s'≠s->mget σ.m s'=some b'->Has ⟨J,Cr w O,β,hv,σ.m⟩ s' b'->β s'≠β s:=fun s' b' hs hb' hh=>h.inj s' s b' b0 hb' h0 hs hh hh0;refine⟨hb,h.ext,fun c hc=>h.out c (by omega),Cb.le hl hat _ _ h.tmps,fun s' b' hs'=> ?_,fun s1 s2 b1 b2 h1 h2 h12 hh1 hh2=> ?_,h.t0⟩
 .by_cases hs:s'=s
  .subst hs;have:mget (It σ.m s' b) s'=some b':=hs';rw[hsame] at this;injection this with this;subst this;exact hnew
  .have hg:mget (It σ.m s b) s'=some b':=hs';rw[hne s' hs] at hg;exact(h.mem s' b' hg).le hl hat (fun hh=>hblk _ (hlive s' b' hs hg hh)) (fun _=>rfl)
 .have g1:mget (It σ.m s b) s1=some b1:=h1;have g2:mget (It σ.m s b) s2=some b2:=h2;have other:∀s' b',s'≠s->mget (It σ.m s b) s'=some b'->mget σ.m s'=some b':=fun s' b' hs hg=>by rw[hne s' hs] at hg;exact hg
  by_cases hs1:s1=s
  .have hs2:s2≠s:=fun e=>h12 (hs1.trans e.symm);subst hs1;exact fun e=>hlive s2 b2 hs2 (other s2 b2 hs2 g2) hh2 e.symm
  .by_cases hs2:s2=s
   .subst hs2;exact hlive s1 b1 hs1 (other s1 b1 hs1 g1) hh1
   .exact h.inj s1 s2 b1 b2 (other s1 b1 hs1 g1) (other s2 b2 hs2 g2) h12 hh1 hh2
mutual
def Cj.forget {C C':Cx} {s0:Nat} (h0:NAP<=s0) (hl:C.Le C') (hs:∀s,C'.β s=C.β s∧C'.hv s=C.hv s∧(s≠s0->C.At C' s)):∀(x:SV) (v:Value),Cj C x v->Cj C' x v
 | .e x,v,h=>by simp only[Cj] at h ⊢;obtain⟨p,h1,h2⟩:=h;exact⟨p,hl.ev _ _ h1,h2.mono hl.M⟩
 | .nil _,v,h=>by simpa only[Cj] using h
 | .lit sz x,v,h=>by simp only[Cj] at h ⊢;obtain⟨xs,a,h1,h2,h3⟩:=h;exact⟨xs,a,hl.ev _ _ h1,h2,h3.mono hl.M⟩
 | .may g x,v,h=>by simp only[Cj] at h ⊢;obtain⟨b,h1,h2,h3⟩:=h;exact⟨b,hl.ev _ _ h1,fun hb=>Cj.forget h0 hl hs x v (h2 hb),h3⟩
 | .und,v,h=>by simp only[Cj]
 | .bp s off,v,h=>by simp only[Cj] at h ⊢;rw[(hs s).1];exact h
 | .ip x off,v,h=>by simp only[Cj] at h ⊢;obtain⟨p,h1,h2⟩:=h;exact⟨p,hl.ev _ _ h1,h2.mono hl.M⟩
 | .ap s i off,v,h=>by
   have hn:s≠s0:=fun e=>by simp only[Cj] at h;have:=h.1;omega
   exact Cj.kill (s0:=s0) hl (fun s hs'=>(hs s).2.2 hs') (.ap s i off) v h|>fun h=>by simpa only[SV.kill,if_neg hn] using h
 | .suf s i,v,h=>by
   have hn:s≠s0:=fun e=>by simp only[Cj] at h;have:=h.1;omega
   exact Cj.kill (s0:=s0) hl (fun s hs'=>(hs s).2.2 hs') (.suf s i) v h|>fun h=>by simpa only[SV.kill,if_neg hn] using h
 | .h s,v,hh=>by simp only[Cj] at hh ⊢;rw[(hs s).2.1];exact hh
 | .mh s,v,hh=>by simp only[Cj] at hh ⊢;rw[(hs s).1];exact hh
 | .tup xs,v,h=>by simp only[Cj] at h ⊢;obtain⟨vs,h1,h2⟩:=h;exact⟨vs,h1,Cb.forget h0 hl hs xs _ h2⟩
 | .ag xs,v,h=>by simp only[Cj] at h ⊢;obtain⟨vs,h1,h2,h3⟩:=h;exact⟨vs,h1,h2,Cb.forget h0 hl hs xs _ h3⟩
 | .clo g xs,v,h=>by simp only[Cj] at h ⊢;obtain⟨vs,h1,h2⟩:=h;exact⟨vs,h1,Cb.forget h0 hl hs xs _ h2⟩
 | .nilq x,v,h=>by simp only[Cj] at h ⊢;obtain⟨sz,xs,b,h1,h2,h3⟩:=h;exact⟨sz,xs,b,hl.ev _ _ h1,h2,h3⟩
 | .slf s T,v,h=>by simp only[Cj] at h ⊢;rw[(hs s).1];exact h
def Cb.forget {C C':Cx} {s0:Nat} (h0:NAP<=s0) (hl:C.Le C') (hs:∀s,C'.β s=C.β s∧C'.hv s=C.hv s∧(s≠s0->C.At C' s)):∀(xs:List SV) (vs:List Value),Cb C xs vs->Cb C' xs vs
 |[],vs,h=>by simpa only[Cb] using h
 |x::xs,vs,h=>by simp only[Cb] at h ⊢;obtain⟨v,r,rfl,h1,h2⟩:=h;exact⟨v,r,rfl,Cj.forget h0 hl hs x v h1,Cb.forget h0 hl hs xs r h2⟩
end
def Rel.forget {s0:Nat} (h:Rel w0 Oe J σ tm w β hv O) (h0:NAP<=s0):Rel w0 Oe J {σ with m:=Ms σ.m s0} tm w β hv O:=by
 have hg:∀s b,mget (Ms σ.m s0) s=some b->s≠s0∧mget σ.m s=some b:=fun s b hb=>by
  by_cases hs:s=s0
  .subst hs;rw[Hw] at hb;cases hb
  .exact⟨hs,by rwa[Gy hs] at hb⟩
 have hl:(Cx.mk J (Cr w O) β hv σ.m).Le ⟨J,Cr w O,β,hv,Ms σ.m s0⟩:=⟨fun _ _ h=>h,Vw.Le.refl _⟩;have hat:∀s,β s=β s∧hv s=hv s∧(s≠s0->(Cx.mk J (Cr w O) β hv σ.m).At ⟨J,Cr w O,β,hv,Ms σ.m s0⟩ s):=fun s=>
  ⟨rfl,rfl,fun hs=>⟨rfl,rfl,fun e sz x ro xs h1 h2=>⟨e,x,ro,xs,by show mget (Ms σ.m s0) s=_;rw[Gy hs];exact h1,h2,B7 _⟩⟩⟩
 refine⟨h.bel,h.ext,h.out,Cb.forget h0 hl hat _ _ h.tmps,fun s b hb=> ?_,fun s1 s2 b1 b2 h1 h2 h12 k1 k2=> ?_,h.t0⟩
 .obtain⟨hs,hb⟩:=hg s b hb;have hbl:=h.mem s b hb;cases b with
  |box cs ro=>
   obtain⟨g1,g2,vs,T,g3,g4,g5,g6⟩:=hbl;exact⟨g1,g2,vs,T,g3,g4,Cb.forget h0 hl hat _ _ g5,g6⟩
  |map x ro=>exact hbl
  |arr e sz x ro=>
   obtain⟨g0,xs,vs,g1,g2,g3,g4,g5⟩:=hbl;exact⟨g0,xs,vs,g1,g2,g3,g4,g5.le fun _=>rfl⟩
 .exact h.inj s1 s2 b1 b2 (hg s1 b1 h1).2 (hg s2 b2 h2).2 h12 (by cases b1<;>exact k1) (by cases b2<;>exact k2)
def K0 (C:Cx) (O':Nat->Option Nat) (s:Nat):Prop:=
 ∀b,mget C.m s=some b->match b with
  | .box .. | .map .. =>O' (C.β s)=none
  | .arr _ sz x _=>∀xs,x.ev C.J=some (.l sz xs)->∀g,C8 (C.hv s)=some g->∀lim,O' g=some lim->xs.length*sz<=lim
def Sn (ss:List Nat) (s:Nat):∀m:List (Nat×Blk),mget (Ks ss m) s=(mget m s).map fun b=>if ss.contains s then b.frz else b
 |[]=>rfl
 |(k,b)::r=>by
  simp only[Ks,Gs];by_cases hk:k=s
  .subst hk;by_cases hc:ss.contains k=true
   .simp only[hc,if_true,mget,Cc]
   .simp only[hc,if_false,mget,if_true,Cc,B5]
  .have:mget ((if ss.contains k=true then(k,b.frz) else(k,b))::Ks ss r) s=mget (Ks ss r) s:=by by_cases hc:ss.contains k=true<;>simp only[hc,if_true,if_false,B5,mget,hk]
   have h2:=Sn ss s r;simp only[Ks] at this h2;rw[this,h2];simp only[mget,if_neg hk]
open Classical in
noncomputable def w7 (C:Cx) (O:Nat->Option Nat) (ss:List Nat):Nat->Option Nat:=fun c=>
 if h:∃s b,ss.contains s=true∧mget C.m s=some b∧Has C s b∧C.β s=c then
  match h.choose_spec.choose with
  | .box .. | .map .. =>none
  | .arr _ sz x _=>match x.ev C.J with|some (.l _ xs)=>some (xs.length*sz)|_=>O c
 else O c
def Rel.frz (h:Rel w0 Oe J σ tm w β hv O) (ss:List Nat) {n:Nat}:∃O',Rel w0 Oe J (σ.eff ⟨Ks ss σ.m,n,none⟩) tm w β hv O'∧(Cr w O).Le (Cr w O')∧
  (∀s,ss.contains s=true->K0 ⟨J,Cr w O,β,hv,σ.m⟩ O' s)∧(∀c,O c=none->O' c=none):=by
 let C:Cx:=⟨J,Cr w O,β,hv,σ.m⟩;have hat:∀s b,ss.contains s=true->mget σ.m s=some b->Has C s b->w7 C O ss (β s)=match b with
   | .box .. | .map .. =>none
   | .arr _ sz x _=>match x.ev J with|some (.l _ xs)=>some (xs.length*sz)|_=>O (β s):=by
  intro s b hs hb hh;have hex:∃s' b',ss.contains s'=true∧mget C.m s'=some b'∧Has C s' b'∧C.β s'=β s:=⟨s,b,hs,hb,hh,rfl⟩;unfold w7;rw[dif_pos hex];obtain⟨h1,h2,h3,h4⟩:=hex.choose_spec.choose_spec;have hss:hex.choose=s:=by refine Classical.byContradiction fun hne=> ?_;exact h.inj _ _ _ _ h2 hb hne h3 hh h4
  have hbb:hex.choose_spec.choose=b:=by have h2':mget σ.m hex.choose=some hex.choose_spec.choose:=h2;have h5:=h2'.symm.trans ((congrArg (mget σ.m) hss).trans hb);injection h5
  rw[hbb]
 have hoff:∀c,(∀s b,ss.contains s=true->mget σ.m s=some b->Has C s b->β s≠c)->w7 C O ss c=O c:=by intro c hc;unfold w7;rw[dif_neg];rintro⟨s,b,h1,h2,h3,h4⟩;exact hc s b h1 h2 h3 h4
 have hup:∀c lim,w7 C O ss c=some lim->∃l,O c=some l∧l<=lim:=by
  intro c lim hl;by_cases hex:∃s b,ss.contains s=true∧mget σ.m s=some b∧Has C s b∧β s=c
  .obtain⟨s,b,h1,h2,h3,rfl⟩:=hex;rw[hat s b h1 h2 h3] at hl;cases b with
   |box _ _=>cases hl
   |map _ _=>cases hl
   |arr e sz x ro=>
    obtain⟨_,xs,vs,g1,g2,g3,g4,_⟩:=h.mem s _ h2;have g1':x.ev J=some (.l sz xs):=g1;simp only[g1'] at hl;injection hl with hl;obtain⟨_,l,g5,g6,_⟩:=g4 (β s) h3;exact⟨l,g5,by omega⟩
  .rw[hoff c (fun s b h1 h2 h3 h4=>hex ⟨s,b,h1,h2,h3,h4⟩)] at hl;exact⟨lim,hl,B7 _⟩
 have hnone:∀c,O c=none->w7 C O ss c=none:=by
  intro c hc;cases hf:w7 C O ss c with
  |none=>rfl
  |some lim=>
   obtain⟨l,h1,_⟩:=hup c lim hf;rw[hc] at h1;cases h1
 have hM:(Cr w O).Le (Cr w (w7 C O ss)):=Hc (fun _ _ _=>rfl) (fun c _ lim hl=>hup c lim hl) (fun c _ hc=>hnone c hc);have hmg:∀s,mget (Ks ss σ.m) s=(mget σ.m s).map fun b=>if ss.contains s then b.frz else b:=fun s=>Sn ss s σ.m
 have hl:C.Le ⟨J,Cr w (w7 C O ss),β,hv,Ks ss σ.m⟩:=⟨fun _ _ h=>h,hM⟩;have hats:∀s,C.At ⟨J,Cr w (w7 C O ss),β,hv,Ks ss σ.m⟩ s:=fun s=>⟨rfl,rfl,fun e sz x ro xs h1 h2=>by
  have h1':mget σ.m s=some (.arr e sz x ro):=h1;by_cases hc:ss.contains s=true
  .exact⟨e,x,⟨true,none⟩,xs,by show mget (Ks ss σ.m) s=_;rw[hmg,h1'];simp only[Cc,hc,if_true,Blk.frz],h2,B7 _⟩
  .exact⟨e,x,ro,xs,by show mget (Ks ss σ.m) s=_;rw[hmg,h1'];simp only[Cc,if_neg hc],h2,B7 _⟩⟩
 have hhas:∀s b,Has ⟨J,Cr w (w7 C O ss),β,hv,Ks ss σ.m⟩ s b.frz↔Has C s b:=fun s b=>by cases b<;>exact Iff.rfl
 refine⟨w7 C O ss,⟨h.bel,fun c hc hx=> ?_,fun c hc=>hnone c (h.out c hc),Cb.le hl hats _ _ h.tmps,fun s b hb=> ?_,fun s1 s2 b1 b2 h1 h2 h12 hh1 hh2=> ?_,h.t0⟩,hM,fun s hs b hb=> ?_,hnone⟩
 .rw[hoff c (fun s b _ h2 h3 h4=>by
   have:=((h.mem s b h2).lt h3).1;subst h4;rcases this with h5|h5
   .have h6:w0.heap.size<=β s:=h5;omega
   .exact hx h5)]
  exact h.ext c hc hx
 .have hb':mget (Ks ss σ.m) s=some b:=hb;rw[hmg] at hb';obtain⟨b0,hb0,rfl⟩:=Bp.1 hb';have hbl:=h.mem s b0 hb0;by_cases hc:ss.contains s=true
  .rw[if_pos hc];cases b0 with
   |box cs ro=>
    obtain⟨g1,g2,vs,T,g3,g4,g5,g6⟩:=hbl;exact⟨g1,fun hr=>by simp at hr,vs,T,g3,g4,Cb.le hl hats _ _ g5,g6⟩
   |map x ro=>
    obtain⟨g1,g2,es,ents,ck,g3,g4,g5⟩:=hbl;exact⟨g1,fun hr=>by simp at hr,es,ents,ck,g3,g4,g5.mono hM⟩
   |arr e sz x ro=>
    obtain⟨g0,xs,vs,g1,g2,g3,g4,_⟩:=hbl;refine⟨g0,xs,vs,g1,g2,g3.mono hM,fun g hg=> ?_,trivial⟩;obtain⟨g5,_⟩:=g4 g hg;subst g5;refine⟨rfl,xs.length*sz,?_,B7 _,fun hr=>by simp at hr⟩;have g1':x.ev J=some (.l sz xs):=g1;have:=hat s _ hc hb0 hg;simp only[g1'] at this;exact this
  .have hc':ss.contains s=false:=by cases hh:ss.contains s<;>simp_all
   rw[if_neg hc];refine hbl.le hl hats (fun _=>rfl) fun hh=> ?_;refine hoff _ fun s' b' hs' hb'' hh' he=> ?_;by_cases hss:s'=s
   .subst hss;exact hc hs'
   .exact h.inj s' s b' b0 hb'' hb0 hss hh' hh he
 .have g1:mget (Ks ss σ.m) s1=some b1:=h1;have g2:mget (Ks ss σ.m) s2=some b2:=h2;rw[hmg] at g1 g2;obtain⟨c1,k1,rfl⟩:=Bp.1 g1;obtain⟨c2,k2,rfl⟩:=Bp.1 g2;have z:∀s (c:Blk),Has ⟨J,Cr w (w7 C O ss),β,hv,Ks ss σ.m⟩ s (if ss.contains s then c.frz else c)->Has C s c:=fun s c hh=>by
   by_cases hc:ss.contains s=true
   .rw[if_pos hc] at hh;exact(hhas s c).1 hh
   .rw[if_neg hc] at hh;cases c<;>exact hh
  exact h.inj s1 s2 c1 c2 k1 k2 h12 (z s1 c1 hh1) (z s2 c2 hh2)
 .have hb':mget σ.m s=some b:=hb;cases b with
  |box cs ro=>exact hat s _ hs hb' trivial
  |map x ro=>exact hat s _ hs hb' trivial
  |arr e sz x ro=>
   intro xs hx g hg lim hl;obtain⟨_,xs',vs,g1,_,_,g4,_⟩:=h.mem s _ hb';obtain⟨g5,_⟩:=g4 g hg;have g5':g=β s:=g5;subst g5';have:=hat s _ hs hb' hg;have hx':x.ev J=some (.l sz xs):=hx;simp only[hx'] at this;rw[this] at hl;injection hl with hl;omega
end
end Go.X
