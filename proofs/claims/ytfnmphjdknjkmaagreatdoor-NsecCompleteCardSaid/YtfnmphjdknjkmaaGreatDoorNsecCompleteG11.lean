/- Questions and messages. -/
import Derived.Test.YtfnmphjdknjkmaaGreatDoorNsecCompleteG10
import Derived.Test.YtfnmphjdknjkmaaGreatDoorNsecCompleteG9
open BitVec renaming getLsbD_and→L5,getLsbD_not→Hj9
open Bool renaming eq_false_or_eq_true→Ak,and_eq_true→Av,false_eq_true→Ad,or_eq_true→An,not_eq_true'→A6,eq_iff_iff→Cr,eq_false_iff→C5,not_eq_false→F8,and_eq_false_iff→Gv,false_or→Hd,or_eq_false_iff→I9,not_true→Lg,true_and→Qs,and_true→Qt
open Classical renaming not_not→F7
open Int renaming toNat_natCast→Ed,le_refl→Ik2
open List renaming getElem?_eq_some_iff→Aw,getElem?_eq_getElem→Ay,length_append→Ab,mem_cons→Am,length_take→Ap,append_assoc→As,pairwise_cons→A0,mem_of_getElem?→A4,length_cons→A5,getElem?_drop→A8,all_eq_true→By,mem_filter→Bz,length_pos_iff→Bc,length_nil→Bf,take_append_drop→Bh,getElem?_map→Bl,any_eq_true→Bm,mem_append_right→Bs,length_drop→B3,mem_append→B5,cons_append→B8,getElem?_range→Ck,take_add_one→Cq,mem_append_left→Cy,drop_drop→Cf,nil_append→Ch,mem_map→Dj,getElem?_of_mem→Dk,take_length→Dq,length_filter_le→Dw,getElem_mem→Dd,suffix_iff_eq_drop→Dr,pairwise_iff_getElem→Dt,append_nil→D4,take_of_length_le→D5,mem_range→D6,filter_append→D7,length_map→Ew,drop_zero→Ey,exists_mem_of_ne_nil→Ep,pairwise_append→Fz,filter_eq_nil_iff→F3,map_cons→Gx,mem_of_mem_take→G4,cons_prefix_cons→H6,getLast_eq_getElem→Jn,flatMap_cons→Jr,mem_filterMap→L4,set_append_right→M8,drop_set_of_lt→Tw,getElem?_set_self→Zd,length_replicate→pf,length_mergeSort→pg,getElem_take→zj,take_succ_cons→Ef6,reverse_prefix→Ef7,map_mergeSort→Hj5,findIdx?_cons→Hj6
open Nat renaming le_refl→Af,zero_le→Ct,le_trans→C9,add_zero→Dz,zero_add→Ek,min_eq_left→J9
open Option renaming map_eq_some_iff→Ax,bind_some→Az,map_some→A7,isSome_none→Zb
open Option.some renaming injEq→Aq
set_option maxHeartbeats 1000000
set_option linter.defProp false
set_option linter.unusedVariables false
set_option linter.unusedSimpArgs false
namespace Go.X
open Go
structure Ques where
 name:List UInt8
 typ:Int
 deriving DecidableEq
structure Msg where
 id:Int
 op:Int
 code:Int
 resp:Bool
 aa:Bool
 tc:Bool
 rd:Bool
 ra:Bool
 ad:Bool
 cd:Bool
 dok:Bool
 size:Int
 q:Ques
 ans:List Rec
 auth:List Rec
 ext:List Rec
 deriving DecidableEq
structure Ques.wf (x:Ques):Prop where
 name:Q8 x.name
 typ:S6 x.typ
structure Msg.wf (m:Msg):Prop where
 id:S6 m.id
 op:S6 m.op
 code:S6 m.code
 size:S6 m.size
 q:m.q.wf
 ans:Bm8 m.ans
 auth:Bm8 m.auth
 ext:Bm8 m.ext
def Ques.cells (x:Ques):List PV:=[.s x.name, .i .i64 x.typ]
def Ques.pv (x:Ques):PV:= .a x.cells
def Msg.cells (m:Msg):List PV:= .i .i64 m.id:: .i .i64 m.op:: .i .i64 m.code:: .b m.resp:: .b m.aa:: .b m.tc:: .b m.rd:: .b m.ra:: .b m.ad:: .b m.cd:: .b m.dok:: .i .i64 m.size:: .s m.q.name:: .i .i64 m.q.typ::Ag m.ans::Ag m.auth::Ag m.ext::[]
def Msg.pv (m:Msg):PV:= .a m.cells
def shQ:Sh:= .st [.s, .i .i64]
def Ep9 {cs:List PV} (h:shQ.okC cs):∃q:Ques,q.wf∧cs=q.cells:=by obtain ⟨a0,r0,rfl,h0,h⟩:=Dc (jl h);obtain ⟨a1,r1,rfl,h1,h⟩:=Dc h;obtain rfl:=Pr h;obtain ⟨x0,rfl,k0⟩:=Bj6 h0;obtain ⟨x1,rfl,k1⟩:=K7 h1;exact ⟨⟨x0,x1⟩,⟨k0,k1⟩,rfl⟩
def Hg7 {p:PV} (h:shQ.ok p):∃q:Ques,q.wf∧p=q.pv:=by obtain ⟨ds,rfl,h⟩:∃ds,p= .a ds∧shQ.okC ds:=h;obtain ⟨r,hr,rfl⟩:=Ep9 h;exact ⟨r,hr,rfl⟩
def Cj8 (m:Msg):Bt 0 m.pv=some (.i .i64 m.id):=rfl
def Cj7 (m:Msg):Bt 1 m.pv=some (.i .i64 m.op):=rfl
def Cj6 (m:Msg):Bt 2 m.pv=some (.i .i64 m.code):=rfl
def Cj5 (m:Msg):Bt 3 m.pv=some (.b m.resp):=rfl
def Cj4 (m:Msg):Bt 4 m.pv=some (.b m.aa):=rfl
def Cj3 (m:Msg):Bt 5 m.pv=some (.b m.tc):=rfl
def Cj2 (m:Msg):Bt 6 m.pv=some (.b m.rd):=rfl
def Cj1 (m:Msg):Bt 7 m.pv=some (.b m.ra):=rfl
def Cj0 (m:Msg):Bt 8 m.pv=some (.b m.ad):=rfl
def Bt9 (m:Msg):Bt 9 m.pv=some (.b m.cd):=rfl
def At5 (m:Msg):Bt 10 m.pv=some (.b m.dok):=rfl
def At4 (m:Msg):Bt 11 m.pv=some (.i .i64 m.size):=rfl
def At3 (m:Msg):Bt 12 m.pv=some (.s m.q.name):=rfl
def At2 (m:Msg):Bt 13 m.pv=some (.i .i64 m.q.typ):=rfl
def At1 (m:Msg):Bt 14 m.pv=some (Ag m.ans):=rfl
def At0 (m:Msg):Bt 15 m.pv=some (Ag m.auth):=rfl
def As9 (m:Msg):Bt 16 m.pv=some (Ag m.ext):=rfl
def El6 (m:Msg):Kq 0 17 m.pv=some m.pv:=rfl
def Fk1 (m:Msg):S7 17 m.pv=some m.pv:=rfl
def Bg8 (m:Msg):Kq 12 2 m.pv=some m.q.pv:=rfl
def Hw7 (x:Ques):Kq 0 2 x.pv=some x.pv:=rfl
def Hs5 (x:Ques):S7 2 x.pv=some x.pv:=rfl
def En9 (x:Ques):Bt 0 x.pv=some (.s x.name):=rfl
def En8 (x:Ques):Bt 1 x.pv=some (.i .i64 x.typ):=rfl
def F0 (n:List UInt8) (t:Int):PV.a [.s n, .i .i64 t]=Ques.pv ⟨n,t⟩:=rfl
def Hs9 (x:Ques):(⟨x.name,x.typ⟩:Ques)=x:=rfl
def Dr7 (x0 x1 x2:Int) (b0 b1 b2 b3 b4 b5 b6 b7:Bool) (x3:Int) (n:List UInt8) (t:Int) (l0 l1 l2:List Rec):PV.a [.i .i64 x0, .i .i64 x1, .i .i64 x2, .b b0, .b b1, .b b2, .b b3, .b b4, .b b5, .b b6, .b b7, .i .i64 x3, .s n, .i .i64 t,Ag l0,Ag l1,Ag l2]=Msg.pv ⟨x0,x1,x2,b0,b1,b2,b3,b4,b5,b6,b7,x3,⟨n,t⟩,l0,l1,l2⟩:=rfl
def Ik6 (neg:Bool) (x y:Ques):L2 neg true [.s,(.i .i64)] x.pv y.pv=some (.b (if neg then decide (x≠y) else decide (x=y))):=by
 have:G2 [.s,(.i .i64)] x.cells y.cells=some (decide (x=y)):=by simp only [Ques.cells,G2,Dk1,if_true,Aq];rw [Cr];cases x;cases y;simp
 simp only [L2,Ques.pv,this,A7];cases neg<;>simp
set_option linter.defProp false in
def EVM:=(And.intro @Cj8 (And.intro @Cj7 (And.intro @Cj6 (And.intro @Cj5 (And.intro @Cj4 (And.intro @Cj3 (And.intro @Cj2 (And.intro @Cj1 (And.intro @Cj0 (And.intro @Bt9 (And.intro @At5 (And.intro @At4 (And.intro @At3 (And.intro @At2 (And.intro @At1 (And.intro @At0 (And.intro @As9 (And.intro @El6 (And.intro @Fk1 (And.intro @Bg8 (And.intro @Hw7 (And.intro @Hs5 (And.intro @En9 (And.intro @En8 (And.intro @F0 (And.intro @Hs9 (And.intro @Dr7 @Ik6)))))))))))))))))))))))))))
end Go.X
/- Closures and sets of strings, evaluated. -/
namespace Go.X
open Go
def Hj0 (fn:Fns) (η:List PV) (fl:Bool) (ar:List E) (m:Nat):PV→Option (List PV)
 | .f f caps=>(E.evs η ar).bind fun vs=>results fl m η (fn f vs.length (vs++caps))
 |_=>none
def zf {fn:Fns} {η:List PV} (fl:Bool) (c:E) (ar:List E) (m:Nat):W.ev fn η (.clo none fl c ar m)=(c.ev η).bind (Hj0 fn η fl ar m):=by
 rw [Eh1];congr 1;funext q;cases q with
 |f f caps=>rfl
 |_=>cases h:E.evs η ar<;>rfl
def Gr6 {fn:Fns} {η:List PV} (fl:Bool) (ar:List E) (m:Nat) (f:Nat) (caps:List PV):Hj0 fn η fl ar m (.f f caps)=(E.evs η ar).bind fun vs=>results fl m η (fn f vs.length (vs++caps)):=rfl
def Gv2 (f:Nat) (caps:List PV):Bt 0 (.f f caps)=some (.f f caps):=rfl
def Fn1 (f:Nat) (caps:List PV):Jq (.f f caps)=some (.f f caps):=rfl
def N3 (ks:List (List UInt8)):PV:= .m (ks.map fun k=>(.s k, .b true))
def En1:PV.m []=N3 []:=rfl
def Dg3 (ks:List (List UInt8)):Bt 0 (N3 ks)=some (N3 ks):=rfl
def Dd5 (ks:List (List UInt8)):Jq (N3 ks)=some (N3 ks):=rfl
def mj (k:List UInt8):∀ks:List (List UInt8),br (.s k) (ks.map fun k=>(.s k, .b true))=some (if k∈ks then some (.b true) else none)
 |[]=>by simp [br]
 |x::ks=>by
  simp only [Gx,br,md];by_cases h:k=x
  ·subst h;simp
  ·have h2:(k==x)=false:=by simpa using h
   rw [h2];simp only [mj k ks,Am,h,false_or]
def Ab7 (k:List UInt8):∀ks:List (List UInt8),Ex9 (.s k) (.b true) (ks.map fun k=>(.s k, .b true))=some ((if k∈ks then ks else ks++[k]).map fun k=>(.s k, .b true))
 |[]=>by simp [Ex9]
 |x::ks=>by
  simp only [Gx,Ex9,md];by_cases h:k=x
  ·subst h;simp
  ·have h2:(k==x)=false:=by simpa using h
   rw [h2];simp only [Ab7 k ks,Am,h,false_or,A7];by_cases h3:k∈ks<;>simp [h3]
def Dm7 (k:List UInt8) (ks:List (List UInt8)):l9 (N3 ks) (.s k) (.b false)=some (.b (decide (k∈ks))):=by simp only [l9,N3,Cf9,if_true,mj,A7];by_cases h:k∈ks<;>simp [h]
def Dm4 (k:List UInt8) (ks:List (List UInt8)):l7 (N3 ks) (.s k) (.b true)=some (N3 (if k∈ks then ks else ks++[k])):=by simp only [l7,N3,Cf9,if_true,Ab7,A7]
def Cz8 (a b:List Rec):Jl 1 [Ag a,Ag b]=some (.l 1 ([a,b].map Ag)):=rfl
def Gr5 (fn:Fns) (η:List PV) (fl:Bool) (c:E) (ar:List E) (m:Nat):PV→Option (List PV)
 | .b true=>(c.ev η).bind (Hj0 fn η fl ar m)
 | .b false=>some (η++List.replicate m .u)
 |_=>none
def Js {fn:Fns} {η:List PV} (g:E) (fl:Bool) (c:E) (ar:List E) (m:Nat):W.ev fn η (.clo (some g) fl c ar m)=(g.ev η).bind (Gr5 fn η fl c ar m):=by
 have h:=zf (fn:=fn) (η:=η) fl c ar m;simp only [W.ev,Fj] at h ⊢;congr 1;funext q;cases q with
 |b x=>cases x with
  |true=>exact h
  |false=>rfl
 |_=>rfl
def M1 (fn:Fns) (η:List PV) (fl:Bool) (c:E) (ar:List E) (m:Nat) (x:Bool):Gr5 fn η fl c ar m (.b x)=if x=true then (c.ev η).bind (Hj0 fn η fl ar m) else some (η++List.replicate m .u):=by cases x<;>rfl
set_option linter.defProp false in
def EVC:=(And.intro @zf (And.intro @Gr6 (And.intro @Gv2 (And.intro @Fn1 (And.intro @En1 (And.intro @Dg3 (And.intro @Dd5 (And.intro @Dm7 (And.intro @Dm4 @Cz8)))))))))
end Go.X
/- Addresses and tasks. -/
namespace Go.X
structure Adr where
 v6:Bool
 hi:Int
 lo:Int
 deriving DecidableEq
structure Tk where
 q:Ques
 name:List UInt8
 zone:List UInt8
 hosts:List (List UInt8)
 addrs:List Adr
 tried:List Adr
 state:Int
 more:Int
 dst:Adr
 asked:Ques
 sent:Int
 chain:List Rec
 last:Msg
 err:Int
def Adr.pv (x:Adr):PV:= .a [.b x.v6, .i .u64 x.hi, .i .u64 x.lo]
def Fp (l:List Adr):PV:= .l 3 (l.map Adr.pv)
def Dat.adr (d:Dat):Adr:=⟨d.v6,d.hi,d.lo⟩
def Tk.cells (t:Tk):List PV:=[.s t.q.name, .i .i64 t.q.typ, .s t.name, .s t.zone,Bn t.hosts,Fp t.addrs,Fp t.tried, .i .i64 t.state, .i .i64 t.more, .b t.dst.v6, .i .u64 t.dst.hi, .i .u64 t.dst.lo, .s t.asked.name, .i .i64 t.asked.typ, .i .i64 t.sent,Ag t.chain, .i .i64 t.last.id, .i .i64 t.last.op, .i .i64 t.last.code, .b t.last.resp, .b t.last.aa, .b t.last.tc, .b t.last.rd, .b t.last.ra, .b t.last.ad, .b t.last.cd, .b t.last.dok, .i .i64 t.last.size, .s t.last.q.name, .i .i64 t.last.q.typ,Ag t.last.ans,Ag t.last.auth,Ag t.last.ext, .i .i64 t.err]
def Tk.pv (t:Tk):PV:= .a t.cells
def Dg2 (t:Tk):Bt 0 t.pv=some (.s t.q.name):=rfl
def Dg1 (t:Tk):Bt 1 t.pv=some (.i .i64 t.q.typ):=rfl
def Dg0 (t:Tk):Bt 2 t.pv=some (.s t.name):=rfl
def Df9 (t:Tk):Bt 3 t.pv=some (.s t.zone):=rfl
def Df8 (t:Tk):Bt 4 t.pv=some (Bn t.hosts):=rfl
def Df7 (t:Tk):Bt 5 t.pv=some (Fp t.addrs):=rfl
def Df6 (t:Tk):Bt 6 t.pv=some (Fp t.tried):=rfl
def Df5 (t:Tk):Bt 7 t.pv=some (.i .i64 t.state):=rfl
def Df4 (t:Tk):Bt 8 t.pv=some (.i .i64 t.more):=rfl
def Df3 (t:Tk):Bt 9 t.pv=some (.b t.dst.v6):=rfl
def Bs1 (t:Tk):Bt 10 t.pv=some (.i .u64 t.dst.hi):=rfl
def Bs0 (t:Tk):Bt 11 t.pv=some (.i .u64 t.dst.lo):=rfl
def Br9 (t:Tk):Bt 12 t.pv=some (.s t.asked.name):=rfl
def Br8 (t:Tk):Bt 13 t.pv=some (.i .i64 t.asked.typ):=rfl
def Br7 (t:Tk):Bt 14 t.pv=some (.i .i64 t.sent):=rfl
def Br6 (t:Tk):Bt 15 t.pv=some (Ag t.chain):=rfl
def Br5 (t:Tk):Bt 16 t.pv=some (.i .i64 t.last.id):=rfl
def Br4 (t:Tk):Bt 17 t.pv=some (.i .i64 t.last.op):=rfl
def Br3 (t:Tk):Bt 18 t.pv=some (.i .i64 t.last.code):=rfl
def Br2 (t:Tk):Bt 19 t.pv=some (.b t.last.resp):=rfl
def Br1 (t:Tk):Bt 20 t.pv=some (.b t.last.aa):=rfl
def Br0 (t:Tk):Bt 21 t.pv=some (.b t.last.tc):=rfl
def Bp9 (t:Tk):Bt 22 t.pv=some (.b t.last.rd):=rfl
def Bp8 (t:Tk):Bt 23 t.pv=some (.b t.last.ra):=rfl
def Bp7 (t:Tk):Bt 24 t.pv=some (.b t.last.ad):=rfl
def Bp6 (t:Tk):Bt 25 t.pv=some (.b t.last.cd):=rfl
def Bp5 (t:Tk):Bt 26 t.pv=some (.b t.last.dok):=rfl
def Bp4 (t:Tk):Bt 27 t.pv=some (.i .i64 t.last.size):=rfl
def Bp3 (t:Tk):Bt 28 t.pv=some (.s t.last.q.name):=rfl
def Bp2 (t:Tk):Bt 29 t.pv=some (.i .i64 t.last.q.typ):=rfl
def Bp1 (t:Tk):Bt 30 t.pv=some (Ag t.last.ans):=rfl
def Bp0 (t:Tk):Bt 31 t.pv=some (Ag t.last.auth):=rfl
def Bn9 (t:Tk):Bt 32 t.pv=some (Ag t.last.ext):=rfl
def Bn8 (t:Tk):Bt 33 t.pv=some (.i .i64 t.err):=rfl
def Fl8 (t:Tk):Kq 0 34 t.pv=some t.pv:=rfl
def Gl8 (t:Tk):S7 34 t.pv=some t.pv:=rfl
def An2 (t:Tk):Kq 9 3 t.pv=some t.dst.pv:=rfl
def g9 (t:Tk):Kq 12 2 t.pv=some t.asked.pv:=rfl
def Dc1 (t:Tk):Kq 0 2 t.pv=some t.q.pv:=rfl
def rj (t:Tk):Kq 16 17 t.pv=some t.last.pv:=rfl
def Fj7 (x0:List UInt8) (x1:Int) (x2:List UInt8) (x3:List UInt8) (x4:List (List UInt8)) (x5:List Adr) (x6:List Adr) (x7:Int) (x8:Int) (x9:Bool) (x10:Int) (x11:Int) (x12:List UInt8) (x13:Int) (x14:Int) (x15:List Rec) (x16:Int) (x17:Int) (x18:Int) (x19:Bool) (x20:Bool) (x21:Bool) (x22:Bool) (x23:Bool) (x24:Bool) (x25:Bool) (x26:Bool) (x27:Int) (x28:List UInt8) (x29:Int) (x30:List Rec) (x31:List Rec) (x32:List Rec) (x33:Int):PV.a [.s x0, .i .i64 x1, .s x2, .s x3,Bn x4,Fp x5,Fp x6, .i .i64 x7, .i .i64 x8, .b x9, .i .u64 x10, .i .u64 x11, .s x12, .i .i64 x13, .i .i64 x14,Ag x15, .i .i64 x16, .i .i64 x17, .i .i64 x18, .b x19, .b x20, .b x21, .b x22, .b x23, .b x24, .b x25, .b x26, .i .i64 x27, .s x28, .i .i64 x29,Ag x30,Ag x31,Ag x32, .i .i64 x33]=Tk.pv ⟨⟨x0,x1⟩,x2,x3,x4,x5,x6,x7,x8,⟨x9,x10,x11⟩,⟨x12,x13⟩,x14,x15,⟨x16,x17,x18,x19,x20,x21,x22,x23,x24,x25,x26,x27,⟨x28,x29⟩,x30,x31,x32⟩,x33⟩:=rfl
def Gn7 (t:Tk):(⟨t.q,t.name,t.zone,t.hosts,t.addrs,t.tried,t.state,t.more,t.dst,t.asked,t.sent,t.chain,t.last,t.err⟩:Tk)=t:=rfl
def Fq6 (m:Msg):(⟨m.id,m.op,m.code,m.resp,m.aa,m.tc,m.rd,m.ra,m.ad,m.cd,m.dok,m.size,m.q,m.ans,m.auth,m.ext⟩:Msg)=m:=rfl
def Fq7 (x:Adr):(⟨x.v6,x.hi,x.lo⟩:Adr)=x:=rfl
def Gs5 (d:Dat):Kn d=d.adr.pv:=rfl
def Dr8 (v:Bool) (h l:Int):PV.a [.b v, .i .u64 h, .i .u64 l]=Adr.pv ⟨v,h,l⟩:=rfl
def Fb2 (d:Dat):(⟨d.v6,d.hi,d.lo⟩:Adr)=d.adr:=rfl
def El8 (x:Adr):Kq 0 3 x.pv=some x.pv:=rfl
def Fk3 (x:Adr):S7 3 x.pv=some x.pv:=rfl
def Cq2 (x:Adr):Bt 0 x.pv=some (.b x.v6):=rfl
def Cq1 (x:Adr):Bt 1 x.pv=some (.i .u64 x.hi):=rfl
def Cq0 (x:Adr):Bt 2 x.pv=some (.i .u64 x.lo):=rfl
def Ds1 (x:Adr):PV.flat x.pv=true:=rfl
def Ej8:PV.l 3 []=Fp []:=rfl
def Et1 (x:Adr):Jl 3 [x.pv]=some (Fp [x]):=rfl
def Bl6 (l:List Adr):Jq (Fp l)=some (Fp l):=rfl
def Ck9 (l:List Adr):Bt 0 (Fp l)=some (Fp l):=rfl
def Gl5 (x:Ques):PV.flat x.pv=true:=rfl
def Fm7 (n:Int):Jq (.i .u64 n)=some (.i .u64 n):=rfl
def Gq9 (n:Int):Bt 0 (.i .u64 n)=some (.i .u64 n):=rfl
def Dn5 (l:List Adr):Gb (Fp l)=some (.i .i64 (l.length:Int)):=by simp [Fp,Gb]
def Dp8 (l:List Adr) (k:IntKind) (z:Int) (h:0≤z):Ht 3 (Fp l) (.i k z)=(l[z.toNat]?).map Adr.pv:=by simp [Fp,cr _ _ _ _ h]
def Cs9 (l:List Adr) (x:Adr) (h:l.length+1≤1073741824):Ih 3 (Fp l) (Fp [x])=some (Fp (l++[x])):=by have:=Wb 3 (l.map Adr.pv) ([x].map Adr.pv) (by simpa using h);simpa [Fp] using this
def Ej7 (l m:List Adr) (h:l.length+m.length≤1073741824):Ih 3 (Fp l) (Fp m)=some (Fp (l++m)):=by have:=Wb 3 (l.map Adr.pv) (m.map Adr.pv) (by simpa using h);simpa [Fp] using this
def Dm9 (l:List Adr) (k k':IntKind) (a b:Int) (h1:0≤a) (h2:a≤b) (h3:b≤(l.length:Int)):Hh 3 (Fp l) (.i k a) (.i k' b)=some (Fp ((l.take b.toNat).drop a.toNat)):=by have:=Cz3 3 (l.map Adr.pv) k k' a b h1 h2 (by simpa using h3);simpa [Fp,List.map_take,List.map_drop] using this
def Gp1 (neg:Bool) (x y:Adr):L2 neg true [.b,(.i .u64),(.i .u64)] x.pv y.pv=some (.b (if neg then decide (x≠y) else decide (x=y))):=by
 have:G2 [.b,(.i .u64),(.i .u64)] [.b x.v6, .i .u64 x.hi, .i .u64 x.lo] [.b y.v6, .i .u64 y.hi, .i .u64 y.lo]=some (decide (x=y)):=by simp only [G2,Dk1,if_true,Aq];rw [Cr];cases x;cases y;simp
 simp only [L2,Adr.pv,this,A7];cases neg<;>simp
set_option linter.defProp false in
def EVT:=(And.intro @Dg2 (And.intro @Dg1 (And.intro @Dg0 (And.intro @Df9 (And.intro @Df8 (And.intro @Df7 (And.intro @Df6 (And.intro @Df5 (And.intro @Df4 (And.intro @Df3 (And.intro @Bs1 (And.intro @Bs0 (And.intro @Br9 (And.intro @Br8 (And.intro @Br7 (And.intro @Br6 (And.intro @Br5 (And.intro @Br4 (And.intro @Br3 (And.intro @Br2 (And.intro @Br1 (And.intro @Br0 (And.intro @Bp9 (And.intro @Bp8 (And.intro @Bp7 (And.intro @Bp6 (And.intro @Bp5 (And.intro @Bp4 (And.intro @Bp3 (And.intro @Bp2 (And.intro @Bp1 (And.intro @Bp0 (And.intro @Bn9 (And.intro @Bn8 (And.intro @Fl8 (And.intro @Gl8 (And.intro @An2 (And.intro @g9 (And.intro @Dc1 (And.intro @rj (And.intro @Fj7 (And.intro @Gn7 (And.intro @Fq6 (And.intro @Fq7 (And.intro @Gs5 (And.intro @Dr8 (And.intro @Fb2 (And.intro @El8 (And.intro @Fk3 (And.intro @Cq2 (And.intro @Cq1 (And.intro @Cq0 (And.intro @Ds1 (And.intro @Ej8 (And.intro @Et1 (And.intro @Bl6 (And.intro @Ck9 (And.intro @Gl5 (And.intro @Fm7 (And.intro @Gq9 (And.intro @Dn5 (And.intro @Dp8 (And.intro @Cs9 (And.intro @Ej7 (And.intro @Dm9 @Gp1)))))))))))))))))))))))))))))))))))))))))))))))))))))))))))))))))
end Go.X
/- Functions of the package slices, for texts, records and addresses. -/
namespace Go.X.G
open Go Go.X
def Ct7 (l:List (List UInt8)) (x:List UInt8) (hl:l.length≤1000000):∃k:Int,(0≤k↔x∈l)∧S Yh 2 [Bn l, .s x]=some [.i .i64 k]:=by
 have go:∀(i:Nat) (l:List (List UInt8)),∃k:Int,k=(match l.findIdx? (·=x) with|some j=>((i+j:Nat):Int)|none=> -1)∧(0≤k↔x∈l):=by
  intro i l;refine ⟨_,rfl,?_⟩;cases h:l.findIdx? (·=x) with
  |none=>
   rw [List.findIdx?_eq_none_iff] at h;simp only;constructor
   ·intro h2;omega
   ·intro h2;have:=h x h2;simp at this
  |some j=>
   simp only;constructor
   ·intro _;rw [List.findIdx?_eq_some_iff_getElem] at h;obtain ⟨h1,h2,_⟩:=h;simp at h2;rw [←h2];exact Dd _
   ·intro _;omega
 obtain ⟨k,hk,hk2⟩:=go 0 l;refine ⟨k,hk2,?_⟩;refine Ew9 (N:=l.length+1) rfl ?_;have key:uq.ev S (l.length+1) [Bn l, .s x]=some (match l.findIdx? (·=x) with|some j=> .ret [.i .i64 ((0+j:Nat):Int)]|none=> .yld 0 []):=by
  refine Fg l (fun i=>[.i .i64 (i:Int)]) (fun i r=>match r.findIdx? (·=x) with|some j=> .ret [.i .i64 ((i+j:Nat):Int)]|none=> .yld 0 []) rfl (by omega) (fun i c r hd hi hc=> ?_) ?_
  ·by_cases h:x=c
   ·right;simp (disch:=omega) only [N2,hc,h,EVM,EVC,xe,EVP,EV,simprocAttr];simp [Hj6,Out.goes]
   ·left;have h':¬c=x:=fun e=>h e.symm;simp (disch:=omega) only [N2,hc,h,EVM,EVC,xe,EVP,EV,simprocAttr];refine ⟨trivial,?_⟩;simp only [Hj6,h',decide_false,Ad,if_false];cases r.findIdx? (·=x) with
    |none=>rfl
    |some j=>simp;omega
  ·simp (disch:=omega) only [N2,EVM,EVC,xe,EVP,EV,simprocAttr];simp [Out.goes]
 rw [hk];cases h:l.findIdx? (·=x) with
 |none=>
  rw [h] at key;simp (disch:=omega) only [N2,key,EVM,EVC,xe,EVP,EV,simprocAttr]
 |some j=>
  rw [h] at key;simp (disch:=omega) only [N2,key,EVM,EVC,xe,EVP,EV,simprocAttr]
def Ss (l:List (List UInt8)) (x:List UInt8) (hl:l.length≤1000000):S W4 2 [Bn l, .s x]=some [.b (decide (x∈l))]:=by refine Fn3 (N:=1) rfl ?_;obtain ⟨k,h1,h2⟩:=Ct7 l x hl;simp (disch:=omega) only [Fd0,h2,EVM,EVC,xe,EVP,EV,simprocAttr];simp [h1]
def ixG {α:Type} (p:α→Bool) (k:Nat):List α→Int
 |[]=> -1
 |r::rs=>if p r=true then (k:Int) else ixG p (k+1) rs
def uw {α:Type} (p:α→Bool):∀(l:List α) (k:Nat),(0≤ixG p k l↔l.any p=true)∧ixG p k l≤k+l.length∧ -1≤ixG p k l
 |[],k=>by simp [ixG]
 |r::rs,k=>by
  have ih:=uw p rs (k+1);rcases Ak (p r) with h|h
  ·simp [ixG,h];omega
  ·simp only [ixG,h,List.any_cons,Hd,A5];refine ⟨by simpa using ih.1,?_,by simpa using ih.2.2⟩;have:=ih.2.1;simp only [Ad,if_false] at this ⊢;omega
def fx (l:List (List UInt8)) (g:Nat) (caps:List PV) (p:List UInt8→Bool) (hl:l.length≤1000000) (h:∀r∈l,S g 1 (.s r::caps)=some [.b (p r)]):S Cw3 2 [Bn l, .f g caps]=some [.i .i64 (ixG p 0 l)]:=by
 refine Hy4 (N:=l.length+1) rfl ?_;have key:Ey8.ev S (l.length+1) [Bn l, .f g caps]=some (if ixG p 0 l= -1 then .yld 0 [] else .ret [.i .i64 (ixG p 0 l)]):=by
  refine Fg l (fun i=>[.i .i64 (i:Int)]) (fun i r=>if ixG p i r= -1 then .yld 0 [] else .ret [.i .i64 (ixG p i r)]) rfl (by omega) (fun i c r hd hi hc=> ?_) ?_
  ·have hp:=h c (A4 hc);rcases Ak (p c) with h1|h1
   ·rw [h1] at hp;right;have h2:¬((i:Int)= -1):=by omega
    simp (disch:=omega) only [Bc4,hc,hp,EVT,EVC,xe,EVP,EV,simprocAttr];simp [ixG,h1,h2,Out.goes]
   ·rw [h1] at hp;left;simp (disch:=omega) only [Bc4,hc,hp,EVT,EVC,xe,EVP,EV,simprocAttr];simp [ixG,h1]
  ·simp (disch:=omega) only [Bc4,EVT,EVC,xe,EVP,EV,simprocAttr];simp [ixG,Out.goes]
 by_cases h1:ixG p 0 l= -1
 ·rw [if_pos h1] at key;simp (disch:=omega) only [Bc4,key,h1,EVT,EVC,xe,EVP,EV,simprocAttr]
 ·rw [if_neg h1] at key;simp (disch:=omega) only [Bc4,key,EVT,EVC,xe,EVP,EV,simprocAttr]
def Lr (l:List (List UInt8)) (g:Nat) (caps:List PV) (p:List UInt8→Bool) (hl:l.length≤1000000) (h:∀r∈l,S g 1 (.s r::caps)=some [.b (p r)]):S Bq0 2 [Bn l, .f g caps]=some [.b (l.any p)]:=by
 refine Hc9 (N:=1) rfl ?_;simp (disch:=omega) only [Hq6,fx l g caps p hl h,EVC,xe,EVP,EV,simprocAttr];have:=(uw p l 0).1;rcases Ak (l.any p) with h1|h1
 ·rw [h1] at this ⊢;simp [this.2 rfl]
 ·rw [h1] at this ⊢;have h2:¬(0≤ixG p 0 l):=fun h=>by simpa using this.1 h
  simp [h2]
def o7 (l:List Rec) (hl:l.length≤1000000):S Yd 1 [Ag l]=some [Ag l]:=by
 refine Gk0 (N:=1) rfl ?_;have h0:Ih 16 (Ag []) (Ag l)=some (Ag l):=by simpa using T2 [] l (by simp;omega)
 simp (disch:=omega) only [Fg1,h0,EVT,EVC,xe,EVP,EV,simprocAttr]
def mm {α:Type} (p:α→Bool):∀(l:List α) (k:Nat),0≤ixG p k l→∃j,ixG p k l=((k+j:Nat):Int)∧j<l.length∧(∀x∈l.take j,p x=false)∧∃x,l[j]? =some x∧p x=true
 |[],k,h=>by simp [ixG] at h
 |r::rs,k,h=>by
  rcases Ak (p r) with h1|h1
  ·exact ⟨0,by simp [ixG,h1],by simp,by simp,r,rfl,h1⟩
  ·have e:ixG p k (r::rs)=ixG p (k+1) rs:=by simp [ixG,h1]
   rw [e] at h ⊢;obtain ⟨j,g1,g2,g3,x,g4,g5⟩:=mm p rs (k+1) h;refine ⟨j+1,by rw [g1];congr 1;omega,by simp;omega,fun y hy=> ?_,x,by simpa using g4,g5⟩;simp only [Ef6,Am] at hy;rcases hy with rfl|hy
   ·exact h1
   ·exact g3 y hy
def Kl {α:Type} (p:α→Bool) {l:List α} (h:∀x∈l,p x=false):l.filter (fun x=> !p x)=l:=by rw [List.filter_eq_self];intro x hx;simp [h x hx]
def ixF (p:Rec→Bool) (k:Nat):List Rec→Int
 |[]=> -1
 |r::rs=>if p r=true then (k:Int) else ixF p (k+1) rs
def Cg0 (p:Rec→Bool):∀(l:List Rec) (k:Nat),(0≤ixF p k l↔l.any p=true)∧ixF p k l≤k+l.length∧ -1≤ixF p k l
 |[],k=>by simp [ixF]
 |r::rs,k=>by
  have ih:=Cg0 p rs (k+1);rcases Ak (p r) with h|h
  ·simp [ixF,h];omega
  ·simp only [ixF,h,List.any_cons,Hd,A5];refine ⟨by simpa using ih.1,?_,by simpa using ih.2.2⟩;have:=ih.2.1;simp only [Ad,if_false] at this ⊢;omega
def Qf (l:List Rec) (g:Nat) (caps:List PV) (p:Rec→Bool) (hl:l.length≤1000000) (h:∀r∈l,S g 1 (r.pv::caps)=some [.b (p r)]):S s8 2 [Ag l, .f g caps]=some [.i .i64 (ixF p 0 l)]:=by
 refine Hy2 (N:=l.length+1) rfl ?_;have key:Ey7.ev S (l.length+1) [Ag l, .f g caps]=some (if ixF p 0 l= -1 then .yld 0 [] else .ret [.i .i64 (ixF p 0 l)]):=by
  refine Fg l (fun i=>[.i .i64 (i:Int)]) (fun i r=>if ixF p i r= -1 then .yld 0 [] else .ret [.i .i64 (ixF p i r)]) rfl (by omega) (fun i c r hd hi hc=> ?_) ?_
  ·have hp:=h c (A4 hc);rcases Ak (p c) with h1|h1
   ·rw [h1] at hp;right;have h2:¬((i:Int)= -1):=by omega
    simp (disch:=omega) only [Bc3,hc,hp,EVC,xe,EVP,EV,simprocAttr];simp [ixF,h1,h2,Out.goes]
   ·rw [h1] at hp;left;simp (disch:=omega) only [Bc3,hc,hp,EVC,xe,EVP,EV,simprocAttr];simp [ixF,h1]
  ·simp (disch:=omega) only [Bc3,EVC,xe,EVP,EV,simprocAttr];simp [ixF,Out.goes]
 by_cases h1:ixF p 0 l= -1
 ·rw [if_pos h1] at key;simp (disch:=omega) only [Bc3,key,h1,EVC,xe,EVP,EV,simprocAttr]
 ·rw [if_neg h1] at key;simp (disch:=omega) only [Bc3,key,EVC,xe,EVP,EV,simprocAttr]
def F5 (l:List Rec) (g:Nat) (caps:List PV) (p:Rec→Bool) (hl:l.length≤1000000) (h:∀r∈l,S g 1 (r.pv::caps)=some [.b (p r)]):S bh 2 [Ag l, .f g caps]=some [.b (l.any p)]:=by
 refine Hc6 (N:=1) rfl ?_;simp (disch:=omega) only [Hq4,Qf l g caps p hl h,EVC,xe,EVP,EV,simprocAttr];have:=(Cg0 p l 0).1;rcases Ak (l.any p) with h1|h1
 ·rw [h1] at this ⊢;simp [this.2 rfl]
 ·rw [h1] at this ⊢;have h2:¬(0≤ixF p 0 l):=fun h=>by simpa using this.1 h
  simp [h2]
end Go.X.G
/- nsec: Absent, Empty, on both sides. -/
namespace Go.X.G
open Go Go.X
def P5 (r:Rec) (t:Int):Bool:=
 if r.typ≠47∨t=255∨O0 r t=true∨O0 r 5=true then false else if t=43 then !O0 r 6 else O0 r 6|| !O0 r 2
def Cb6 (r:Rec) (t:Int):S Cx6 2 [r.pv, .i .i64 t]=some [.b (P5 r t)]:=by
 refine Hc3 (N:=1) rfl ?_;have a1:=Kz r t;have a2:=Kz r 5;have a3:=Kz r 6;have a4:=Kz r 2;unfold P5;by_cases h1:r.typ=47
 ·by_cases h2:t=255
  ·simp (disch:=omega) only [Am7,h1,h2,EVC,xe,EVP,EV,simprocAttr]
   try simp
  ·rcases Ak (O0 r t) with e0|e0
   ·simp (disch:=omega) only [Am7,a1,e0,h1,h2,EVC,xe,EVP,EV,simprocAttr]
    try simp
   ·rcases Ak (O0 r 5) with e1|e1
    ·simp (disch:=omega) only [Am7,a1,a2,e0,e1,h1,h2,EVC,xe,EVP,EV,simprocAttr]
     try simp
    ·by_cases h3:t=43
     ·rw [h3] at a1 e0 h2 ⊢;rcases Ak (O0 r 6) with e2|e2<;>simp (disch:=omega) only [Am7,a1,a2,a3,e0,e1,e2,h1,EVC,xe,EVP,EV,simprocAttr]<;>simp [h1]
     ·rcases Ak (O0 r 6) with e2|e2<;>rcases Ak (O0 r 2) with e3|e3<;>simp (disch:=omega) only [Am7,a1,a2,a3,a4,e0,e1,e2,e3,h1,h2,h3,EVC,xe,EVP,EV,simprocAttr]<;>simp [h1,h2,h3]
 ·simp (disch:=omega) only [Am7,h1,EVC,xe,EVP,EV,simprocAttr]
  try simp [h1]
def Gr2 (l:List Rec) (zone s:List UInt8):Bool:=l.any fun r=>F4 r zone s
def Ol (l:List Rec) (zone name:List UInt8):Bool:=(starsN l zone name).any fun s=>Gr2 l zone s
def An5 {l:List Rec} {zone name s:List UInt8} (h:s∈starsN l zone name):s.length≤254:=by
 unfold starsN at h;rw [L4] at h;obtain ⟨r,_,hr⟩:=h;unfold Xf at hr;split at hr
 ·rename_i hc;simp only [Av] at hc;injection hr with hr;unfold starN at hr;rw [if_pos hc.2] at hr;rw [←hr];have:=hc.2;unfold starOk at this;simp only [Av] at this;exact Gy this.2
 ·cases hr
def y8 (r:Rec) (zone s:List UInt8) (hr:r.wf) (hz:zone.length≤9223372036854775807) (hn:s.length≤9223372036854775807):S Bk7 1 [r.pv, .s zone, .s s]=some [.b (F4 r zone s)]:=by refine Hc5 (N:=1) rfl ?_;simp (disch:=omega) only [Hq3,M7 r zone s hr hz hn,EVC,xe,EVP,EV,simprocAttr]
def Bz0 (l:List Rec) (zone s:List UInt8) (hw:∀r∈l,r.wf) (hl:l.length≤1000000) (hz:zone.length≤9223372036854775807) (hn:s.length≤9223372036854775807):S Bk8 1 [.s s,Ag l, .s zone]=some [.b (Gr2 l zone s)]:=by refine Hc7 (N:=1) rfl ?_;have k:=F5 l Bk7 [.s zone, .s s] (fun r=>F4 r zone s) hl (fun r hr=>y8 r zone s (hw r hr) hz hn);unfold Gr2;simp (disch:=omega) only [Hq5,k,EVC,xe,EVP,EV,simprocAttr]
def Rt (l:List Rec) (zone name:List UInt8) (hw:∀r∈l,r.wf) (hl:l.length≤1000000) (hz:zone.length≤9223372036854775807) (hn:name.length≤9223372036854775807):S td 3 [Ag l, .s zone, .s name]=some [.b (Ol l zone name)]:=by refine Hf2 (N:=1) rfl ?_;have k1:=Ay2 l zone name hw hl hz hn;have hsl:=Xd l zone name;have k:=Lr (starsN l zone name) Bk8 [Ag l, .s zone] (fun s=>Gr2 l zone s) (by omega) (fun s hs=>Bz0 l zone s hw hl hz (by have:=An5 hs;omega));unfold Ol;generalize starsN l zone name=st at*;simp (disch:=omega) only [Hv0,k1,k,EVC,xe,EVP,EV,simprocAttr]
def Fv0 (l:List Rec) (zone:List UInt8) (q:Ques) (r:Rec):Bool:=
 (F4 r zone q.name && Hc r.data.host q.name)||(P5 r q.typ && (decide (r.name=q.name)||Hj l zone q.name r.name))
def Y6 (l:List Rec) (zone:List UInt8) (q:Ques):Bool:=under q.name zone && l.any (Fv0 l zone q)
def Dj0 (l:List Rec) (zone:List UInt8) (q:Ques) (r:Rec) (hr:r.wf) (hw:∀r∈l,r.wf) (hl:l.length≤1000000) (hz:zone.length≤9223372036854775807) (hn:q.name.length≤9223372036854775807):
  S Bk6 1 [r.pv, .s zone,q.pv,Ag l]=some [.b (Fv0 l zone q r)]:=by
 refine Hc4 (N:=1) rfl ?_;have g2:=hr.data.host;unfold Q8 at g2;have h1:=M7 r zone q.name hr hz hn;have h2:=Hy r.data.host q.name g2 hn;have h3:=Cb6 r q.typ;have h4:=Wd l zone q.name r.name hw hl hz hn;unfold Fv0;by_cases e4:r.name=q.name
 ·rcases Ak (F4 r zone q.name) with e0|e0<;>rcases Ak (Hc r.data.host q.name) with e1|e1<;>rcases Ak (P5 r q.typ) with e2|e2<;>rcases Ak (Hj l zone q.name r.name) with e3|e3
  all_goals simp (disch:=omega) only [Fd1,h1,h2,h3,h4,e0,e1,e2,e3,e4,EVM,EVC,xe,EVP,EV,simprocAttr]
  all_goals simp
 ·rcases Ak (F4 r zone q.name) with e0|e0<;>rcases Ak (Hc r.data.host q.name) with e1|e1<;>rcases Ak (P5 r q.typ) with e2|e2<;>rcases Ak (Hj l zone q.name r.name) with e3|e3
  all_goals simp (disch:=omega) only [Fd1,h1,h2,h3,h4,e0,e1,e2,e3,e4,EVM,EVC,xe,EVP,EV,simprocAttr]
  all_goals simp
def o5 (l:List Rec) (zone:List UInt8) (q:Ques) (hw:∀r∈l,r.wf) (hl:l.length≤1000000) (hz:zone.length≤9223372036854775807) (hn:q.name.length≤9223372036854775807):S Bq5 3 [Ag l, .s zone,q.pv]=some [.b (Y6 l zone q)]:=by refine Hf1 (N:=1) rfl ?_;have k:=F5 l Bk6 [.s zone,q.pv,Ag l] (Fv0 l zone q) hl (fun r hr=>Dj0 l zone q r (hw r hr) hw hl hz hn);have hu:=Ec q.name zone hn hz;unfold Y6;rcases Ak (under q.name zone) with h|h<;>simp (disch:=omega) only [Hq9,hu,h,k,EVM,EVC,xe,EVP,EV,simprocAttr]<;>simp
end Go.X.G
/- Data of records: bytes. -/
namespace Go.X.G
open Go Go.X
def Fz8 (set:Int) (i:Nat):Nat→Bool
 |0=>true
 |k+1=>(!decide (bit set i=1)||knw (i:Int)) && Fz8 set (i+1) k
def be (v:Int):Nat→List UInt8
 |0=>[]
 |n+1=>UInt8.ofNat (v / 256 ^ n % 256).toNat::be v n
def E4 (v:Int):∀n,(be v n).length=n
 |0=>rfl
 |n+1=>by simp [be,E4 v n]
def Cv9 (z:Int) (h1:0≤z) (h2:z<256):((UInt8.ofNat z.toNat).toNat:Int)=z:=by simp;omega
def Fw2 (v:Int) (j:Nat):v / 256 ^ j / 256=v / 256 ^ (j+1):=by rw [Int.pow_succ,Int.ediv_ediv_of_nonneg (Int.le_of_lt (Int.pow_pos (by decide)))]
def Gp7 (v:Int) (j:Nat) (h:0≤v):0≤v / 256 ^ j:=Int.ediv_nonneg h (Int.le_of_lt (Int.pow_pos (by decide)))
def Gp8 (v:Int) (j:Nat) (h:0≤v):v / 256 ^ j≤v:=Int.ediv_le_self _ h
end Go.X.G
/- Data of records: the wire form. -/
namespace Go.X.G
open Go Go.X
def mr {s:List UInt8} (h:L1 s=true):s.length≤63:=by
 unfold L1 at h;simp at h;rcases h with h|h
 ·simp [h]
 ·omega
def Z5:∀(r:List UInt8) (f:Bool) (cur:List UInt8) (l:List (List UInt8)),spl f cur r=some l→∀x∈l,L1 x=true
 |[],f,cur,l,h=>by simp [spl] at h;subst h;simp
 |c::r,f,cur,l,h=>by
  simp only [spl] at h;split at h
  ·split at h
   ·rename_i h2;obtain ⟨m,hm,rfl⟩:=Ax.1 h;intro x hx;simp at hx;rcases hx with rfl|hx
    ·exact h2.1
    ·exact Z5 r _ _ _ hm x hx
   ·cases h
  ·exact Z5 r _ _ _ h
def cq (n:List UInt8):∀x∈lbl n,L1 x=true:=by
 unfold lbl nm;split
 ·simp
 ·split
  ·cases h:spl true [] n with
   |none=>simp
   |some l=>simpa using Z5 _ _ _ _ h
  ·simp
def wireL (l:List (List UInt8)):List UInt8:=l.flatMap fun x=>be (x.length:Int) 1++x
def Jj (n:List UInt8):List UInt8:=wireL (lbl n)++be 0 1
def T8:∀(l:List (List UInt8)),(∀x∈l,L1 x=true)→(wireL l).length≤64*l.length
 |[],_=>by simp [wireL]
 |x::l,h=>by have h1:=mr (h x (by simp));have h2:=T8 l (fun y hy=>h y (by simp [hy]));simp only [wireL,Jr,Ab,E4,A5] at h2 ⊢;omega
def gw (n:List UInt8):(Jj n).length≤20000:=by have h1:=T8 (lbl n) (cq n);have h2:=Lk n;simp only [Jj,Ab,E4];omega
def bmV (set:Int) (i:Nat):Nat→Int
 |0=>0
 |j+1=>bmV set i j*2+bit set (i*8+j)
def Ef0 (set:Int) (t:Nat):0≤bit set t∧bit set t≤1:=by unfold bit;omega
def Ah9 (set:Int) (i:Nat):∀j,0≤bmV set i j∧bmV set i j<2 ^ j
 |0=>by simp [bmV]
 |j+1=>by have h1:=Ah9 set i j;have h2:=Ef0 set (i*8+j);simp only [bmV,Int.pow_succ];omega
def bmB (set:Int) (i:Nat):UInt8:=UInt8.ofNat (bmV set i 8).toNat
def bmL (set:Int):Nat→Nat
 |0=>0
 |i+1=>if bmV set i 8≠0 then i+1 else bmL set i
def Ed8 (set:Int):∀i,bmL set i≤i
 |0=>Af _
 |i+1=>by have:=Ed8 set i;simp only [bmL];split<;>omega
def bmap (set:Int):List UInt8:=((List.range 8).map (bmB set)).take (bmL set 8)
def Ah8 (set:Int):(bmap set).length≤8:=by simp [bmap];omega
def S2 (d:Dat):List UInt8:=if d.v6 then be d.hi 8++be d.lo 8 else be d.lo 4
def usd (t:Int) (d:Dat):Dat:=
 if t=1∨t=28 then ⟨d.v6,d.hi,d.lo,[],[],[],0,0,0,0,0,0,0⟩
 else if t=2∨t=5∨t=12∨t=39 then ⟨false,0,0,d.host,[],[],0,0,0,0,0,0,0⟩
 else if t=6 then ⟨false,0,0,d.host,d.mail,[],d.a,d.b,d.c,d.d,d.e,0,0⟩
 else if t=15 then ⟨false,0,0,d.host,[],[],d.a,0,0,0,0,0,0⟩
 else if t=16 then ⟨false,0,0,[],[],d.text,0,0,0,0,0,0,0⟩
 else if t=33 then ⟨false,0,0,d.host,[],[],d.a,d.b,d.c,0,0,0,0⟩
 else if t=43∨t=48 then ⟨false,0,0,[],[],d.text,d.a,d.b,d.c,0,0,0,0⟩
 else if t=46 then ⟨false,0,0,d.host,[],d.text,d.a,d.b,d.c,d.d,d.e,d.f,0⟩
 else ⟨false,0,0,d.host,[],[],0,0,0,0,0,0,d.bits⟩
end Go.X.G
/- Data of records: which are valid. -/
namespace Go.X.G
open Go Go.X
def Df (t:Int) (d:Dat):Bool:=
 if t=1 then Eh d && !d.v6
 else if t=28 then d.v6
 else if t=6 then Ik d.host && Ik d.mail && inB d.a 4294967295 && inB d.b 2147483647 && inB d.c 2147483647 && inB d.d 2147483647 && inB d.e 2147483647
 else if t=15 then Ik d.host && inB d.a 65535
 else if t=16 then decide (d.text.length≤255)
 else if t=33 then Ik d.host && inB d.a 65535 && inB d.b 65535 && inB d.c 65535
 else if t=43 then inB d.a 65535 && inB d.b 255 && inB d.c 255 && Jf d.text
 else if t=46 then knw d.a && decide (d.a≠46) && inB d.b 127 && inB d.c 2147483647 && inB d.d 4294967295 && inB d.e 4294967295 && inB d.f 65535 && Ik d.host && Jf d.text
 else if t=47 then vld d.host && decide (d.bits≠0) && Fz8 d.bits 0 64
 else if t=48 then (decide (d.a=256)||decide (d.a=257)) && decide (d.b=3) && inB d.c 255 && Jf d.text
 else Ik d.host
def Er (t:Int) (d:Dat):Bool:=knw t && decide (usd t d=d) && Df t d
def Kt (t:Int) (d:Dat):List UInt8:=
 if t=1∨t=28 then S2 d
 else if t=6 then Jj d.host++Jj d.mail++be d.a 4++be d.b 4++be d.c 4++be d.d 4++be d.e 4
 else if t=15 then be d.a 2++Jj d.host
 else if t=16 then be (d.text.length:Int) 1++d.text
 else if t=33 then be d.a 2++be d.b 2++be d.c 2++Jj d.host
 else if t=43∨t=48 then be d.a 2++be d.b 1++be d.c 1++d.text
 else if t=46 then be d.a 2++be 253 1++be d.b 1++be d.c 4++be d.d 4++be d.e 4++be d.f 2++Jj d.host++d.text
 else if t=47 then Jj d.host++be 0 1++be ((bmap d.bits).length:Int) 1++bmap d.bits
 else Jj d.host
def knw_cases {t:Int} (h:knw t=true):t=1∨t=2∨t=5∨t=6∨t=12∨t=15∨t=16∨t=28∨t=33∨t=39∨t=43∨t=46∨t=47∨t=48:=by simp [knw] at h;omega
def Dt7 (t:Int) (a b:Dat):Int:=
 if Er t a && Er t b then cmpS (Kt t a) (Kt t b) else if Er t a then -1 else if Er t b then 1 else 0
end Go.X.G
/- Lists of records: what the reference's functions give. -/
namespace Go.X.G
open Go Go.X
def Ql (r:Rec):Bool:=vld r.name && knw r.typ && decide (0≤r.ttl) && decide (r.ttl≤2147483647) && Er r.typ r.data
def Ag0 (a b:Int):Int:=if a<b then -1 else if b<a then 1 else 0
def Wr (a b:Rec):Int:=
 if Iy a.name b.name≠0 then Iy a.name b.name else if Ag0 a.typ b.typ≠0 then Ag0 a.typ b.typ else Dt7 a.typ a.data b.data
def isK (n:List UInt8) (t:Int) (r:Rec):Bool:=decide (r.name=n) && decide (r.typ=t)
def findR (l:List Rec) (n:List UInt8) (t:Int):List Rec:=l.filter (isK n t)
def Ek2 (l:List Rec) (n:List UInt8) (t:Int) (hl:l.length≤1000000):S Cw1 3 [Ag l, .s n, .i .i64 t]=some [Ag (findR l n t)]:=by
 refine Hy0 (N:=l.length+1) rfl ?_;have key:Ey5.ev S (l.length+1) [Ag l, .s n, .i .i64 t]=some (.yld 0 [Ag ([]++findR l n t)]):=by
  refine E8 l (fun i (g:List Rec)=>[Ag g, .i .i64 (i:Int)]) (fun i g r=> .yld 0 [Ag (g++findR r n t)]) (fun i g=>g.length≤i) [] rfl (Ct _) (by omega) (fun i g c r hd hi hc hI=> ?_) (fun g hI=> ?_)
  ·left;by_cases h:isK n t c=true
   ·refine ⟨g++[c],?_,by simp;omega,by simp [findR,h]⟩;simp [isK] at h;simp (disch:=omega) only [Bc2,hc,h.1,h.2,xe,EVP,EV,simprocAttr]
   ·refine ⟨g,?_,by omega,by simp [findR,h]⟩;simp [isK] at h;by_cases h1:c.name=n
    ·simp (disch:=omega) only [Bc2,hc,h1,h h1,xe,EVP,EV,simprocAttr]
    ·by_cases h2:c.typ=t<;>simp (disch:=omega) only [Bc2,hc,h1,h2,xe,EVP,EV,simprocAttr]
  ·simp (disch:=omega) only [Bc2,xe,EVP,EV,simprocAttr];simp [findR,Out.goes]
 simp (disch:=omega) only [Bc2,key,xe,EVP,EV,simprocAttr]
def pw (x:Rec):List Rec→List Rec
 |[]=>[x]
 |y::r=>if Wr y x<0 then y::pw x r else if Wr y x=0 then (if x.ttl<y.ttl then x::r else y::r) else x::y::r
def sortR (l:List Rec):List Rec:=l.foldl (fun acc x=>pw x acc) []
def insR_mem (x:Rec):∀(l:List Rec) (y:Rec),y∈pw x l→y=x∨y∈l
 |[],y,h=>by simp [pw] at h;exact .inl h
 |z::r,y,h=>by
  simp only [pw] at h;split at h
  ·simp at h;rcases h with h|h
   ·exact .inr (by simp [h])
   ·rcases insR_mem x r y h with h|h
    ·exact .inl h
    ·exact .inr (by simp [h])
  ·split at h
   ·split at h
    ·simp at h;rcases h with h|h
     ·exact .inl h
     ·exact .inr (by simp [h])
    ·exact .inr h
   ·simp at h;rcases h with h|h
    ·exact .inl h
    ·exact .inr (by simpa using h)
end Go.X.G
/- Zones: what the reference's check gives. -/
namespace Go.X.G
open Go Go.X
def En (n top:List UInt8):Bool:=decide (n≠top) && under n top
def m8 (l:List Rec) (n:List UInt8) (t:Int):Bool:=decide (0<(findR l n t).length)
def Qc (r x:Rec):Bool:=
 !decide (x.name=r.name)||(!(decide (x.typ=r.typ) && decide (r.typ≠46) && decide (x.ttl≠r.ttl)) && !(decide (x.typ=r.typ) && (decide (r.typ=6)||decide (r.typ=5)||decide (r.typ=39)) && decide (x≠r)) &&
  !(decide (r.typ=5) && decide (x.typ≠5) && decide (x.typ≠46) && decide (x.typ≠47)))
def d8 (z:Zone) (r:Rec):Bool:=z.recs.all (Qc r)
def Pn (z:Zone) (r x:Rec):Bool:=
 !(decide (x.typ=39) && En r.name x.name) && !(decide (x.typ=2) && En x.name z.origin && En r.name x.name && decide (r.typ≠1) && decide (r.typ≠28))
def ay (t:Int):Bool:=decide (t=2)||decide (t=43)||decide (t=47)||decide (t=46)||decide (t=1)||decide (t=28)
def Rw (z:Zone) (r:Rec):Bool:=
 if (lbl r.name)[0]? =some [42]∧(r.typ=2∨r.typ=39) then false
 else z.recs.all (Pn z r) && (if En r.name z.origin && m8 z.recs r.name 2 then ay r.typ else decide (r.typ≠43))
def Rv (z:Zone) (r:Rec):Bool:=under r.name z.origin && !(decide (r.typ=6) && decide (r.name≠z.origin)) && d8 z r && Rw z r
def Ip (z:Zone):Int:=
 if vld z.origin=false then 2
 else if 2048<z.recs.length then 9
 else if z.recs.all (fun r=>decide ((findR z.recs r.name r.typ).length≤64))=false then 9
 else if z.recs.all Ql=false then 5
 else if z.recs≠sortR z.recs then 7
 else if (findR z.recs z.origin 6).length≠1∨m8 z.recs z.origin 2=false then 13
 else if z.recs.all (Rv z)=false then 13
 else 0
end Go.X.G
/- The law LookupSoas. -/
namespace Go.X.G
open Go Go.X
def soaR (z:Zone):List Rec:=match findR z.recs z.origin 6 with
 |[]=>[]
 |r::_=>[{r with ttl:=if r.data.e<r.ttl then r.data.e else r.ttl}]
def zero:Dat:=⟨false,0,0,[],[],[],0,0,0,0,0,0,0⟩
end Go.X.G
/- The canonical order of names is a total order. -/
namespace Go.X.G
open Go Go.X
structure TO {α:Type} (lt:α→α→Prop):Prop where
 irr:∀a,¬lt a a
 tr:∀a b c,lt a b→lt b c→lt a c
 tri:∀a b,lt a b∨a=b∨lt b a
def TO.asym {α:Type} {lt:α→α→Prop} (h:TO lt) {a b:α} (h1:lt a b):¬lt b a:=fun h2=>h.irr a (h.tr _ _ _ h1 h2)
def TO.ntr {α:Type} {lt:α→α→Prop} (h:TO lt) {a b c:α} (h1:¬lt a b) (h2:¬lt b c):¬lt a c:=by
 intro h3;rcases h.tri b a with h4|h4|h4
 ·exact h2 (h.tr _ _ _ h4 h3)
 ·subst h4;exact h2 h3
 ·exact h1 h4
def lex {α:Type} (lt:α→α→Prop):List α→List α→Prop
 |[],[]=>False
 |[],_::_=>True
 |_::_,[]=>False
 |a::x,b::y=>lt a b∨(a=b∧lex lt x y)
def Cb2 {α:Type} {lt:α→α→Prop} (h:TO lt):∀x:List α,¬lex lt x x
 |[]=>by simp [lex]
 |a::x=>by simp only [lex,true_and,not_or];exact ⟨h.irr a,Cb2 h x⟩
def Ey2 {α:Type} {lt:α→α→Prop} (h:TO lt):∀x y z:List α,lex lt x y→lex lt y z→lex lt x z
 |[],[],_,h1,_=>by simp [lex] at h1
 |[],_::_,[],_,h2=>by simp [lex] at h2
 |[],_::_,_::_,_,_=>by simp [lex]
 |_::_,[],_,h1,_=>by simp [lex] at h1
 |_::_,_::_,[],_,h2=>by simp [lex] at h2
 |a::x,b::y,c::z,h1,h2=>by
  simp only [lex] at h1 h2 ⊢;rcases h1 with h1|⟨rfl,h1⟩
  ·rcases h2 with h2|⟨rfl,h2⟩
   ·exact .inl (h.tr _ _ _ h1 h2)
   ·exact .inl h1
  ·rcases h2 with h2|⟨rfl,h2⟩
   ·exact .inl h2
   ·exact .inr ⟨rfl,Ey2 h x y z h1 h2⟩
def lex_tri {α:Type} {lt:α→α→Prop} (h:TO lt):∀x y:List α,lex lt x y∨x=y∨lex lt y x
 |[],[]=> .inr (.inl rfl)
 |[],_::_=> .inl (by simp [lex])
 |_::_,[]=> .inr (.inr (by simp [lex]))
 |a::x,b::y=>by
  simp only [lex];rcases h.tri a b with h1|rfl|h1
  ·exact .inl (.inl h1)
  ·rcases lex_tri h x y with h2|rfl|h2
   ·exact .inl (.inr ⟨rfl,h2⟩)
   ·exact .inr (.inl rfl)
   ·exact .inr (.inr (.inr ⟨rfl,h2⟩))
  ·exact .inr (.inr (.inl h1))
def TO.lex {α:Type} {lt:α→α→Prop} (h:TO lt):TO (G.lex lt):=⟨Cb2 h,Ey2 h,lex_tri h⟩
def Hw6:TO (fun a b:UInt8=>a<b):=⟨fun a=>UInt8.lt_irrefl a,fun a b c h1 h2=>UInt8.lt_trans h1 h2,fun a b=>by
 rcases UInt8.lt_or_le a b with h|h
 ·exact .inl h
 ·rcases UInt8.lt_or_le b a with h2|h2
  ·exact .inr (.inr h2)
  ·exact .inr (.inl (UInt8.le_antisymm h2 h))⟩
abbrev ltB:List UInt8→List UInt8→Prop:=lex fun a b:UInt8=>a<b
def Dj8:TO ltB:=Hw6.lex
def Ww:∀a b:List UInt8,Op.bytesLess a b=true↔ltB a b
 |[],[]=>by simp [Op.bytesLess,lex]
 |[],_::_=>by simp [Op.bytesLess,lex]
 |_::_,[]=>by simp [Op.bytesLess,lex]
 |a::x,b::y=>by have ih:=Ww x y;simp only [Op.bytesLess,An,decide_eq_true_eq,Av,beq_iff_eq,lex];rw [ih]
def Tt (a b:List UInt8):cmpS a b<0↔ltB a b:=by
 rw [←Ww];unfold cmpS;cases h:Op.bytesLess a b
 ·simp only [Ad,if_false,iff_false];split<;>omega
 ·simp
abbrev ltL:List (List UInt8)→List (List UInt8)→Prop:=lex ltB
def to_L:TO ltL:=Dj8.lex
def Bx3 (a b:List (List UInt8)):Int:=match Wp a b with
 |some c=>c
 |none=>if a.length<b.length then -1 else if b.length<a.length then 1 else 0
def Ag2:∀a b:List (List UInt8),Bx3 a b<0↔ltL a b
 |[],[]=>by simp [Bx3,Wp,lex]
 |[],_::_=>by simp [Bx3,Wp,lex]
 |_::_,[]=>by simp [Bx3,Wp,lex]
 |x::xs,y::ys=>by
  have ih:=Ag2 xs ys;simp only [Bx3,Wp,lex] at ih ⊢;by_cases h:x=y
  ·subst h;rw [if_pos rfl];simp only [A5,Nat.add_lt_add_iff_right,true_and];rw [ih];constructor
   ·exact fun h=> .inr h
   ·rintro (h|h)
    ·exact absurd h (Dj8.irr x)
    ·exact h
  ·rw [if_neg h];simp only;rw [Tt];simp [h]
def vw (a b:List (List UInt8)):Bx2 a b=Bx3 a.reverse b.reverse:=by unfold Bx2 Bx3;cases Wp a.reverse b.reverse<;>simp
def Cm7 (a b:List (List UInt8)):Bx2 a b<0↔ltL a.reverse b.reverse:=by rw [←Ag2,vw]
def ltN (a b:List UInt8):Prop:=if vld a=true then (if vld b=true then ltL (lbl a).reverse (lbl b).reverse else True) else (if vld b=true then False else ltB a b)
def Eg (a b:List UInt8):Iy a b<0↔ltN a b:=by
 unfold ltN;rcases Ak (vld a) with ha|ha
 ·rcases Ak (vld b) with hb|hb
  ·rw [dl ha hb,Cm7,if_pos ha,if_pos hb]
  ·unfold Iy;simp [ha,hb]
 ·rcases Ak (vld b) with hb|hb
  ·unfold Iy;simp [ha,hb]
  ·have e:Iy a b=cmpS a b:=by unfold Iy;simp [ha,hb]
   rw [e,Tt];simp [ha,hb]
def to_N:TO ltN:=by
 refine ⟨fun a h=> ?_,fun a b c h1 h2=> ?_,fun a b=> ?_⟩
 ·unfold ltN at h;split at h
  ·exact to_L.irr _ h
  ·exact Dj8.irr _ h
 ·unfold ltN at*;rcases Ak (vld a) with ha|ha<;>rcases Ak (vld b) with hb|hb<;>rcases Ak (vld c) with hc|hc<;>
   simp only [ha,hb,hc,if_true,Ad,if_false] at h1 h2 ⊢
  ·exact to_L.tr _ _ _ h1 h2
  ·exact Dj8.tr _ _ _ h1 h2
 ·unfold ltN;rcases Ak (vld a) with ha|ha<;>rcases Ak (vld b) with hb|hb<;>simp only [ha,hb,if_true,Ad,if_false]
  ·rcases to_L.tri (lbl a).reverse (lbl b).reverse with h|h|h
   ·exact .inl h
   ·exact .inr (.inl (Lq ha hb (List.reverse_inj.1 h)))
   ·exact .inr (.inr h)
  ·simp
  ·simp
  ·exact Dj8.tri a b
def Hr {a b:List UInt8}:Iy a b=0↔a=b:=by
 constructor
 ·intro h;rcases Ak (vld a) with ha|ha
  ·rcases Ak (vld b) with hb|hb
   ·rw [dl ha hb] at h;have key:∀x y:List (List UInt8),Bx3 x y=0→x=y:=by
     intro x
     induction x with
     |nil=>intro y hy;cases y with
      |nil=>rfl
      |cons=>simp [Bx3,Wp] at hy
     |cons x xs ih=>intro y hy;cases y with
      |nil=>simp [Bx3,Wp] at hy
      |cons y ys=>
       simp only [Bx3,Wp] at hy ih;by_cases e:x=y
       ·subst e;rw [if_pos rfl] at hy;simp only [A5,Nat.add_lt_add_iff_right] at hy;rw [ih ys hy]
       ·rw [if_neg e] at hy;exact absurd (Jz.1 hy) e
    rw [vw] at h;exact Lq ha hb (List.reverse_inj.1 (key _ _ h))
   ·unfold Iy at h;simp [ha,hb] at h
  ·rcases Ak (vld b) with hb|hb
   ·unfold Iy at h;simp [ha,hb] at h
   ·have e:Iy a b=cmpS a b:=by unfold Iy;simp [ha,hb]
    rw [e] at h;exact Jz.1 h
 ·rintro rfl;have h1:=Eg a a;have h2:¬Iy a a<0:=fun h=>to_N.irr a (h1.1 h);have key:∀x:List (List UInt8),Bx3 x x=0:=by
   intro x
   induction x with
   |nil=>rfl
   |cons x xs ih=>
    simp only [Bx3,Wp] at ih ⊢;simp only [if_true,A5,Nat.add_lt_add_iff_right];exact ih
  rcases Ak (vld a) with ha|ha
  ·rw [dl ha ha];rw [vw];exact key _
  ·have e:Iy a a=cmpS a a:=by unfold Iy;simp [ha]
   rw [e];exact Jz.2 rfl
end Go.X.G
/- Sorted lists of names, each once. -/
namespace Go.X.G
open Go Go.X
def Tq {α:Type} (e:α→α→Bool):α→List α→List α
 |_,[]=>[]
 |p,c::r=>if e c p=true then Tq e c r else c::Tq e c r
def cpt {α:Type} (e:α→α→Bool):List α→List α
 |[]=>[]
 |x::r=>x::Tq e x r
def oq {α:Type} (e:α→α→Bool) (c:α):∀(r:List α) (p:α),Tq e p (r++[c])=Tq e p r++(if e c ((p::r).getLast (by simp))=true then [] else [c])
 |[],p=>by simp only [Ch,Tq,List.getLast_singleton];rfl
 |x::r,p=>by
  have ih:=oq e c r x;simp only [B8,Tq,List.getLast_cons_cons];split
  ·exact ih
  ·rw [ih];rfl
def Nh {α:Type} (e:α→α→Bool) (c:α) (l:List α) (h:l≠[]):cpt e (l++[c])=cpt e l++(if e c (l.getLast h)=true then [] else [c]):=by
 cases l with
 |nil=>exact absurd rfl h
 |cons x r=>
  show x::Tq e x (r++[c])=_;rw [oq];rfl
def Af2 {α:Type} (e:α→α→Bool):∀(r:List α) (p:α),(Tq e p r).length≤r.length
 |[],_=>by simp [Tq]
 |c::r,p=>by have:=Af2 e r c;simp only [Tq];split<;>simp<;>omega
def dc {α:Type} (e:α→α→Bool) (l:List α):(cpt e l).length≤l.length:=by
 cases l with
 |nil=>simp [cpt]
 |cons x r=>have:=Af2 e r x;simp [cpt];exact this
def df {α:Type} (e:α→α→Bool):∀(r:List α) (p:α),∀x∈Tq e p r,x∈r
 |[],_,x,h=>by simp [Tq] at h
 |c::r,p,x,h=>by
  simp only [Tq] at h;split at h
  ·exact .tail _ (df e r c x h)
  ·rcases Am.1 h with rfl|h
   ·exact .head _
   ·exact .tail _ (df e r c x h)
def Fw4 {α:Type} (e:α→α→Bool) (l:List α):∀x∈cpt e l,x∈l:=by
 cases l with
 |nil=>intro x h;simp [cpt] at h
 |cons y r=>
  intro x h;rcases Am.1 (show x∈y::Tq e y r from h) with rfl|h
  ·exact .head _
  ·exact .tail _ (df e r y x h)
abbrev eqs {α:Type} [DecidableEq α]:α→α→Bool:=fun a b=>decide (a=b)
def cptG_mem {α:Type} [DecidableEq α]:∀(r:List α) (p x:α),x∈r→x=p∨x∈Tq eqs p r
 |[],_,x,h=>by simp at h
 |c::r,p,x,h=>by
  simp only [Tq];by_cases hc:c=p
  ·subst hc;rw [if_pos (by simp [eqs])];rcases Am.1 h with rfl|h
   ·exact .inl rfl
   ·exact cptG_mem r c x h
  ·rw [if_neg (by simp [eqs,hc])];right;rcases Am.1 h with rfl|h
   ·exact .head _
   ·rcases cptG_mem r c x h with rfl|h
    ·exact .head _
    ·exact .tail _ h
def Fw5 {α:Type} [DecidableEq α] (l:List α) (x:α):x∈cpt eqs l↔x∈l:=by
 refine ⟨Fw4 _ l x,fun h=> ?_⟩;cases l with
 |nil=>simp at h
 |cons y r=>
  rcases Am.1 h with rfl|h
  ·exact .head _
  ·rcases cptG_mem r y x h with rfl|h
   ·exact .head _
   ·exact .tail _ h
def V5 {α:Type} [DecidableEq α] {lt:α→α→Prop} (ht:TO lt):∀(r:List α) (p:α),(p::r).Pairwise (fun a b=>¬lt b a)→(p::Tq eqs p r).Pairwise lt
 |[],p,_=>by simp [Tq]
 |c::r,p,h=>by
  rw [A0] at h;have ih:=V5 ht r c h.2;simp only [Tq];by_cases hc:c=p
  ·subst hc;rw [if_pos (by simp [eqs])];exact ih
  ·rw [if_neg (by simp [eqs,hc])];rw [A0];refine ⟨fun x hx=> ?_,ih⟩;have hpc:lt p c:=by
    rcases ht.tri p c with h1|h1|h1
    ·exact h1
    ·exact absurd h1.symm hc
    ·exact absurd h1 (h.1 c (.head _))
   rcases Am.1 hx with rfl|hx
   ·exact hpc
   ·exact ht.tr _ _ _ hpc ((A0.1 ih).1 x hx)
def Bw9 {α:Type} [DecidableEq α] {lt:α→α→Prop} (ht:TO lt) (l:List α) (h:l.Pairwise (fun a b=>¬lt b a)):(cpt eqs l).Pairwise lt:=by
 cases l with
 |nil=>simp [cpt]
 |cons x r=>exact V5 ht r x h
def Ug {α:Type} {lt:α→α→Prop} (ht:TO lt):∀(a b:List α),a.Pairwise lt→b.Pairwise lt→(∀x,x∈a↔x∈b)→a=b
 |[],[],_,_,_=>rfl
 |[],y::b,_,_,h=>absurd ((h y).2 (.head _)) (by simp)
 |x::a,[],_,_,h=>absurd ((h x).1 (.head _)) (by simp)
 |x::a,y::b,ha,hb,h=>by
  rw [A0] at ha hb;have hxy:x=y:=by
   rcases Am.1 ((h x).1 (.head _)) with h1|h1
   ·exact h1
   ·rcases Am.1 ((h y).2 (.head _)) with h2|h2
    ·exact h2.symm
    ·exact absurd (hb.1 x h1) (ht.asym (ha.1 y h2))
  subst hxy;rw [Ug ht a b ha.2 hb.2 fun z=> ?_];constructor
  ·intro hz;rcases Am.1 ((h z).1 (.tail _ hz)) with rfl|h1
   ·exact absurd (ha.1 z hz) (ht.irr z)
   ·exact h1
  ·intro hz;rcases Am.1 ((h z).2 (.tail _ hz)) with rfl|h1
   ·exact absurd (hb.1 z hz) (ht.irr z)
   ·exact h1
def setN (l:List (List UInt8)):List (List UInt8):=cpt eqs (l.mergeSort fun x y=> !decide (Iy y x<0))
def Es0 (l:List (List UInt8)):(l.mergeSort fun x y=> !decide (Iy y x<0)).Pairwise (fun a b=>¬ltN b a):=by
 have:=List.pairwise_mergeSort (le:=fun x y:List UInt8=> !decide (Iy y x<0)) (fun a b c h1 h2=>by
  simp only [A6,decide_eq_false_iff_not,Eg] at h1 h2 ⊢;exact to_N.ntr h2 h1) (fun a b=>by
  simp only [An,A6,decide_eq_false_iff_not,Eg];rcases to_N.tri a b with h|h|h
  ·exact .inl (to_N.asym h)
  ·subst h;exact .inl (to_N.irr a)
  ·exact .inr (to_N.asym h)) l
 refine this.imp fun {a b} h=> ?_;simpa only [A6,decide_eq_false_iff_not,Eg] using h
def Jk (l:List (List UInt8)):(setN l).Pairwise ltN:=Bw9 to_N _ (Es0 l)
def K4 (l:List (List UInt8)) (x:List UInt8):x∈setN l↔x∈l:=by unfold setN;rw [Fw5];exact (List.mergeSort_perm _ _).mem_iff
def Tc (l:List (List UInt8)):(setN l).length≤l.length:=by have:=dc eqs (l.mergeSort fun x y=> !decide (Iy y x<0));rw [pg] at this;exact this
end Go.X.G
/- Records that go out of a list. -/
namespace Go.X.G
open Go Go.X
def i8 {step:List PV→Option Out} {id:Nat} {α:Type} (st:α→List PV) (Q:Out→Prop) (I:α→Prop) (μ:α→Nat)
  (h:∀a,I a→(∃b,step (st a)=some (.yld id (st b))∧I b∧μ b<μ a)∨∃o,step (st a)=some o∧o.goes id=false∧Q o):
  ∀(n:Nat) (a:α),I a→μ a<n→∃o,Gp step id n (st a)=some o∧Q o
 |0,a,_,hn=>by omega
 |n+1,a,ha,hn=>by
  simp only [Gp];rcases h a ha with ⟨b,h1,h2,h3⟩|⟨o,h1,h2,h3⟩
  ·rw [h1];simp only [Az,if_true];exact i8 st Q I μ h n b h2 (by omega)
  ·rw [h1];refine ⟨o,?_,h3⟩;simp only [Az];cases o with
   |ret vs=>rfl
   |yld j vs=>
    simp only [Out.goes,beq_eq_false_iff_ne,ne_eq] at h2;simp only [];rw [if_neg h2]
def Hl {fn:Fns} {N:Nat} {η:List PV} {id:Nat} {init:List E} {body:T} {α:Type} (st:α→List PV) (Q:Out→Prop) (I:α→Prop) (μ:α→Nat) (a0:α)
  (h0:E.evs η init=some (st a0)) (hI:I a0) (hN:μ a0<N)
  (h:∀a,I a→(∃b,body.ev fn N (η++st a)=some (.yld id (st b))∧I b∧μ b<μ a)∨∃o,body.ev fn N (η++st a)=some o∧o.goes id=false∧Q o):
  ∃o,(T.loop id init body).ev fn N η=some o∧Q o:=by
 simp only [T.ev,h0,Az];exact i8 st Q I μ h N a0 hI hN
abbrev zr:Rec:=⟨[],0,0,⟨false,0,0,[],[],[],0,0,0,0,0,0,0⟩⟩
abbrev zk:PV:=Rec.pv ⟨[],0,0,⟨false,0,0,[],[],[],0,0,0,0,0,0,0⟩⟩
def Gh7 (p:Rec→Bool):∀(l:List Rec) (k:Nat),ixF p k l=ixG p k l
 |[],_=>rfl
 |r::rs,k=>by simp only [ixF,ixG,Gh7 p rs]
def Xk (l:List Rec) (g:Nat) (caps:List PV) (p:Rec→Bool) (hl:l.length≤1000000) (h:∀r∈l,S g 1 (r.pv::caps)=some [.b (p r)]):S s8 2 [Ag l, .f g caps]=some [.i .i64 (ixG p 0 l)]:=by rw [←Gh7];exact Qf l g caps p hl h
def Az1 (n:Int) (h0:0≤n) (h1:n≤1073741824):L0 16 (.i .i64 n) zk=some (Ag (List.replicate n.toNat zr)):=by
 have h2:n≤(LIM:Int):=by simp only [LIM];omega
 have h3:zk.cells.length=16:=rfl;simp only [L0,h0,h2,h3,and_self,if_true];simp [Ag,Rec.pv,Rec.cells,Dat.cells]
def Zz (l:List Rec) (g:Nat) (caps:List PV) (p:Rec→Bool) (hl:l.length≤1000000) (h:∀r∈l,S g 1 (r.pv::caps)=some [.b (p r)]):S bg 1048578 [Ag l, .f g caps]=some [Ag (l.filter fun x=> !p x)]:=by
 refine Hz6 (N:=l.length+1) rfl ?_;have h0:=Xk l g caps p hl h;have hany:=(uw p l 0);by_cases hneg:ixG p 0 l= -1
 ·have hf:l.any p=false:=by
   rcases Ak (l.any p) with h1|h1
   ·have:=hany.1.2 h1;omega
   ·exact h1
  have e:l.filter (fun x=> !p x)=l:=Kl p (fun x hx=>by rw [List.any_eq_false] at hf;simpa using hf x hx);rw [hneg] at h0;rw [e];simp (disch:=omega) only [Bc6,h0,EVT,EVM,EVC,xe,EVP,EV,simprocAttr]
 ·obtain ⟨j0,g1,g2,g3,x0,g4,g5⟩:=mm p l 0 (by have:=hany.2.2;omega);rw [g1] at h0;simp only [Ek] at h0;have key:∃s:List Rec,s.length=l.length∧s.take (l.filter fun x=> !p x).length=l.filter (fun x=> !p x)∧Ez3.ev S (l.length+1) [Ag l, .f g caps, .i .i64 (j0:Int)]=some (.yld 0 [.i .i64 (((l.filter fun x=> !p x).length:Nat):Int),Ag s]):=by
   let nx:Nat×Nat×List Rec→Nat×Nat×List Rec:=fun a=>match l[a.2.1]? with
    |some c=>if p c=true then (a.1,a.2.1+1,a.2.2) else (a.1+1,a.2.1+1,a.2.2.set a.1 c)
    |none=>a
   let fin:Nat→Nat×Nat×List Rec→Nat×Nat×List Rec:=fun n a=>Nat.rec a (fun _ b=>nx b) n;have fin_s:∀n a,fin (n+1) a=nx (fin n a):=fun _ _=>rfl;have fin_c:∀n a,fin (n+1) a=fin n (nx a):=by
    intro n
    induction n with
    |zero=>intro a;rfl
    |succ n ih=>intro a;exact congrArg nx (ih a)
   let I:Nat×Nat×List Rec→Prop:=fun a=>a.1<a.2.1∧a.2.1≤l.length∧a.2.2.length=l.length∧a.2.2.take a.1=(l.take a.2.1).filter (fun x=> !p x)∧a.2.2.drop a.2.1=l.drop a.2.1;have I_nx:∀a,I a→a.2.1<l.length→I (nx a)∧(nx a).2.1=a.2.1+1:=by
    rintro ⟨i,j,s⟩ ⟨i1,i2,i3,i4,i5⟩ hj;simp only at i1 i2 i3 i4 i5 hj;have hc:l[j]? =some l[j]:=Ay hj;have ht:l.take (j+1)=l.take j++[l[j]]:=by rw [Cq,hc];rfl
    have hdrop:s.drop (j+1)=l.drop (j+1):=by rw [←Cf (i:=1) (j:=j),i5,Cf]
    have hlen:i=((l.take j).filter fun x=> !p x).length:=by rw [←i4,Ap];omega
    simp only [nx,hc];rcases Ak (p l[j]) with h1|h1
    ·simp only [h1,if_true];refine ⟨⟨by simp only;omega,by simp only;omega,i3,?_,hdrop⟩,trivial⟩;simp only;rw [ht,D7,i4];simp [h1]
    ·simp only [h1,Ad,if_false];refine ⟨⟨by simp only;omega,by simp only;omega,by simpa using i3,?_,?_⟩,trivial⟩
     ·simp only;rw [ht,D7,←i4,Cq,Zd (by omega),List.take_set_of_le (by omega)];simp [h1]
     ·simp only;rw [Tw (by omega),hdrop]
   have I_fin:∀n a,I a→a.2.1+n≤l.length→I (fin n a)∧(fin n a).2.1=a.2.1+n:=by
    intro n
    induction n with
    |zero=>intro a ha _;exact ⟨ha,rfl⟩
    |succ n ih=>
     intro a ha hn;obtain ⟨q1,q2⟩:=ih a ha (by omega);obtain ⟨q3,q4⟩:=I_nx _ q1 (by omega);rw [fin_s];exact ⟨q3,by rw [q4,q2];omega⟩
   have I0:I (j0,j0+1,l):=by refine ⟨by simp only;omega,by simp only;omega,rfl,?_,rfl⟩;simp only;rw [Cq,g4,D7,Kl p g3];simp [g5]
   obtain ⟨z1,z2⟩:=I_fin (l.length - (j0+1)) (j0,j0+1,l) I0 (by simp only;omega);simp only at z2;refine ⟨(fin (l.length - (j0+1)) (j0,j0+1,l)).2.2,z1.2.2.1,?_,?_⟩
   ·have q:=z1.2.2.2.1;have e1:(fin (l.length - (j0+1)) (j0,j0+1,l)).2.1=l.length:=by rw [z2];omega
    rw [e1,Dq] at q;rw [←q,Ap,z1.2.2.1];have:=z1.1;rw [J9 (by omega)]
   ·have hlen:(fin (l.length - (j0+1)) (j0,j0+1,l)).1=(l.filter fun x=> !p x).length:=by
     have q:=z1.2.2.2.1;have e1:(fin (l.length - (j0+1)) (j0,j0+1,l)).2.1=l.length:=by rw [z2];omega
     rw [e1,Dq] at q;have q2:=congrArg List.length q;have:=z1.1;rw [Ap,z1.2.2.1,J9 (by omega)] at q2;exact q2
    refine Eq.trans (Kb (α:=Nat×Nat×List Rec) (fun a=>[.i .i64 (a.1:Int), .i .i64 (a.2.1:Int),Ag a.2.2]) (fun a=> .yld 0 [.i .i64 ((fin (l.length - a.2.1) a).1:Int),Ag (fin (l.length - a.2.1) a).2.2]) I (fun a=>l.length - a.2.1) (j0,j0+1,l) ?_ I0 (by simp only;omega) ?_) ?_
    ·simp (disch:=omega) only [EVT,EVM,EVC,xe,EVP,EV,simprocAttr]
    ·rintro ⟨i,j,s⟩ hI;obtain ⟨i1,i2,i3,i4,i5⟩:=hI;simp only at i1 i2 i3 i4 i5;by_cases hj:j<l.length
     ·left;have hc:l[j]? =some l[j]:=Ay hj;have hsc:s[j]? =some l[j]:=by have:=congrArg (fun q=>q[0]?) i5;simpa [A8,hc] using this
      have hsi:∃y,s[i]? =some y:=⟨_,Ay (by omega)⟩;obtain ⟨y,hsi⟩:=hsi;obtain ⟨q3,q4⟩:=I_nx (i,j,s) ⟨i1,i2,i3,i4,i5⟩ hj;have hp:=h l[j] (Dd hj);refine ⟨nx (i,j,s),?_,q3,by rw [q4];simp only;omega,?_⟩
      ·have hjs:(j:Int)<(s.length:Int):=by omega
       rcases Ak (p l[j]) with h1|h1
       ·rw [h1] at hp;simp only [nx,hc,h1,if_true];simp (disch:=omega) only [Bc6,hjs,hsc,hp,EVT,EVM,EVC,xe,EVP,EV,simprocAttr]
       ·rw [h1] at hp;simp only [nx,hc,h1,Ad,if_false];simp (disch:=omega) only [Bc6,hjs,hsc,hsi,hp,EVT,EVM,EVC,xe,EVP,EV,simprocAttr]
      ·have e1:l.length - j=(l.length - (j+1))+1:=by omega
       rw [q4];simp only;rw [e1,fin_c]
     ·right;have hjs:¬(j:Int)<(s.length:Int):=by omega
      have e1:l.length - j=0:=by omega
      simp only [e1];simp (disch:=omega) only [Bc6,hjs,EVT,EVM,EVC,xe,EVP,EV,simprocAttr];exact ⟨rfl,rfl⟩
    ·simp only;rw [hlen]
  obtain ⟨s,hs1,hs2,key⟩:=key;have hle:(l.filter fun x=> !p x).length≤l.length:=Dw _ _;have e0:¬((j0:Int)= -1):=by omega
  generalize (l.filter fun x=> !p x)=fl at*;have hsl1:Hh 16 (Ag s) (.i .i64 ((fl.length:Nat):Int)) (.i .i64 (s.length:Int))=some (Ag (s.drop fl.length)):=by rw [Hg _ _ _ _ _ (by omega) (by omega) (by omega)];simp
  have hsl2:Hh 16 (Ag s) (.i .i64 0) (.i .i64 ((fl.length:Nat):Int))=some (Ag fl):=by rw [Hg _ _ _ _ _ (by omega) (by omega) (by omega)];simp [hs2]
  have hrep:L0 16 (.i .i64 ((s.length:Int) - (fl.length:Int))) zk=some (Ag (List.replicate (s.length - fl.length) zr)):=by rw [Az1 _ (by omega) (by omega)];congr 3;omega
  have happ:Ih 16 (Ag fl) (Ag (List.replicate (s.length - fl.length) zr))=some (Ag (fl++List.replicate (s.length - fl.length) zr)):=T2 _ _ (by simp;omega);have hsl3:Hh 16 (Ag (fl++List.replicate (s.length - fl.length) zr)) (.i .i64 0) (.i .i64 ((fl.length:Nat):Int))=some (Ag fl):=by rw [Hg _ _ _ _ _ (by omega) (by omega) (by simp;omega)];simp
  simp (disch:=omega) only [Bc6,h0,e0,key,hsl1,hsl2,hrep,happ,hsl3,EVT,EVM,EVC,xe,EVP,EV,simprocAttr]
def Fx0:PV→PV→Int
 | .s a, .s b=>Iy a b
 |_,_=>0
def fq (l:List (List UInt8)) (hl:l.length≤1000000) (hs:∀x∈l,x.length≤9223372036854775807):S bd 1048578 [Bn l, .f Oc []]=some [Bn (l.mergeSort fun x y=> !decide (Iy y x<0))]:=by
 have hm:∀x∈l.map PV.s,∃a∈l,x= .s a:=fun x hx=>by obtain ⟨a,h1,h2⟩:=Dj.1 hx;exact ⟨a,h1,h2.symm⟩
 have h:=Ay6 (tab:=tab) (xs:=Fk6) (ss:=Wt) (f:=bd) (s:=Ew5) Fl9 Fm4 (g:=Oc) (caps:=[]) (l:=l.map PV.s) (by decide) (by simp;omega)
  (fun x hx=>by obtain ⟨a,_,rfl⟩:=hm x hx;rfl) Fx0
  (fun x hx y hy=>by obtain ⟨a,ha,rfl⟩:=hm x hx;obtain ⟨b,hb,rfl⟩:=hm y hy;exact H4 a b (hs a ha) (hs b hb))
  (fun x hx=>by obtain ⟨a,_,rfl⟩:=hm x hx;show¬Iy a a<0;rw [Eg];exact to_N.irr a)
  (fun x hx y hy z hz h1 h2=>by obtain ⟨a,_,rfl⟩:=hm x hx;obtain ⟨b,_,rfl⟩:=hm y hy;obtain ⟨c,_,rfl⟩:=hm z hz;exact (Eg a c).2 (to_N.tr _ _ _ ((Eg a b).1 h1) ((Eg b c).1 h2)))
  (fun x hx y hy z hz h1 h2=>by obtain ⟨a,_,rfl⟩:=hm x hx;obtain ⟨b,_,rfl⟩:=hm y hy;obtain ⟨c,_,rfl⟩:=hm z hz;exact fun h3=>to_N.ntr (fun q=>h1 ((Eg a b).2 q)) (fun q=>h2 ((Eg b c).2 q)) ((Eg a c).1 h3))
  (fun x hx y hy h1 h2=>by
   obtain ⟨a,_,rfl⟩:=hm x hx;obtain ⟨b,_,rfl⟩:=hm y hy;rcases to_N.tri a b with q|q|q
   ·exact absurd ((Eg a b).2 q) h1
   ·rw [q]
   ·exact absurd ((Eg b a).2 q) h2)
 have e:(l.map PV.s).mergeSort (fun x y=> !decide (Fx0 y x<0))=(l.mergeSort fun x y=> !decide (Iy y x<0)).map PV.s:=(Hj5 (r:=fun x y=> !decide (Iy y x<0)) (s:=fun x y=> !decide (Fx0 y x<0)) (f:=PV.s) fun a _ b _=>rfl).symm;rw [e] at h;exact h
def Om (l:List (List UInt8)) (hl:l.length≤1000000):S U3 1048577 [Bn l]=some [Bn (cpt eqs l)]:=by
 refine Gk9 (N:=l.length+2) rfl ?_;by_cases h2:(l.length:Int)<2
 ·have e:cpt eqs l=l:=by
   match l,h2 with
   |[],_=>rfl
   |[x],_=>rfl
   |_::_::_,h=>simp at h;omega
  rw [e];simp (disch:=omega) only [Pk,h2,EVT,EVM,EVC,xe,EVP,EV,simprocAttr]
 ·-- the inner Gp, from a place where two neighbours are equal
  have inner:∀k:Nat,1≤k→k<l.length→cpt eqs (l.take (k+1))=l.take k→∃s:List (List UInt8),s.length=l.length∧s.take (cpt eqs l).length=cpt eqs l∧Cc7.ev S (l.length+2) [Bn l, .i .i64 (k:Int),Bn l]=some (.yld 2 [.i .i64 ((cpt eqs l).length:Int),Bn s]):=by
   intro k hk1 hk hcp;have key:=Hl (fn:=S) (N:=l.length+2) (η:=[Bn l, .i .i64 (k:Int),Bn l]) (id:=3) (init:=[(.v 1),(.c (.i .i64 (1))),(.v 2)]) (body:=xp) (α:=Nat×Nat×List (List UInt8))
    (fun a=>[.i .i64 (a.1:Int), .i .i64 (a.2.1:Int),Bn a.2.2])
    (fun o=>∃s:List (List UInt8),s.length=l.length∧s.take (cpt eqs l).length=cpt eqs l∧o= .yld 2 [.i .i64 ((cpt eqs l).length:Int),Bn s])
    (fun a=>1≤a.2.1∧k+a.2.1≤l.length∧a.1<k+a.2.1∧a.2.2.length=l.length∧a.2.2.take a.1=cpt eqs (l.take (k+a.2.1))∧(cpt eqs (l.take (k+a.2.1))).length=a.1∧a.2.2.drop (k+a.2.1 - 1)=l.drop (k+a.2.1 - 1))
    (fun a=>l.length - a.2.1) (k,1,l) (by simp (disch:=omega) only [EVT,EVM,EVC,xe,EVP,EV,simprocAttr])
    ⟨by simp,by simp;omega,by simp,rfl,by simp only;rw [hcp],by simp only;rw [hcp,Ap];omega,rfl⟩ (by simp only;omega) ?_
   ·obtain ⟨o,h3,s,h4,h5,rfl⟩:=key;exact ⟨s,h4,h5,h3⟩
   ·rintro ⟨i,j,s⟩ ⟨a1,a2,a3,a4,a5,a6,a7⟩;simp only at a1 a2 a3 a4 a5 a6 a7;by_cases hj:k+j<l.length
    ·left;have c1:s[k+j]? =l[k+j]? :=by have:=congrArg (fun q=>q[1]?) a7;simp only [A8] at this;rwa [show k+j - 1+1=k+j by omega] at this
     have c0:s[k+j - 1]? =l[k+j - 1]? :=by have:=congrArg (fun q=>q[0]?) a7;simpa only [A8,Dz] using this
     have g1:l[k+j]? =some (l[k+j]'hj):=Ay hj;have g0:l[k+j - 1]? =some (l[k+j - 1]'(by omega)):=Ay (by omega);have tk:l.take (k+(j+1))=l.take (k+j)++[l[k+j]'hj]:=by rw [show k+(j+1)=(k+j)+1 by omega,Cq,g1];rfl
     have ne:l.take (k+j)≠[]:=by intro h;have:=congrArg List.length h;rw [Ap,Bf] at this;omega
     have gl:(l.take (k+j)).getLast ne=l[k+j - 1]'(by omega):=by rw [Jn];simp only [zj,Ap];congr 1;omega
     have cs:=Nh eqs (l[k+j]'hj) (l.take (k+j)) ne;rw [←tk,gl] at cs;generalize l[k+j]'hj=x at*;generalize l[k+j - 1]'(by omega)=y at*;have hjj:(j:Int)<(s.length:Int) - (k:Int):=by omega
     have i1:Ht 1 (Bn s) (.i .i64 ((k:Int)+(j:Int)))=some (.s x):=by rw [Nf _ _ _ (by omega),show ((k:Int)+(j:Int)).toNat=k+j by omega,c1,g1];rfl
     have i0:Ht 1 (Bn s) (.i .i64 ((k:Int)+((j:Int) - 1)))=some (.s y):=by rw [Nf _ _ _ (by omega),show ((k:Int)+((j:Int) - 1)).toNat=k+j - 1 by omega,c0,g0];rfl
     have ls:Hh 1 (Bn s) (.i .i64 (k:Int)) (.i .i64 (s.length:Int))=some (Bn (s.drop k)):=by rw [Nz _ _ _ _ _ (by omega) (by omega) (by omega)];simp
     have e1:(s.drop k)[j]? =some x:=by rw [A8,c1,g1]
     have e0:(s.drop k)[j - 1]? =some y:=by rw [A8,show k+(j - 1)=k+j - 1 by omega,c0,g0]
     have si:∃w,s[i]? =some w:=⟨_,Ay (by omega)⟩;obtain ⟨w,si⟩:=si;have ej:((j:Int) - 1).toNat=j - 1:=by omega
     by_cases hxy:x=y
     ·refine ⟨(i,j+1,s),?_,⟨by simp,by simp only;omega,by simp only;omega,a4,?_,?_,?_⟩,by simp only;omega⟩
      ·simp (disch:=omega) only [Pk,hjj,i1,i0,ls,e1,e0,ej,hxy,EVT,EVM,EVC,xe,EVP,EV,simprocAttr]
      ·simp only;rw [cs,a5];simp [eqs,hxy]
      ·simp only;rw [cs,Ab,a6];simp [eqs,hxy]
      ·simp only;rw [show k+(j+1) - 1=(k+j - 1)+1 by omega,←Cf,←Cf,a7]
     ·refine ⟨(i+1,j+1,s.set i x),?_,⟨by simp,by simp only;omega,by simp only;omega,by simpa using a4,?_,?_,?_⟩,by simp only;omega⟩
      ·simp (disch:=omega) only [Pk,hjj,i1,i0,ls,e1,e0,ej,si,hxy,EVT,EVM,EVC,xe,EVP,EV,simprocAttr]
      ·simp only;rw [cs,Cq,Zd (by omega),List.take_set_of_le (by omega),a5];simp [eqs,hxy]
      ·simp only;rw [cs,Ab,a6];simp [eqs,hxy]
      ·simp only;rw [show k+(j+1) - 1=(k+j - 1)+1 by omega,Tw (by omega),←Cf,←Cf,a7]
    ·right;have ek:k+j=l.length:=by omega
     rw [ek,Dq] at a5 a6;have hjj:¬(j:Int)<(s.length:Int) - (k:Int):=by omega
     refine ⟨.yld 2 [.i .i64 (i:Int),Bn s],?_,rfl,s,a4,by rw [a6];exact a5,by rw [a6]⟩;simp (disch:=omega) only [Pk,hjj,EVT,EVM,EVC,xe,EVP,EV,simprocAttr]
  have key:Cf6.ev S (l.length+2) [Bn l]=some (if cpt eqs l=l then .yld 0 [Bn l] else .ret [Bn (cpt eqs l)]):=by
   have:=Hl (fn:=S) (N:=l.length+2) (η:=[Bn l]) (id:=1) (init:=[(.c (.i .i64 (1))),(.v 0)]) (body:=yc) (α:=Nat)
    (fun k=>[.i .i64 (k:Int),Bn l]) (fun o=>o=if cpt eqs l=l then .yld 0 [Bn l] else .ret [Bn (cpt eqs l)])
    (fun k=>1≤k∧k≤l.length∧cpt eqs (l.take k)=l.take k) (fun k=>l.length - k) 1 (by simp (disch:=omega) only [EVT,EVM,EVC,xe,EVP,EV,simprocAttr])
    ⟨Af 1,by omega,by cases l with
     |nil=>simp at h2
     |cons x r=>rfl⟩ (by omega) ?_
   ·obtain ⟨o,h3,h4⟩:=this;rw [←h4];exact h3
   ·rintro k ⟨k1,k2,k3⟩;by_cases hk:k<l.length
    ·have g1:l[k]? =some l[k]:=Ay hk;have g0:l[k - 1]? =some (l[k - 1]'(by omega)):=Ay (by omega);have tk:l.take (k+1)=l.take k++[l[k]]:=by rw [Cq,g1];rfl
     have ne:l.take k≠[]:=by intro h;have:=congrArg List.length h;rw [Ap,Bf] at this;omega
     have gl:(l.take k).getLast ne=l[k - 1]'(by omega):=by rw [Jn];simp only [zj,Ap];congr 1;omega
     have cs:=Nh eqs l[k] (l.take k) ne;rw [←tk,gl,k3] at cs;have hkk:(k:Int)<(l.length:Int):=by omega
     have i1:Ht 1 (Bn l) (.i .i64 (k:Int))=some (.s l[k]):=by rw [Nf _ _ _ (by omega),show ((k:Int)).toNat=k by omega,g1];rfl
     have i0:Ht 1 (Bn l) (.i .i64 ((k:Int) - 1))=some (.s (l[k - 1]'(by omega))):=by rw [Nf _ _ _ (by omega),show ((k:Int) - 1).toNat=k - 1 by omega,g0];rfl
     by_cases hxy:l[k]=l[k - 1]'(by omega)
     ·right;have cs':cpt eqs (l.take (k+1))=l.take k:=by rw [cs];simp [eqs,hxy]
      obtain ⟨s,s1,s2,s3⟩:=inner k k1 hk cs';have hlt:cpt eqs l≠l:=by
       intro h;have q:(cpt eqs l).length≤(cpt eqs (l.take (k+1))).length+(l.drop (k+1)).length:=by
        have:∀(b a:List (List UInt8)),a≠[]→(cpt eqs (a++b)).length≤(cpt eqs a).length+b.length:=by
         intro b
         induction b with
         |nil=>intro a _;simp
         |cons x r ih=>
          intro a ha;have h1:=ih (a++[x]) (by simp);rw [Nh _ _ _ ha] at h1;rw [show a++x::r=a++[x]++r by simp];refine C9 h1 ?_;rw [Ab];split<;>simp<;>omega
        have h3:=this (l.drop (k+1)) (l.take (k+1)) (by intro h;have:=congrArg List.length h;rw [Ap,Bf] at this;omega);rwa [Bh] at h3
       rw [h,cs',Ap,B3] at q;omega
      have hlen:=dc eqs l;refine ⟨.ret [Bn (cpt eqs l)],?_,rfl,by rw [if_neg hlt]⟩;generalize cpt eqs l=fl at*;have ls:Hh 1 (Bn l) (.i .i64 (k:Int)) (.i .i64 (l.length:Int))=some (Bn (l.drop k)):=by rw [Nz _ _ _ _ _ (by omega) (by omega) (by omega)];simp
      have hsl1:Hh 1 (Bn s) (.i .i64 ((fl.length:Nat):Int)) (.i .i64 (s.length:Int))=some (Bn (s.drop fl.length)):=by rw [Nz _ _ _ _ _ (by omega) (by omega) (by omega)];simp
      have hsl2:Hh 1 (Bn s) (.i .i64 0) (.i .i64 ((fl.length:Nat):Int))=some (Bn fl):=by rw [Nz _ _ _ _ _ (by omega) (by omega) (by omega)];simp [s2]
      have hrep:L0 1 (.i .i64 ((s.length:Int) - (fl.length:Int))) (.s [])=some (Bn (List.replicate (s.length - fl.length) [])):=by rw [Az0 _ (by omega) (by omega)];congr 3;omega
      have happ:Ih 1 (Bn fl) (Bn (List.replicate (s.length - fl.length) []))=some (Bn (fl++List.replicate (s.length - fl.length) [])):=Al3 _ _ (by simp;omega);have hsl3:Hh 1 (Bn (fl++List.replicate (s.length - fl.length) [])) (.i .i64 0) (.i .i64 ((fl.length:Nat):Int))=some (Bn fl):=by rw [Nz _ _ _ _ _ (by omega) (by omega) (by simp;omega)];simp
      simp (disch:=omega) only [Pk,hkk,i1,i0,hxy,ls,s3,hsl1,hsl2,hrep,happ,hsl3,EVT,EVM,EVC,xe,EVP,EV,simprocAttr]
     ·left;refine ⟨k+1,?_,⟨by omega,by omega,?_⟩,by omega⟩
      ·simp (disch:=omega) only [Pk,hkk,i1,i0,hxy,EVT,EVM,EVC,xe,EVP,EV,simprocAttr]
      ·rw [cs,tk];simp [eqs,hxy]
    ·right;have e:k=l.length:=by omega
     subst e;rw [Dq] at k3;refine ⟨_,?_,?_,rfl⟩
     ·rw [if_pos k3];simp (disch:=omega) only [Pk,EVT,EVM,EVC,xe,EVP,EV,simprocAttr]
     ·rw [if_pos k3];rfl
  by_cases h:cpt eqs l=l
  ·rw [if_pos h] at key;rw [h];simp (disch:=omega) only [Pk,h2,key,EVT,EVM,EVC,xe,EVP,EV,simprocAttr]
  ·rw [if_neg h] at key;simp (disch:=omega) only [Pk,h2,key,EVT,EVM,EVC,xe,EVP,EV,simprocAttr]
end Go.X.G
/- Types of records: the program's table. -/
namespace Go.X.G
open Go Go.X
structure Kd where
 num:Int
 mne:List UInt8
 fls:List UInt8
def Kd.pv (k:Kd):PV:= .a [.i .i64 k.num, .s k.mne, .s k.fls]
def uv (l:List Kd):PV:= .l 3 (l.map Kd.pv)
def kds:List Kd:=[⟨1,[65],[52]⟩,⟨2,[78,83],[104]⟩,⟨5,[67,78,65,77,69],[104]⟩,⟨6,[83,79,65],[104,109,118,119,120,121,122]⟩,⟨12,[80,84,82],[104]⟩,⟨15,[77,88],[65,104]⟩,⟨16,[84,88,84],[116]⟩,⟨28,[65,65,65,65],[54]⟩,⟨33,[83,82,86],[65,66,67,104]⟩,⟨39,[68,78,65,77,69],[104]⟩,⟨43,[68,83],[65,98,99,114]⟩,⟨46,[82,82,83,73,71],[65,115,98,120,121,122,70,104,114]⟩,⟨47,[78,83,69,67],[104,110]⟩,⟨48,[68,78,83,75,69,89],[65,98,99,114]⟩]
def ax (k:Kd):Bt 0 k.pv=some (.i .i64 k.num):=rfl
def aw (k:Kd):Bt 1 k.pv=some (.s k.mne):=rfl
def C1 (k:Kd):Bt 2 k.pv=some (.s k.fls):=rfl
def Bg9 (k:Kd):Kq 0 3 k.pv=some k.pv:=rfl
def Sd (k:Kd):S7 3 k.pv=some k.pv:=rfl
def Rc (l:List Kd):Gb (uv l)=some (.i .i64 (l.length:Int)):=by simp [uv,Gb]
def ux (l:List Kd) (k:IntKind) (z:Int) (h:0≤z):Ht 3 (uv l) (.i k z)=(l[z.toNat]?).map Kd.pv:=by simp [uv,cr _ _ _ _ h]
def Ac6:S X5 0 []=some [uv kds]:=Fr5 (N:=1) rfl (by kernel_rfl)
def Vl (k:Kd):PV.flat k.pv=true:=rfl
def Ac8 (t:Int):S Yq 1 [.i .i64 t]=some (match kds.find? (fun k=>decide (k.num=t)) with|some k=>[k.pv, .b true]|none=>[Kd.pv ⟨0,[],[]⟩, .b false]):=by
 refine Ft4 (N:=20) rfl ?_;have key:∀l:List Kd,l.length≤15→Cf1.ev S 20 [.i .i64 t,uv l]=some (match l.find? (fun k=>decide (k.num=t)) with|some k=> .ret [k.pv, .b true]|none=> .yld 0 [.i .i64 0, .s [], .s []]):=by
  intro l hl;refine Fg l (fun i=>[.i .i64 (i:Int), .i .i64 0, .s [], .s []]) (fun i r=>match r.find? (fun k=>decide (k.num=t)) with|some k=> .ret [k.pv, .b true]|none=> .yld 0 [.i .i64 0, .s [], .s []]) rfl (by omega) (fun i c r hd hi hc=> ?_) ?_
  ·by_cases h:c.num=t
   ·right;simp (disch:=omega) only [f7,hc,h,ax,aw,C1,Bg9,Sd,Rc,ux,xe,EVP,EV,simprocAttr];simp [h,Out.goes]
   ·left;simp (disch:=omega) only [f7,hc,h,ax,aw,C1,Bg9,Sd,Rc,ux,xe,EVP,EV,simprocAttr];simp [h]
  ·simp (disch:=omega) only [f7,ax,aw,C1,Bg9,Sd,Rc,ux,xe,EVP,EV,simprocAttr];simp [Out.goes]
 have hk:=key kds (by decide);have hkd:=Ac6;cases h:kds.find? (fun k=>decide (k.num=t)) with
 |some k=>
  rw [h] at hk;simp (disch:=omega) only [f7,hkd,hk,Rc,xe,EVP,EV,simprocAttr]
 |none=>
  rw [h] at hk;simp (disch:=omega) only [f7,hkd,hk,Rc,xe,EVP,EV,simprocAttr];rfl
def Ad6 (t:Int):(kds.find? (fun k=>decide (k.num=t))).isSome=knw t:=by
 rw [Cr,List.find?_isSome];simp [kds,knw]
 grind
def Cp (t:Int):S Sw 1 [.i .i64 t]=some [.b (knw t)]:=by
 refine Gk5 (N:=1) rfl ?_;have h:=Ac8 t;have h2:=Ad6 t;cases hk:kds.find? (fun k=>decide (k.num=t)) with
 |some k=>
  rw [hk] at h h2;simp only [Option.isSome_some] at h2;simp (disch:=omega) only [Eq9,h,Vl,Sd,xe,EVP,EV,simprocAttr];rw [←h2]
 |none=>
  rw [hk] at h h2;simp only [Zb] at h2;simp (disch:=omega) only [Eq9,h,Vl,Sd,xe,EVP,EV,simprocAttr];rw [←h2]
end Go.X.G
/- Types of names, as sets of bits. -/
namespace Go.X
open Go
def H8 (l:List Int):PV:= .l 1 (l.map fun t=> .i .i64 t)
def Z3:PV.l 1 []=H8 []:=rfl
def s5 (t:Int):PV.l 1 [.i .i64 t]=H8 [t]:=rfl
def tn (t:Int):Jl 1 [.i .i64 t]=some (H8 [t]):=rfl
def cj (l:List Int):Gb (H8 l)=some (.i .i64 (l.length:Int)):=by simp [H8,Gb]
def cp (l:List Int) (k:IntKind) (z:Int) (h:0≤z):Ht 1 (H8 l) (.i k z)=(l[z.toNat]?).map fun t=> .i .i64 t:=by simp [H8,cr _ _ _ _ h]
def Wz (l:List Int) (x:Int) (h:l.length+1≤1073741824):Ih 1 (H8 l) (H8 [x])=some (H8 (l++[x])):=by have:=Wb 1 (l.map fun t=> .i .i64 t) [.i .i64 x] (by simpa using h);simpa [H8] using this
end Go.X
namespace Go.X.G
open Go Go.X
def shO (t:Int):Int:=IntKind.u64.wrap (1*2 ^ (min t.toNat IntKind.u64.bits))
def bitO (g t:Int):Int:=IntKind.u64.wrap ((BitVec.ofInt IntKind.u64.bits g|||BitVec.ofInt IntKind.u64.bits (shO t)).toNat:Int)
def Ik9 (t:Int) (h:0≤t):X.bin .shl (.i .u64 1) (.i .i64 t)=some (.i .u64 (shO t)):=by rw [Fy5,if_neg (by omega)];rfl
def orO (g t:Int):X.bin .or (.i .u64 g) (.i .u64 (shO t))=some (.i .u64 (bitO g t)):=by rw [Ef1];rfl
def Fj0 {t:Int} (h:knw t=true):0≤t∧t≤255:=by rcases knw_cases h with rfl|rfl|rfl|rfl|rfl|rfl|rfl|rfl|rfl|rfl|rfl|rfl|rfl|rfl<;>decide
def Ct4 (l:List Int) (hk:∀t∈l,knw t=true) (hl:l.length≤1000000):S Bk0 1 [H8 l]=some [.i .u64 (l.foldl bitO 0), .b true]:=by
 refine Hy1 (N:=l.length+1) rfl ?_;have key:Ey6.ev S (l.length+1) [H8 l]=some (.yld 0 [.i .u64 (l.foldl bitO 0)]):=by
  refine E8 (N:=l.length+1) l (fun i (g:Int)=>[.i .u64 g, .i .i64 (i:Int)]) (fun i g r=> .yld 0 [.i .u64 (r.foldl bitO g)]) (fun _ _=>True) 0 rfl trivial (Nat.lt_succ_self _) (fun i g c r hd hi hc _=> ?_) (fun g _=> ?_)
  ·left;have hil:(i:Int)<(l.length:Int):=by omega
   have hc1:=hk c (A4 hc);have k:=Cp c;rw [hc1] at k;refine ⟨bitO g c,?_,trivial,rfl⟩;have e1:=Ik9 c (Fj0 hc1).1;have e2:=orO g c;generalize shO c=sc at*;generalize bitO g c=bc at*;simp (disch:=omega) only [Eg3,hc,hil,k,e1,e2,cp,cj,xe,EVP,EV,simprocAttr]
  ·simp (disch:=omega) only [Eg3,Int.lt_irrefl,cp,cj,xe,EVP,EV,simprocAttr];simp [Out.goes]
 simp (disch:=omega) only [Eg3,key,cp,cj,xe,EVP,EV,simprocAttr]
def typesR (l:List Rec) (n:List UInt8):List Int:=(l.filter fun r=>decide (r.name=n) && knw r.typ).map Rec.typ
def An0 (l:List Rec) (n:List UInt8):∀t∈typesR l n,knw t=true:=fun t ht=>by simp only [typesR,Dj,Bz,Av] at ht;obtain ⟨r,hr,rfl⟩:=ht;exact hr.2.2
def Ct3 (l:List Rec) (n:List UInt8) (hl:l.length≤1000000):S Cx5 2 [Ag l, .s n]=some [.i .u64 ((typesR l n).foldl bitO 0)]:=by
 refine Hb8 (N:=l.length+1) rfl ?_;have hs:=Ct4 (typesR l n) (An0 l n) (by have:=Dw (fun r:Rec=>decide (r.name=n) && knw r.typ) l;simp only [typesR,Ew];omega);have key:Ez9.ev S (l.length+1) [Ag l, .s n]=some (.yld 0 [H8 ([]++typesR l n)]):=by
  refine E8 (N:=l.length+1) l (fun i (g:List Int)=>[H8 g, .i .i64 (i:Int)]) (fun i g r=> .yld 0 [H8 (g++typesR r n)]) (fun i g=>g.length≤i) [] rfl (Ct _) (Nat.lt_succ_self _) (fun i g c r hd hi hc hI=> ?_) (fun g hI=> ?_)
  ·left;have hil:(i:Int)<(l.length:Int):=by omega
   have k:=Cp c.typ;by_cases h1:c.name=n
   ·rcases Ak (knw c.typ) with h2|h2
    ·rw [h2] at k;refine ⟨g++[c.typ],?_,by simp;omega,by simp [typesR,h1,h2]⟩;simp (disch:=omega) only [Bc8,hc,hil,h1,k,Z3,s5,tn,Wz,xe,EVP,EV,simprocAttr]
    ·rw [h2] at k;refine ⟨g,?_,by omega,by simp [typesR,h2]⟩;simp (disch:=omega) only [Bc8,hc,hil,h1,k,Z3,s5,tn,Wz,xe,EVP,EV,simprocAttr]
   ·refine ⟨g,?_,by omega,by simp [typesR,h1]⟩;simp (disch:=omega) only [Bc8,hc,hil,h1,Z3,s5,tn,Wz,xe,EVP,EV,simprocAttr]
  ·simp (disch:=omega) only [Bc8,Int.lt_irrefl,xe,EVP,EV,simprocAttr];simp [Out.goes,typesR]
 rw [Ch] at key;generalize (typesR l n).foldl bitO 0=v at*;simp (disch:=omega) only [Bc8,hs,key,xe,EVP,EV,simprocAttr]
end Go.X.G
/- The order of records; what a checked zone is like. -/
namespace Go.X.G
open Go Go.X
def TO.prod {α β:Type} {l1:α→α→Prop} {l2:β→β→Prop} (h1:TO l1) (h2:TO l2):TO (fun p q:α×β=>l1 p.1 q.1∨(p.1=q.1∧l2 p.2 q.2)) where
 irr:=fun p h=>by
  rcases h with h|⟨_,h⟩
  ·exact h1.irr _ h
  ·exact h2.irr _ h
 tr:=fun p q r a b=>by
  rcases a with a|⟨a,a'⟩<;>rcases b with b|⟨b,b'⟩
  ·exact .inl (h1.tr _ _ _ a b)
  ·exact .inl (b▸a)
  ·exact .inl (a▸b)
  ·exact .inr ⟨a.trans b,h2.tr _ _ _ a' b'⟩
 tri:=fun p q=>by
  rcases h1.tri p.1 q.1 with a|a|a
  ·exact .inl (.inl a)
  ·rcases h2.tri p.2 q.2 with b|b|b
   ·exact .inl (.inr ⟨a,b⟩)
   ·exact .inr (.inl (Prod.ext a b))
   ·exact .inr (.inr (.inr ⟨a.symm,b⟩))
  ·exact .inr (.inr (.inl a))
def Fl1:TO (fun a b:Int=>a<b):=⟨fun a h=>by omega,fun a b c h1 h2=>by omega,fun a b=>by omega⟩
def dm (a b:Int):Ag0 a b<0↔a<b:=by unfold Ag0;split<;>(try split)<;>omega
def Iz (a b:Int):Ag0 a b=0↔a=b:=by unfold Ag0;split<;>(try split)<;>omega
abbrev Key:=List UInt8×Int×List UInt8
abbrev ltK:Key→Key→Prop:=fun p q=>ltN p.1 q.1∨(p.1=q.1∧(p.2.1<q.2.1∨(p.2.1=q.2.1∧ltB p.2.2 q.2.2)))
def to_K:TO ltK:=to_N.prod (Fl1.prod Dj8)
def Dk0 (r:Rec):Key:=(r.name,r.typ,Kt r.typ r.data)
abbrev ltR (a b:Rec):Prop:=ltK (Dk0 a) (Dk0 b)
def Pv {r:Rec} (h:Ql r=true):Er r.typ r.data=true:=by unfold Ql at h;simp only [Av] at h;exact h.2
def gz {r:Rec} (h:Ql r=true):vld r.name=true:=by unfold Ql at h;simp only [Av] at h;exact h.1.1.1.1
def Ec4 {t:Int} {a b:Dat} (ha:Er t a=true) (hb:Er t b=true):Dt7 t a b=cmpS (Kt t a) (Kt t b):=by unfold Dt7;rw [ha,hb];rfl
def Ag1 {a b:Rec} (ha:Ql a=true) (hb:Ql b=true):Wr a b<0↔ltR a b:=by
 unfold Wr ltR ltK Dk0;simp only;by_cases h1:Iy a.name b.name=0
 ·rw [if_neg (by simp [h1])];have e1:=Hr.1 h1;have n1:¬ltN a.name b.name:=by rw [e1];exact to_N.irr _
  by_cases h2:Ag0 a.typ b.typ=0
  ·rw [if_neg (by simp [h2])];have e2:=(Iz _ _).1 h2;have ha':=Pv ha;have hb':=Pv hb;rw [e2] at ha' ⊢;rw [Ec4 ha' hb',Tt];constructor
   ·intro h;exact .inr ⟨e1, .inr ⟨rfl,h⟩⟩
   ·rintro (h|⟨_,h|⟨_,h⟩⟩)
    ·exact absurd h n1
    ·omega
    ·exact h
  ·rw [if_pos h2,dm];have e2:a.typ≠b.typ:=fun e=>h2 ((Iz _ _).2 e);constructor
   ·intro h;exact .inr ⟨e1, .inl h⟩
   ·rintro (h|⟨_,h|⟨h,_⟩⟩)
    ·exact absurd h n1
    ·exact h
    ·exact absurd h e2
 ·rw [if_pos h1,Eg];have e1:a.name≠b.name:=fun e=>h1 (Hr.2 e);constructor
  ·intro h;exact .inl h
  ·rintro (h|⟨h,_⟩)
   ·exact h
   ·exact absurd h e1
def ov {a b:Rec} (ha:Ql a=true) (hb:Ql b=true):Wr a b=0↔Dk0 a=Dk0 b:=by
 unfold Wr Dk0;by_cases h1:Iy a.name b.name=0
 ·rw [if_neg (by simp [h1])];have e1:=Hr.1 h1;by_cases h2:Ag0 a.typ b.typ=0
  ·rw [if_neg (by simp [h2])];have e2:=(Iz _ _).1 h2;have ha':=Pv ha;have hb':=Pv hb;rw [e2] at ha' ⊢;rw [Ec4 ha' hb',Jz];simp [e1]
  ·rw [if_pos h2];have e2:a.typ≠b.typ:=fun e=>h2 ((Iz _ _).2 e);constructor
   ·intro h;exact absurd h h2
   ·intro h;injection h with _ h;injection h with h _;exact absurd h e2
 ·rw [if_pos h1];have e1:a.name≠b.name:=fun e=>h1 (Hr.2 e);constructor
  ·intro h;exact absurd h h1
  ·intro h;injection h with h _;exact absurd h e1
def Vy {x:Rec} (hx:Ql x=true):∀(l:List Rec),(∀r∈l,Ql r=true)→l.Pairwise ltR→(pw x l).Pairwise ltR
 |[],_,_=>by simp [pw]
 |y::r,hv,h=>by
  obtain ⟨h1,h2⟩:=A0.1 h;have hy:=hv y (.head _);have ih:=Vy hx r (fun w hw=>hv w (.tail _ hw)) h2;simp only [pw];by_cases c:Wr y x<0
  ·rw [if_pos c];refine A0.2 ⟨fun w hw=> ?_,ih⟩;rcases insR_mem x r w hw with rfl|hw
   ·exact (Ag1 hy hx).1 c
   ·exact h1 w hw
  ·rw [if_neg c];by_cases e:Wr y x=0
   ·rw [if_pos e];split
    ·have ke:=(ov hy hx).1 e;refine A0.2 ⟨fun w hw=> ?_,h2⟩;have:=h1 w hw;show ltK (Dk0 x) (Dk0 w);rw [←ke];exact this
    ·exact h
   ·rw [if_neg e];have hxy:ltR x y:=by
     rcases to_K.tri (Dk0 x) (Dk0 y) with q|q|q
     ·exact q
     ·exact absurd ((ov hy hx).2 q.symm) e
     ·exact absurd ((Ag1 hy hx).2 q) c
    refine A0.2 ⟨fun w hw=> ?_,h⟩;rcases Am.1 hw with rfl|hw
    ·exact hxy
    ·exact to_K.tr _ _ _ hxy (h1 w hw)
def R7 (l:List Rec) (hv:∀r∈l,Ql r=true):(sortR l).Pairwise ltR∧∀r∈sortR l,r∈l:=by
 have:∀(l a:List Rec),(∀r∈l,Ql r=true)→(∀r∈a,Ql r=true)→a.Pairwise ltR→(l.foldl (fun acc x=>pw x acc) a).Pairwise ltR∧∀r∈l.foldl (fun acc x=>pw x acc) a,r∈a∨r∈l:=by
  intro l
  induction l with
  |nil=>intro a _ _ h;exact ⟨h,fun r hr=> .inl hr⟩
  |cons x r ih=>
   intro a h1 h2 h3;have hx:=h1 x (.head _);obtain ⟨g1,g2⟩:=ih (pw x a) (fun w hw=>h1 w (.tail _ hw)) (fun w hw=>by
    rcases insR_mem x a w hw with rfl|hw
    ·exact hx
    ·exact h2 w hw) (Vy hx a h2 h3)
   refine ⟨g1,fun w hw=> ?_⟩;rcases g2 w hw with hw|hw
   ·rcases insR_mem x a w hw with rfl|hw
    ·exact .inr (.head _)
    ·exact .inl hw
   ·exact .inr (.tail _ hw)
 obtain ⟨h1,h2⟩:=this l [] hv (fun r hr=>by cases hr) .nil;exact ⟨h1,fun r hr=>(h2 r hr).resolve_left (by simp)⟩
structure ZOk (z:Zone):Prop where
 origin:vld z.origin=true
 small:z.recs.length≤2048
 valid:∀r∈z.recs,Ql r=true
 rising:z.recs.Pairwise ltR
 soa:(findR z.recs z.origin 6).length=1
 ns:m8 z.recs z.origin 2=true
 recs:∀r∈z.recs,Rv z r=true
def V9 {z:Zone} (h:Ip z=0):ZOk z:=by
 unfold Ip at h;split at h
 ·cases h
 ·rename_i h1;split at h
  ·cases h
  ·rename_i h2;split at h
   ·cases h
   ·split at h
    ·cases h
    ·rename_i h4;split at h
     ·cases h
     ·rename_i h5;split at h
      ·cases h
      ·rename_i h6;split at h
       ·cases h
       ·rename_i h7;simp only [F8,By] at h1 h4 h7;simp only [not_or,ne_eq,F7,F8] at h5 h6;refine ⟨h1,by omega,h4,?_,h6.1,h6.2,h7⟩;rw [h5];exact (R7 z.recs h4).1
def ZOk.beside {z:Zone} (h:ZOk z) {r x:Rec} (hr:r∈z.recs) (hx:x∈z.recs):Qc r x=true:=by have:=h.recs r hr;unfold Rv at this;simp only [Av] at this;have h2:=this.1.2;unfold d8 at h2;exact By.1 h2 x hx
def ZOk.under {z:Zone} (h:ZOk z) {r:Rec} (hr:r∈z.recs):under r.name z.origin=true:=by have:=h.recs r hr;unfold Rv at this;simp only [Av] at this;exact this.1.1.1
def ZOk.single {z:Zone} (h:ZOk z) (n:List UInt8) (t:Int) (ht:t=6∨t=5∨t=39):(findR z.recs n t).length≤1:=by
 have hp:(findR z.recs n t).Pairwise ltR:=h.rising.filter _;have hm:∀x∈findR z.recs n t,x∈z.recs∧x.name=n∧x.typ=t:=fun x hx=>by obtain ⟨h1,h2⟩:=Bz.1 hx;simp only [isK,Av,decide_eq_true_eq] at h2;exact ⟨h1,h2.1,h2.2⟩
 generalize findR z.recs n t=l at*
 match l,hp,hm with
 |[],_,_=>simp
 |[_],_,_=>simp
 |a::b::r,hp,hm=>
  exfalso;have hab:ltR a b:=(A0.1 hp).1 b (.head _);obtain ⟨a1,a2,a3⟩:=hm a (.head _);obtain ⟨b1,b2,b3⟩:=hm b (.tail _ (.head _));have hb:=h.beside a1 b1;have e:b=a:=by
   unfold Qc at hb;rw [a2,a3,b2,b3] at hb;have ht':(decide (t=6)||decide (t=5)||decide (t=39))=true:=by rcases ht with h|h|h<;>simp [h]
   rw [ht'] at hb;simp only [decide_true,Lg,Hd,Qt,Qs,Av,A6,decide_eq_false_iff_not,ne_eq,F7] at hb;exact hb.1.2
  rw [e] at hab;exact to_K.irr _ hab
end Go.X.G
/- Names on the way up; delegations above a name. -/
namespace Go.X.G
open Go Go.X
def upN (o n:List UInt8):List (List UInt8):=(List.range ((lbl n).length - (lbl o).length+1)).map fun k=>jn ((lbl n).drop k)
def Mj {o n x:List UInt8} (h:under n o=true):x∈upN o n↔under n x=true∧under x o=true:=by
 obtain ⟨hn,ho,hs⟩:=Bw.1 h;have hle:=hs.length_le;rw [Dr] at hs;unfold upN;rw [Dj];constructor
 ·rintro ⟨k,hk,rfl⟩;rw [D6] at hk;obtain ⟨v1,v2⟩:=Jt hn k;refine ⟨Bw.2 ⟨hn,v1,by rw [v2];exact List.drop_suffix _ _⟩,Bw.2 ⟨v1,ho,?_⟩⟩;rw [v2,hs];have:(lbl n).length - (lbl o).length=k+((lbl n).length - (lbl o).length - k):=by omega
  rw [this,←Cf];exact List.drop_suffix _ _
 ·rintro ⟨h1,h2⟩;obtain ⟨_,hx,h3⟩:=Bw.1 h1;obtain ⟨_,_,h4⟩:=Bw.1 h2;have l1:=h3.length_le;have l2:=h4.length_le;rw [Dr] at h3;refine ⟨(lbl n).length - (lbl x).length,?_,?_⟩
  ·rw [D6];omega
  ·rw [←h3];exact (L8 hx).symm
def ql (o n:List UInt8):(upN o n).length≤256:=by have:=Lk n;simp [upN];omega
def Ox {o n:List UInt8} {k:Nat} (hk:k≤(lbl n).length - (lbl o).length):(upN o n)[k]? =some (jn ((lbl n).drop k)):=by unfold upN;rw [Bl,Ck (by omega)];rfl
def cg {n:List UInt8} (h:vld n=true):jn ((lbl n).drop 0)=n:=by rw [Ey];exact (L8 h).symm
def Xw {o n:List UInt8} (h:under n o=true) {k:Nat} (hk:k≤(lbl n).length - (lbl o).length):jn ((lbl n).drop k)=o↔k=(lbl n).length - (lbl o).length:=by
 obtain ⟨hn,ho,hs⟩:=Bw.1 h;have hle:=hs.length_le;rw [Dr] at hs;obtain ⟨v1,v2⟩:=Jt hn k;constructor
 ·intro e;have:=congrArg (fun x=>(lbl x).length) e;simp only [v2,B3] at this;omega
 ·rintro rfl;rw [←hs];exact (L8 ho).symm
def Bf6 {o n:List UInt8} (h:under n o=true) {k:Nat} (hk:k<(lbl n).length - (lbl o).length):Rx (jn ((lbl n).drop k))=jn ((lbl n).drop (k+1))∧Ad2 (jn ((lbl n).drop k))=true:=by
 obtain ⟨hn,ho,hs⟩:=Bw.1 h;obtain ⟨v1,v2⟩:=Jt hn k;have hne:jn ((lbl n).drop k)≠[46]:=by intro e;have:=(Vj v1).2 e;rw [v2] at this;have:=congrArg List.length this;simp at this;omega
 unfold Rx Ad2;rw [if_pos ⟨v1,hne⟩,v2,Cf];exact ⟨rfl,by simp [v1,hne]⟩
def c8 (l:List (List UInt8)) (i j:Nat) (h:i<j) (hj:j≤l.length):(flat (l.drop j)).length<(flat (l.drop i)).length:=by
 have e:l.drop i=(l.drop i).take (j - i)++l.drop j:=by have:=(Bh (j - i) (l.drop i)).symm;rw [Cf,show i+(j - i)=j by omega] at this;exact this
 rw [e,Ly,Ab];have:0<(flat ((l.drop i).take (j - i))).length:=by
  cases hc:(l.drop i).take (j - i) with
  |nil=>
   have:=congrArg List.length hc;simp at this;omega
  |cons x r=>simp [flat];omega
 omega
def og {n a b:List UInt8} (ha:under n a=true) (hb:under n b=true):a.length<b.length↔(lbl a).length<(lbl b).length:=by
 have key:∀{a b:List UInt8},under n a=true→under n b=true→(lbl a).length<(lbl b).length→a.length<b.length:=by
  intro a b ha hb hl;obtain ⟨hn,va,sa⟩:=Bw.1 ha;obtain ⟨_,vb,sb⟩:=Bw.1 hb;have la:=sa.length_le;have lb:=sb.length_le;rw [Dr] at sa sb;rw [L8 va,L8 vb];have hbne:lbl b≠[]:=fun e=>by rw [e] at hl;simp at hl
  have e2:jn (lbl b)=flat (lbl b):=by unfold jn;rw [if_neg hbne]
  rw [e2];by_cases ha0:lbl a=[]
  ·have e1:jn (lbl a)=[46]:=by unfold jn;rw [if_pos ha0]
   rw [e1];have:=Gd (K0 vb) hbne;simp;omega
  ·have e1:jn (lbl a)=flat (lbl a):=by unfold jn;rw [if_neg ha0]
   rw [e1,sa,sb];exact c8 _ _ _ (by omega) (by omega)
 constructor
 ·intro h;rcases Nat.lt_or_ge (lbl a).length (lbl b).length with h1|h1
  ·exact h1
  ·rcases Nat.lt_or_eq_of_le h1 with h2|h2
   ·have:=key hb ha h2;omega
   ·obtain ⟨_,va,sa⟩:=Bw.1 ha;obtain ⟨_,vb,sb⟩:=Bw.1 hb;rw [Dr] at sa sb;have:a=b:=Lq va vb (by rw [sa,sb,h2]);subst this;omega
 ·exact key ha hb
def C7 (z:Zone) (r:Rec):Bool:=decide (r.typ=2) && En r.name z.origin
def pd (z:Zone) (n:List UInt8):List UInt8→List Rec→List UInt8
 |b,[]=>b
 |b,r::rs=>pd z n (if C7 z r && under n r.name && (decide (b=[])||decide ((lbl r.name).length<(lbl b).length)) then r.name else b) rs
def cutN (z:Zone) (n:List UInt8):List UInt8:=pd z n [] z.recs
def Ms (z:Zone) (n:List UInt8):∀(l:List Rec) (b:List UInt8),(b=[]∨under n b=true)→
  (pd z n b l=[]→b=[]∧∀r∈l,C7 z r=true→under n r.name=false)∧
  (pd z n b l≠[]→under n (pd z n b l)=true∧(pd z n b l=b∨∃r∈l,C7 z r=true∧r.name=pd z n b l)∧(b≠[]→(lbl (pd z n b l)).length≤(lbl b).length)∧∀r∈l,C7 z r=true→under n r.name=true→(lbl (pd z n b l)).length≤(lbl r.name).length)
 |[],b,hb=>by simp only [pd];refine ⟨fun h=>⟨h,fun r hr=>by simp at hr⟩,fun h=>⟨hb.resolve_left h, .inl trivial,fun _=>Af _,fun r hr=>by simp at hr⟩⟩
 |r::rs,b,hb=>by
  simp only [pd];have hne:under n r.name=true→r.name≠[]:=fun h e=>by have:=(Bw.1 h).2.1;rw [e] at this;simp [vld,nm] at this
  by_cases hc:(C7 z r && under n r.name && (decide (b=[])||decide ((lbl r.name).length<(lbl b).length)))=true
  ·rw [if_pos hc];simp only [Av,An,decide_eq_true_eq] at hc;obtain ⟨⟨c1,c2⟩,c3⟩:=hc;obtain ⟨h1,h2⟩:=Ms z n rs r.name (.inr c2);refine ⟨fun h=>absurd (h1 h).1 (hne c2),fun h=> ?_⟩;obtain ⟨g1,g2,g3,g4⟩:=h2 h;refine ⟨g1, .inr ?_,fun hb0=> ?_,fun x hx hx1 hx2=> ?_⟩
   ·rcases g2 with g2|⟨x,hx,g2⟩
    ·exact ⟨r, .head _,c1,g2.symm⟩
    ·exact ⟨x, .tail _ hx,g2⟩
   ·have:=g3 (hne c2);rcases c3 with c3|c3
    ·exact absurd c3 hb0
    ·omega
   ·rcases Am.1 hx with rfl|hx
    ·exact g3 (hne c2)
    ·exact g4 x hx hx1 hx2
  ·rw [if_neg hc];obtain ⟨h1,h2⟩:=Ms z n rs b hb;have hr:C7 z r=true→under n r.name=true→b≠[]∧(lbl b).length≤(lbl r.name).length:=by intro c1 c2;simp only [c1,c2,Bool.and_self,Qs,An,decide_eq_true_eq,not_or,Nat.not_lt] at hc;exact hc
   refine ⟨fun h=> ?_,fun h=> ?_⟩
   ·obtain ⟨g1,g2⟩:=h1 h;refine ⟨g1,fun x hx hx1=> ?_⟩;rcases Am.1 hx with rfl|hx
    ·rcases Ak (under n x.name) with h3|h3
     ·exact absurd g1 (hr hx1 h3).1
     ·exact h3
    ·exact g2 x hx hx1
   ·obtain ⟨g1,g2,g3,g4⟩:=h2 h;refine ⟨g1,?_,g3,fun x hx hx1 hx2=> ?_⟩
    ·rcases g2 with g2|⟨x,hx,g2⟩
     ·exact .inl g2
     ·exact .inr ⟨x, .tail _ hx,g2⟩
    ·rcases Am.1 hx with rfl|hx
     ·obtain ⟨q1,q2⟩:=hr hx1 hx2;have:=g3 q1;omega
     ·exact g4 x hx hx1 hx2
def Ng (z:Zone) (n:List UInt8):Bool:=z.recs.any fun r=>C7 z r && decide (r.name≠n) && under n r.name
def Hw {a b:List UInt8} (h1:under a b=true) (h2:(lbl a).length≤(lbl b).length):a=b:=by obtain ⟨va,vb,s⟩:=Bw.1 h1;exact Lq va vb (s.eq_of_length_le h2).symm
def Fj2 (z:Zone) (n:List UInt8):Ng z n=(decide (cutN z n≠[]) && decide (cutN z n≠n)):=by
 obtain ⟨h1,h2⟩:=Ms z n z.recs [] (.inl rfl);have e:cutN z n=pd z n [] z.recs:=rfl;rw [←e] at h1 h2;rw [Cr];unfold Ng;simp only [Bm,Av,decide_eq_true_eq];constructor
 ·rintro ⟨r,hr,⟨c1,c2⟩,c3⟩;have hne:cutN z n≠[]:=fun h=>by have:=(h1 h).2 r hr c1;rw [c3] at this;cases this
  refine ⟨hne,fun h=> ?_⟩;obtain ⟨_,_,_,g4⟩:=h2 hne;have:=g4 r hr c1 c3;rw [h] at this;exact c2 (Hw c3 this).symm
 ·rintro ⟨hne,hnn⟩;obtain ⟨g1,g2,_,_⟩:=h2 hne;rcases g2 with g2|⟨r,hr,c1,c2⟩
  ·exact absurd g2 hne
  ·exact ⟨r,hr,⟨c1,by rw [c2];exact hnn⟩,by rw [c2];exact g1⟩
def Fc8 (z:Zone):List (List UInt8):=(z.recs.filter fun r=>under r.name z.origin && !Ng z r.name).flatMap fun r=>upN z.origin r.name
def namesN (z:Zone):List (List UInt8):=setN (Fc8 z)
def Eb7 (z:Zone) (x:List UInt8):Prop:=∃r∈z.recs,under r.name z.origin=true∧Ng z r.name=false∧under r.name x=true∧under x z.origin=true
def Al7 (z:Zone) (x:List UInt8):x∈Fc8 z↔Eb7 z x:=by
 unfold Fc8 Eb7;simp only [List.mem_flatMap,Bz,Av,A6];constructor
 ·rintro ⟨r,⟨hr,h1,h2⟩,h3⟩;obtain ⟨h4,h5⟩:=(Mj h1).1 h3;exact ⟨r,hr,h1,h2,h4,h5⟩
 ·rintro ⟨r,hr,h1,h2,h4,h5⟩;exact ⟨r,⟨hr,h1,h2⟩,(Mj h1).2 ⟨h4,h5⟩⟩
def Dm2 (z:Zone) (l:List (List UInt8)) (h:∀x,x∈l↔Eb7 z x):setN l=namesN z:=
 Ug to_N _ _ (Jk _) (Jk _) fun x=>by rw [K4,h,namesN,K4,Al7]
def Nv (z:Zone) (x:List UInt8):x∈namesN z↔Eb7 z x:=by unfold namesN;rw [K4,Al7]
end Go.X.G
/- Zones by the names of their records: groups of a sorted list, in plain words. -/
namespace Go.X.G
open Go Go.X
def Cb0 {α:Type} {lt:α→α→Prop}:∀(p q:List α),p<+:q→p≠q→lex lt p q
 |[],[],_,h=>absurd rfl h
 |[],_::_,_,_=>trivial
 |a::p,[],h,_=>by simp at h
 |a::p,b::q,h,hne=>by obtain ⟨rfl,hpq⟩:=H6.1 h;exact .inr ⟨rfl,Cb0 p q hpq fun e=>hne (by rw [e])⟩
def Cb1 {α:Type} {lt:α→α→Prop} (ht:TO lt):∀(p q x:List α),p<+:q→¬lex lt x p→¬lex lt q x→p<+:x
 |[],_,_,_,_,_=>List.nil_prefix
 |a::p,[],_,h,_,_=>by simp at h
 |a::p,b::q,[],_,h,_=>absurd trivial h
 |a::p,b::q,c::x,h,h1,h2=>by
  obtain ⟨rfl,hpq⟩:=H6.1 h;simp only [lex,not_or,not_and] at h1 h2;have e:a=c:=by
   rcases ht.tri a c with k|k|k
   ·exact absurd k h2.1
   ·exact k
   ·exact absurd k h1.1
  subst e;exact H6.2 ⟨rfl,Cb1 ht p q x hpq (h1.2 rfl) (h2.2 rfl)⟩
def Es6 {a b:List UInt8} (ha:vld a=true) (hb:vld b=true):ltN a b↔ltL (lbl a).reverse (lbl b).reverse:=by unfold ltN;rw [if_pos ha,if_pos hb]
def gf {n top:List UInt8} (h:under n top=true):(lbl top).reverse<+:(lbl n).reverse:=Ef7.2 (Bw.1 h).2.2
def Px {n top:List UInt8} (h:under n top=true) (hne:n≠top):ltN top n:=by obtain ⟨h1,h2,h3⟩:=Bw.1 h;rw [Es6 h2 h1];refine Cb0 _ _ (gf h) fun e=>hne ?_;exact (Lq h2 h1 (List.reverse_inj.1 e)).symm
def Pw {d x n:List UInt8} (hx:vld x=true) (h:under n d=true) (h1:¬ltN x d) (h2:¬ltN n x):under x d=true:=by obtain ⟨k1,k2,k3⟩:=Bw.1 h;rw [Es6 hx k2] at h1;rw [Es6 k1 hx] at h2;exact Bw.2 ⟨hx,k2,Ef7.1 (Cb1 Dj8 _ _ _ (gf h) h1 h2)⟩
def Bb6 {a b c:List UInt8} (h1:under a b=true) (h2:under b c=true):under a c=true:=by obtain ⟨a1,a2,a3⟩:=Bw.1 h1;obtain ⟨b1,b2,b3⟩:=Bw.1 h2;exact Bw.2 ⟨a1,b2,b3.trans a3⟩
def W6 (p:List Rec):List Rec→List (List Rec)
 |[]=>[]
 |x::r=>if (match r with|[]=>true|y::_=> !decide (y.name=x.name))=true then (p++[x])::W6 [] r else W6 (p++[x]) r
def grp (l:List Rec):List (List Rec):=W6 [] l
def nmG (g:List Rec):List UInt8:=match g with|[]=>[]|x::_=>x.name
def m9 (n:List UInt8):∀(r p:List Rec) (x:Rec),x.name=n→(∀y∈p,y.name=n)→∃g l',x::r=g++l'∧g≠[]∧(∀y∈g,y.name=n)∧(∀y,l'.head? =some y→y.name≠n)∧W6 p (x::r)=(p++g)::grp l'
 |[],p,x,hx,hp=>⟨[x],[],rfl,by simp,by simpa using hx,by simp,rfl⟩
 |y::r,p,x,hx,hp=>by
  by_cases h:y.name=x.name
  ·obtain ⟨g,l',h1,h2,h3,h4,h5⟩:=m9 n r (p++[x]) y (by rw [h,hx]) (fun w hw=>by
    rcases B5.1 hw with hw|hw
    ·exact hp w hw
    ·have:w=x:=by simpa using hw
     rw [this,hx])
   refine ⟨x::g,l',by rw [h1];rfl,by simp,fun w hw=> ?_,h4,?_⟩
   ·rcases Am.1 hw with rfl|hw
    ·exact hx
    ·exact h3 w hw
   ·rw [W6,if_neg (by simp [h]),h5];simp
  ·refine ⟨[x],y::r,rfl,by simp,by simpa using hx,fun w hw=> ?_,?_⟩
   ·simp at hw;subst hw;rw [←hx];exact h
   ·rw [W6,if_pos (by simp [h])];rfl
def Tm (x:Rec) (r:List Rec):∃g l',x::r=g++l'∧g≠[]∧(∀y∈g,y.name=x.name)∧(∀y,l'.head? =some y→y.name≠x.name)∧grp (x::r)=g::grp l':=by obtain ⟨g,l',h1,h2,h3,h4,h5⟩:=m9 x.name r [] x rfl (by simp);exact ⟨g,l',h1,h2,h3,h4,by rw [grp,h5];rfl⟩
def Ex7 {g:List Rec} {n:List UInt8} (h:g≠[]) (h2:∀y∈g,y.name=n):nmG g=n:=by
 cases g with
 |nil=>exact absurd rfl h
 |cons x r=>exact h2 x (.head _)
abbrev Gq0 (l:List Rec):Prop:=l.Pairwise fun a b=>¬ltN b.name a.name
def Gc (g:List Rec) (t:Int):Bool:=g.any fun r=>decide (r.typ=t)
def Jg (g:List Rec) (ts:List Int):Bool:=g.all fun r=>decide (r.typ∈ts)
def Xx (p:Rec):List Rec→Bool
 |[]=>true
 |x::r=>(!decide (x.typ=p.typ)||(!(decide (x.typ=6)||decide (x.typ=5)||decide (x.typ=39)) && (decide (x.typ=46)||decide (x.ttl=p.ttl)))) && Xx x r
def Dj6 (g:List Rec):Bool:=match g with|[]=>true|x::r=>Xx x r
def propG (o:List UInt8) (g:List Rec) (cut red:Bool):Bool:=
 under (nmG g) o && (decide (Gc g 6=decide (nmG g=o))) && Dj6 g && (!decide (nmG g=o)||Gc g 2) && (!Gc g 5||Jg g [5,46,47]) && !red && (!cut||Jg g [1,28]) &&
  (if (!decide (nmG g=o) && Gc g 2)=true then Jg g [2,43,47,46,1,28] else !Gc g 43) && (!decide ((nmG g)[0]? =some 42)||(!Gc g 2 && !Gc g 39))
def D2 (n c:List UInt8):List UInt8:=if c≠[]∧under n c=false then [] else c
def vf (o:List UInt8):List (List Rec)→List UInt8→List UInt8→Bool→Bool
 |[],_,_,soa=>soa
 |g::gs,cut,red,soa=>
  if propG o g (decide (D2 (nmG g) cut≠[])) (decide (D2 (nmG g) red≠[]))=true then
   vf o gs (if D2 (nmG g) cut=[]∧nmG g≠o∧Gc g 2=true then nmG g else D2 (nmG g) cut) (if Gc g 39=true then nmG g else D2 (nmG g) red) (soa||decide (nmG g=o))
  else false
def En7 (z:Zone) (n:List UInt8):Bool:=z.recs.any fun r=>decide (r.typ=39) && En n r.name
def jw (z:Zone) (g:List Rec):Bool:=propG z.origin g (Ng z (nmG g)) (En7 z (nmG g))
def pp {n:List UInt8} (h:vld n=true):n≠[]:=fun e=>by
 subst e;have:vld []=false:=by decide
 rw [this] at h;cases h
structure GInv (z:Zone) (done l:List Rec) (cut red:List UInt8):Prop where
 cut1:cut≠[]→∃r∈done,C7 z r=true∧r.name=cut
 cut2:∀m∈l,∀r∈done,C7 z r=true→under m.name r.name=true→cut≠[]∧under m.name cut=true
 red1:red≠[]→∃r∈done,r.typ=39∧r.name=red
 red2:∀m∈l,∀r∈done,r.typ=39→under m.name r.name=true→red≠[]∧under m.name red=true
def sk {o:List UInt8} {g:List Rec} {c r:Bool} (h:propG o g c r=true):under (nmG g) o=true∧r=false:=by unfold propG at h;simp only [Av,A6] at h;exact ⟨h.1.1.1.1.1.1.1.1,h.1.1.1.2⟩
def Ag3 (z:Zone) (hv:∀r∈z.recs,vld r.name=true) (hs:Gq0 z.recs):∀(n:Nat) (done l:List Rec) (cut red:List UInt8) (soa:Bool),l.length≤n→z.recs=done++l→(∀a∈done,∀b∈l,ltN a.name b.name)→GInv z done l cut red→
  (vf z.origin (grp l) cut red soa=true↔(∀g∈grp l,jw z g=true)∧(soa=true∨∃r∈l,r.name=z.origin))
 |n,done,[],cut,red,soa,_,_,_,_=>by simp [grp,W6,vf]
 |0,done,x::r,cut,red,soa,hn,_,_,_=>by simp at hn
 |n+1,done,x::r,cut,red,soa,hn,hz,hlt,hI=>by
  obtain ⟨g,l',h1,h2,h3,h4,h5⟩:=Tm x r;have hnm:nmG g=x.name:=Ex7 h2 h3;have hmem:∀y∈g,y∈x::r:=fun y hy=>by rw [h1];exact Cy _ hy
  have hmem':∀y∈l',y∈x::r:=fun y hy=>by rw [h1];exact Bs _ hy
  have hzx:∀y∈x::r,y∈z.recs:=fun y hy=>by rw [hz];exact Bs _ hy
  have hvx:vld x.name=true:=hv x (hzx x (.head _));have hgl:∀b∈l',ltN x.name b.name:=by
   have hs2:Gq0 (g++l'):=by rw [←h1];have:=hs;rw [hz] at this;exact (Fz.1 this).2.1
   have hs3:=Fz.1 hs2;cases l' with
   |nil=>intro b hb;cases hb
   |cons y l''=>
    have hy:ltN x.name y.name:=by
     obtain ⟨w,hw⟩:=Ep g h2;have k:=hs3.2.2 w hw y (.head _);rw [h3 w hw] at k;rcases to_N.tri x.name y.name with q|q|q
     ·exact q
     ·exact absurd q.symm (h4 y rfl)
     ·exact absurd q k
    intro b hb;rcases Am.1 hb with rfl|hb
    ·exact hy
    ·have k:=(A0.1 hs3.2.1).1 b hb;rcases to_N.tri y.name b.name with q|q|q
     ·exact to_N.tr _ _ _ hy q
     ·rw [←q];exact hy
     ·exact absurd q k
  have habove:∀w∈z.recs,under x.name w.name=true→x.name≠w.name→w∈done:=fun w hw hu hne=>by
   rw [hz] at hw;rcases B5.1 hw with hw|hw
   ·exact hw
   ·exfalso;have k:=Px hu hne;rw [h1] at hw;rcases B5.1 hw with hw|hw
    ·exact hne (h3 w hw).symm
    ·exact to_N.asym k (hgl w hw)
  have hcut:decide (D2 x.name cut≠[])=Ng z x.name:=by
   rw [Cr,decide_eq_true_eq];unfold Ng D2;rw [Bm];constructor
   ·intro k;have c0:cut≠[]:=fun e=>by rw [e] at k;simp at k
    have c1:under x.name cut=true:=by
     rcases Ak (under x.name cut) with q|q
     ·exact q
     ·rw [if_pos ⟨c0,q⟩] at k;exact absurd rfl k
    obtain ⟨w,w1,w2,w3⟩:=hI.cut1 c0;refine ⟨w,by rw [hz];exact Cy _ w1,?_⟩;have:w.name≠x.name:=fun e=>to_N.irr _ (by have:=hlt w w1 x (.head _);rw [e] at this;exact this);rw [w2,w3];rw [w3] at this;simp [this,c1]
   ·rintro ⟨w,w1,w2⟩;simp only [Av,decide_eq_true_eq] at w2;have wd:=habove w w1 w2.2 (fun e=>w2.1.2 e.symm);obtain ⟨c0,c1⟩:=hI.cut2 x (.head _) w wd w2.1.1 w2.2;rw [if_neg (by simp [c1])];exact c0
  have hred:decide (D2 x.name red≠[])=En7 z x.name:=by
   rw [Cr,decide_eq_true_eq];unfold En7 D2 En;rw [Bm];constructor
   ·intro k;have c0:red≠[]:=fun e=>by rw [e] at k;simp at k
    have c1:under x.name red=true:=by
     rcases Ak (under x.name red) with q|q
     ·exact q
     ·rw [if_pos ⟨c0,q⟩] at k;exact absurd rfl k
    obtain ⟨w,w1,w2,w3⟩:=hI.red1 c0;refine ⟨w,by rw [hz];exact Cy _ w1,?_⟩;have:x.name≠w.name:=fun e=>to_N.irr _ (by have:=hlt w w1 x (.head _);rw [e] at this;exact this);rw [w3] at this ⊢;simp [this,c1,w2]
   ·rintro ⟨w,w1,w2⟩;simp only [Av,decide_eq_true_eq] at w2;have wd:=habove w w1 w2.2.2 w2.2.1;obtain ⟨c0,c1⟩:=hI.red2 x (.head _) w wd w2.1 w2.2.2;rw [if_neg (by simp [c1])];exact c0
  have hex:(∃w∈x::r,w.name=z.origin)↔(x.name=z.origin∨∃w∈l',w.name=z.origin):=by
   rw [h1];constructor
   ·rintro ⟨w,w1,w2⟩;rcases B5.1 w1 with w1|w1
    ·exact .inl (by rw [←h3 w w1];exact w2)
    ·exact .inr ⟨w,w1,w2⟩
   ·rintro (k|⟨w,w1,w2⟩)
    ·obtain ⟨w,hw⟩:=Ep g h2;exact ⟨w,Cy _ hw,by rw [h3 w hw];exact k⟩
    ·exact ⟨w,Bs _ w1,w2⟩
  rw [h5,hex];simp only [vf,hnm,Am,forall_eq_or_imp];have hp0:jw z g=propG z.origin g (Ng z x.name) (En7 z x.name):=by unfold jw;rw [hnm]
  rw [hp0];rw [hcut,hred];by_cases hp:propG z.origin g (Ng z x.name) (En7 z x.name)=true
  ·rw [if_pos hp];obtain ⟨pu,pr⟩:=sk hp;rw [hnm] at pu;have hlen:=congrArg List.length h1;have hg0:0<g.length:=Bc.2 h2;simp only [Ab,A5] at hlen hn;have hmid:∀m∈l',∀w∈done,under m.name w.name=true→under x.name w.name=true:=fun m hm w hw hu=>
    Pw hvx hu (fun k=>to_N.asym (hlt w hw x (.head _)) k) (fun k=>to_N.asym (hgl m hm) k)
   have hredE:D2 x.name red=[]:=by have:=hred;rw [pr] at this;simpa using this
   have ih:=Ag3 z hv hs n (done++g) l' (if D2 x.name cut=[]∧x.name≠z.origin∧Gc g 2=true then x.name else D2 x.name cut) (if Gc g 39=true then x.name else D2 x.name red) (soa||decide (x.name=z.origin)) (by omega) (by rw [hz,h1,As])
    (fun a ha b hb=>by
     rcases B5.1 ha with ha|ha
     ·exact hlt a ha b (hmem' b hb)
     ·rw [h3 a ha];exact hgl b hb)
    ⟨?_,?_,?_,?_⟩
   ·rw [ih];simp only [An,decide_eq_true_eq,hp,true_and];constructor
    ·rintro ⟨k1,(k2|k2)|k2⟩
     ·exact ⟨k1, .inl k2⟩
     ·exact ⟨k1, .inr (.inl k2)⟩
     ·exact ⟨k1, .inr (.inr k2)⟩
    ·rintro ⟨k1,k2|k2|k2⟩
     ·exact ⟨k1, .inl (.inl k2)⟩
     ·exact ⟨k1, .inl (.inr k2)⟩
     ·exact ⟨k1, .inr k2⟩
   ·-- the cut is one
    intro k;by_cases c:D2 x.name cut=[]∧x.name≠z.origin∧Gc g 2=true
    ·rw [if_pos c];obtain ⟨w,w1,w2⟩:=Bm.1 c.2.2;simp only [decide_eq_true_eq] at w2;refine ⟨w,Bs _ w1,?_,h3 w w1⟩;unfold C7 En;rw [h3 w w1];simp [w2,pu,c.2.1]
    ·rw [if_neg c] at k ⊢;have c0:cut≠[]:=fun e=>by rw [e] at k;simp [D2] at k
     have c1:D2 x.name cut=cut:=by
      unfold D2 at k ⊢;by_cases q:cut≠[]∧under x.name cut=false
      ·rw [if_pos q] at k;exact absurd rfl k
      ·rw [if_neg q]
     rw [c1];obtain ⟨w,w1,w2⟩:=hI.cut1 c0;exact ⟨w,Cy _ w1,w2⟩
   ·intro m hm w hw hc hu;rcases B5.1 hw with hw|hw
    ·have hxu:=hmid m hm w hw hu;obtain ⟨c0,c1⟩:=hI.cut2 x (.head _) w hw hc hxu;obtain ⟨_,c2⟩:=hI.cut2 m (hmem' m hm) w hw hc hu;have c3:D2 x.name cut=cut:=by unfold D2;rw [if_neg (by simp [c1])]
     rw [c3,if_neg (by simp [c0])];exact ⟨c0,c2⟩
    ·rw [h3 w hw] at hu;have hc':=hc;unfold C7 En at hc';rw [h3 w hw] at hc';simp only [Av,decide_eq_true_eq] at hc';have hns:Gc g 2=true:=Bm.2 ⟨w,hw,by simp [hc'.1]⟩;by_cases c:D2 x.name cut=[]
     ·rw [if_pos ⟨c,hc'.2.1,hns⟩];exact ⟨pp hvx,hu⟩
     ·rw [if_neg (by simp [c])];have q:¬(cut≠[]∧under x.name cut=false):=fun q=>c (by unfold D2;rw [if_pos q]);have c1:D2 x.name cut=cut:=by unfold D2;rw [if_neg q]
      rw [c1] at c ⊢;have c2:under x.name cut=true:=by
       rcases Ak (under x.name cut) with k|k
       ·exact k
       ·exact absurd ⟨c,k⟩ q
      exact ⟨c,Bb6 hu c2⟩
   ·intro k;rw [hredE] at k ⊢;by_cases c:Gc g 39=true
    ·rw [if_pos c];obtain ⟨w,w1,w2⟩:=Bm.1 c;simp only [decide_eq_true_eq] at w2;exact ⟨w,Bs _ w1,w2,h3 w w1⟩
    ·rw [if_neg c] at k;exact absurd rfl k
   ·intro m hm w hw hc hu;rcases B5.1 hw with hw|hw
    ·exfalso;have hxu:=hmid m hm w hw hu;obtain ⟨c0,c1⟩:=hI.red2 x (.head _) w hw hc hxu;have:D2 x.name red=red:=by unfold D2;rw [if_neg (by simp [c1])]
     rw [this] at hredE;exact c0 hredE
    ·rw [h3 w hw] at hu;have hd:Gc g 39=true:=Bm.2 ⟨w,hw,by simp [hc]⟩;rw [if_pos hd];exact ⟨pp hvx,hu⟩
  ·rw [if_neg hp];simp [hp]
end Go.X.G
/- Zones by the names of their records: the program's conditions are the reference's. -/
namespace Go.X.G
open Go Go.X
def Bm2 {l:List Rec} (h:l.Pairwise ltR):Gq0 l:=h.imp fun {a b} k=>by
 rcases k with k|⟨k,_⟩
 ·exact to_N.asym k
 ·have k':a.name=b.name:=k;rw [k'];exact to_N.irr _
def Ch1:∀(n:Nat) (l:List Rec),l.length≤n→Gq0 l→(∀g∈grp l,g≠[]∧g=l.filter fun r=>decide (r.name=nmG g))∧∀r∈l,∃g∈grp l,nmG g=r.name∧r∈g
 |_,[],_,_=>by simp [grp,W6]
 |0,x::r,hn,_=>by simp at hn
 |n+1,x::r,hn,hs=>by
  obtain ⟨g,l',h1,h2,h3,h4,h5⟩:=Tm x r;have hnm:nmG g=x.name:=Ex7 h2 h3;have hs2:Gq0 (g++l'):=by rw [←h1];exact hs
  have hs3:=Fz.1 hs2;have hgl:∀b∈l',ltN x.name b.name:=by
   cases l' with
   |nil=>intro b hb;cases hb
   |cons y l''=>
    have hy:ltN x.name y.name:=by
     obtain ⟨w,hw⟩:=Ep g h2;have k:=hs3.2.2 w hw y (.head _);rw [h3 w hw] at k;rcases to_N.tri x.name y.name with q|q|q
     ·exact q
     ·exact absurd q.symm (h4 y rfl)
     ·exact absurd q k
    intro b hb;rcases Am.1 hb with rfl|hb
    ·exact hy
    ·have k:=(A0.1 hs3.2.1).1 b hb;rcases to_N.tri y.name b.name with q|q|q
     ·exact to_N.tr _ _ _ hy q
     ·rw [←q];exact hy
     ·exact absurd q k
  have hlen:=congrArg List.length h1;have hg0:0<g.length:=Bc.2 h2;simp only [Ab,A5] at hlen hn;obtain ⟨i1,i2⟩:=Ch1 n l' (by omega) hs3.2.1;rw [h5];refine ⟨fun g' hg'=> ?_,fun w hw=> ?_⟩
  ·rcases Am.1 hg' with rfl|hg'
   ·refine ⟨h2,?_⟩;rw [hnm,h1,D7];have e1:(g'.filter fun r=>decide (r.name=x.name))=g':=List.filter_eq_self.2 fun y hy=>by simp [h3 y hy]
    have e2:(l'.filter fun r=>decide (r.name=x.name))=[]:=F3.2 fun y hy=>by have:=hgl y hy;intro k;simp only [decide_eq_true_eq] at k;rw [k] at this;exact to_N.irr _ this
    rw [e1,e2,D4]
   ·obtain ⟨j1,j2⟩:=i1 g' hg';refine ⟨j1,?_⟩;rw [h1,D7];have e1:(g.filter fun r=>decide (r.name=nmG g'))=[]:=F3.2 fun y hy=>by intro k;simp only [decide_eq_true_eq] at k;obtain ⟨w,hw⟩:=Ep g' j1;have hw2:=hw;rw [j2] at hw2;obtain ⟨q1,q2⟩:=Bz.1 hw2;simp only [decide_eq_true_eq] at q2;have:=hgl w q1;rw [q2,←k,h3 y hy] at this;exact to_N.irr _ this
    rw [e1,Ch];exact j2
  ·rw [h1] at hw;rcases B5.1 hw with hw|hw
   ·exact ⟨g, .head _,by rw [hnm,h3 w hw],hw⟩
   ·obtain ⟨g',q1,q2⟩:=i2 w hw;exact ⟨g', .tail _ q1,q2⟩
def Gl2 (l:List Rec) (n:List UInt8) (t:Int):Gc (l.filter fun r=>decide (r.name=n)) t=m8 l n t:=by
 rw [Cr];unfold Gc m8 findR;rw [Bm,decide_eq_true_eq,List.length_pos_iff_exists_mem];constructor
 ·rintro ⟨x,h1,h2⟩;obtain ⟨h3,h4⟩:=Bz.1 h1;exact ⟨x,Bz.2 ⟨h3,by unfold isK;rw [h4,h2];rfl⟩⟩
 ·rintro ⟨x,h1⟩;obtain ⟨h3,h4⟩:=Bz.1 h1;unfold isK at h4;rw [Av] at h4;exact ⟨x,Bz.2 ⟨h3,h4.1⟩,h4.2⟩
def Dr1 (l:List Rec) (n:List UInt8) (t:Int):m8 l n t=true↔∃r∈l,r.name=n∧r.typ=t:=by
 unfold m8 findR;rw [decide_eq_true_eq,List.length_pos_iff_exists_mem];constructor
 ·rintro ⟨x,h1⟩;obtain ⟨h3,h4⟩:=Bz.1 h1;unfold isK at h4;simp only [Av,decide_eq_true_eq] at h4;exact ⟨x,h3,h4⟩
 ·rintro ⟨x,h1,h2,h3⟩;exact ⟨x,Bz.2 ⟨h1,by unfold isK;simp [h2,h3]⟩⟩
abbrev sng (t:Int):Prop:=t=6∨t=5∨t=39
def two (x y:Rec):Prop:=x.typ=y.typ→(x≠y→¬sng x.typ)∧(x.typ≠46→x.ttl=y.ttl)
def Dv2 {x y:Rec} (h:two x y):two y x:=fun e=>by obtain ⟨h1,h2⟩:=h e.symm;exact ⟨fun k=>by rw [e];exact h1 k.symm,fun k=>(h2 (by rw [←e];exact k)).symm⟩
def Dv3 (x:Rec):two x x:=fun _=>⟨fun k=>absurd rfl k,fun _=>rfl⟩
def Cz1 {a b:Rec} (h:ltR a b) (e:a.name=b.name):a.typ≤b.typ:=by
 rcases h with h|⟨_,h|⟨h,_⟩⟩
 ·have h':ltN a.name b.name:=h;rw [e] at h';exact absurd h' (to_N.irr _)
 ·have h':a.typ<b.typ:=h;omega
 ·have h':a.typ=b.typ:=h;omega
def Cz2 {a b:Rec} (h:ltR a b):a≠b:=fun e=>by rw [e] at h;exact to_K.irr _ h
def zg:∀(r:List Rec) (p:Rec),(p::r).Pairwise ltR→(∀x∈r,x.name=p.name)→(Xx p r=true↔(p::r).Pairwise two)
 |[],p,_,_=>by simp [Xx]
 |x::r,p,hs,hn=>by
  obtain ⟨h1,h2⟩:=A0.1 hs;obtain ⟨h3,h4⟩:=A0.1 h2;have hx:=hn x (.head _);have ih:=zg r x h2 (fun y hy=>by rw [hn y (.tail _ hy),hx]);have hpx:(!decide (x.typ=p.typ)||(!(decide (x.typ=6)||decide (x.typ=5)||decide (x.typ=39)) && (decide (x.typ=46)||decide (x.ttl=p.ttl))))=true↔two p x:=by
   have hne:p≠x:=Cz2 (h1 x (.head _));unfold two sng;simp only [An,Av,A6,decide_eq_false_iff_not,decide_eq_true_eq,I9];constructor
   ·rintro (k|⟨k1,k2⟩) e
    ·exact absurd e.symm k
    ·refine ⟨fun _=>by rw [e];omega,fun k=> ?_⟩;rcases k2 with k2|k2
     ·exact absurd (e.trans k2) k
     ·exact k2.symm
   ·intro h;by_cases e:x.typ=p.typ
    ·obtain ⟨a,b⟩:=h e.symm;have a':=a hne;refine .inr ⟨by rw [e];omega,?_⟩;by_cases k:x.typ=46
     ·exact .inl k
     ·exact .inr (b (by rw [←e];exact k)).symm
    ·exact .inl e
  have step:Xx p (x::r)=true↔two p x∧Xx x r=true:=by simp only [Xx];rw [Av,hpx]
  rw [step,ih,A0 (a:=p)];constructor
  ·rintro ⟨k1,k2⟩;refine ⟨fun y hy=> ?_,k2⟩;rcases Am.1 hy with rfl|hy
   ·exact k1
   ·intro e;have t1:=Cz1 (h1 x (.head _)) hx.symm;have t2:=Cz1 (h3 y hy) (by rw [hx,hn y (.tail _ hy)]);have e1:p.typ=x.typ:=by omega
    obtain ⟨a1,a2⟩:=k1 e1;obtain ⟨b1,b2⟩:=(A0.1 k2).1 y hy (by omega);exact ⟨fun _=>a1 (Cz2 (h1 x (.head _))),fun k=>by rw [a2 k];exact b2 (by omega)⟩
  ·rintro ⟨k1,k2⟩;exact ⟨k1 x (.head _),k2⟩
def Dv1 {g:List Rec} {n:List UInt8} (hs:g.Pairwise ltR) (hn:∀x∈g,x.name=n):Dj6 g=true↔∀x∈g,∀y∈g,two x y:=by
 have:Dj6 g=true↔g.Pairwise two:=by
  cases g with
  |nil=>simp [Dj6]
  |cons p r=>exact zg r p hs fun x hx=>by rw [hn x (.tail _ hx),hn p (.head _)]
 rw [this];constructor
 ·intro h x hx y hy;obtain ⟨i,hi⟩:=Dk hx;obtain ⟨j,hj⟩:=Dk hy;obtain ⟨i1,i2⟩:=Aw.1 hi;obtain ⟨j1,j2⟩:=Aw.1 hj;rcases Nat.lt_trichotomy i j with k|k|k
  ·have:=Dt.1 h i j i1 j1 k;rw [i2,j2] at this;exact this
  ·subst k;rw [←i2,←j2];exact Dv3 _
  ·have:=Dt.1 h j i j1 i1 k;rw [i2,j2] at this;exact Dv2 this
 ·intro h;rw [Dt];intro i j hi hj _;exact h _ (Dd hi) _ (Dd hj)
def Sp (r x:Rec):Qc r x=true↔(x.name=r.name→two r x∧(r.typ=5→x.typ=5∨x.typ=46∨x.typ=47)):=by
 unfold Qc two sng;by_cases h:x.name=r.name
 ·simp only [h,decide_true,Lg,Hd,true_implies,Av,A6,Gv,decide_eq_false_iff_not,I9,ne_eq,F7];by_cases e:x.typ=r.typ
  ·have e':r.typ=x.typ:=e.symm;simp only [e,not_true_eq_false,false_or,true_implies];constructor
   ·rintro ⟨⟨h1,h2⟩,h3⟩;refine ⟨⟨fun k q=> ?_,fun k=> ?_⟩,fun k=>by omega⟩
    ·rcases h2 with h2|h2
     ·omega
     ·exact k h2.symm
    ·rcases h1 with h1|h1
     ·exact absurd h1 k
     ·exact h1.symm
   ·rintro ⟨⟨h1,h2⟩,h3⟩;refine ⟨⟨?_,?_⟩,by omega⟩
    ·by_cases k:r.typ=46
     ·exact .inl k
     ·exact .inr (h2 k).symm
    ·by_cases k:r=x
     ·exact .inr k.symm
     ·have:=h1 k;left;omega
  ·have e':¬r.typ=x.typ:=fun q=>e q.symm;simp only [e,e',not_false_eq_true,true_or,true_and,false_implies];omega
 ·simp [h]
set_option maxHeartbeats 1000000 in
def Bn7 (z:Zone) (hv:∀r∈z.recs,Ql r=true) (hr:z.recs.Pairwise ltR):
  ((∀g∈grp z.recs,jw z g=true)∧∃r∈z.recs,r.name=z.origin)↔((findR z.recs z.origin 6).length=1∧m8 z.recs z.origin 2=true∧∀r∈z.recs,Rv z r=true):=by
 obtain ⟨ga,gb⟩:=Ch1 z.recs.length z.recs (Af _) (Bm2 hr);have gm:∀g∈grp z.recs,∀x,x∈g↔x∈z.recs∧x.name=nmG g:=fun g hg x=>by
  have:=(ga g hg).2;constructor
  ·intro h;rw [this] at h;obtain ⟨a,b⟩:=Bz.1 h;exact ⟨a,by simpa using b⟩
  ·rintro ⟨a,b⟩;rw [this];exact Bz.2 ⟨a,by simpa using b⟩
 have gh:∀g∈grp z.recs,∀t,Gc g t=m8 z.recs (nmG g) t:=fun g hg t=>by have:=Gl2 z.recs (nmG g) t;rwa [←(ga g hg).2] at this
 have gu:∀g∈grp z.recs,(Dj6 g=true↔∀x∈g,∀y∈g,two x y):=fun g hg=>by refine Dv1 (n:=nmG g) ?_ fun x hx=>((gm g hg x).1 hx).2;rw [(ga g hg).2];exact hr.filter _
 have hstar:∀r∈z.recs,(r.name[0]? =some 42↔(lbl r.name)[0]? =some [42]):=fun r h=>Q9 (gz (hv r h));constructor
 ·rintro ⟨hp,r0,hr0,hr0n⟩;have hpg:∀r∈z.recs,∃g∈grp z.recs,nmG g=r.name∧r∈g∧jw z g=true:=fun r h=>by obtain ⟨g,h1,h2,h3⟩:=gb r h;exact ⟨g,h1,h2,h3,hp g h1⟩
  obtain ⟨g0,k1,k2,k3,k4⟩:=hpg r0 hr0;rw [hr0n] at k2;have k5:=k4;unfold jw propG at k5;simp only [k2,Av,decide_eq_true_eq,decide_true,Lg,Hd] at k5;have s6:m8 z.recs z.origin 6=true:=by rw [←k2,←gh g0 k1,k5.1.1.1.1.1.1.1.2]
  have s2:m8 z.recs z.origin 2=true:=by rw [←k2,←gh g0 k1,k5.1.1.1.1.1.2]
  refine ⟨?_,s2,fun r h=> ?_⟩
  ·-- one SOA record
   have hpos:0<(findR z.recs z.origin 6).length:=by unfold m8 at s6;simpa using s6
   have hpw:(findR z.recs z.origin 6).Pairwise ltR:=hr.filter _;have hmm:∀x∈findR z.recs z.origin 6,x∈g0∧x.typ=6:=fun x hx=>by obtain ⟨a,b⟩:=Bz.1 hx;unfold isK at b;simp only [Av,decide_eq_true_eq] at b;exact ⟨(gm g0 k1 x).2 ⟨a,by rw [b.1,k2]⟩,b.2⟩
   have hu:=(gu g0 k1).1 k5.1.1.1.1.1.1.2;generalize findR z.recs z.origin 6=l at*
   match l,hpos,hpw,hmm with
   |[a],_,_,_=>rfl
   |a::b::r,_,hpw,hmm=>
    exfalso;have hab:=(A0.1 hpw).1 b (.head _);obtain ⟨a1,a2⟩:=hmm a (.head _);obtain ⟨b1,b2⟩:=hmm b (.tail _ (.head _));exact ((hu a a1 b b1 (by rw [a2,b2])).1 (Cz2 hab)) (.inl a2)
  ·obtain ⟨g,h1,h2,h3,h4⟩:=hpg r h;unfold jw propG at h4;rw [h2] at h4;simp only [Av,decide_eq_true_eq,An,A6,decide_eq_false_iff_not,Gv] at h4;obtain ⟨⟨⟨⟨⟨⟨⟨⟨p1,p2⟩,p3⟩,p4⟩,p5⟩,p6⟩,p7⟩,p8⟩,p9⟩:=h4;have hu:=(gu g h1).1 p3;have hon:∀ts,Jg g ts=true→r.typ∈ts:=fun ts k=>by have:=By.1 k r h3;simpa using this
   have has:∀t,r.typ=t→Gc g t=true:=fun t e=>Bm.2 ⟨r,h3,by simp [e]⟩;unfold Rv;simp only [Av,A6,Gv,decide_eq_false_iff_not,ne_eq,F7];refine ⟨⟨⟨p1,?_⟩,?_⟩,?_⟩
   ·by_cases e:r.typ=6
    ·right;rw [has 6 e] at p2;simpa using p2.symm
    ·exact .inl e
   ·unfold d8;rw [By];intro x hx;rw [Sp];intro e;have hxg:x∈g:=(gm g h1 x).2 ⟨hx,by rw [h2,e]⟩;refine ⟨hu r h3 x hxg,fun e5=> ?_⟩;rcases p5 with p5|p5
    ·rw [has 5 e5] at p5;cases p5
    ·have:=By.1 p5 x hxg;simpa using this
   ·unfold Rw;have h9:¬((lbl r.name)[0]? =some [42]∧(r.typ=2∨r.typ=39)):=by
     rintro ⟨e1,e2⟩;rcases p9 with p9|⟨q1,q2⟩
     ·exact p9 ((hstar r h).2 e1)
     ·rcases e2 with e2|e2
      ·rw [has 2 e2] at q1;cases q1
      ·rw [has 39 e2] at q2;cases q2
    rw [if_neg h9,Av];refine ⟨By.2 fun x hx=> ?_,?_⟩
    ·unfold Pn;simp only [Av,A6,Gv,decide_eq_false_iff_not,ne_eq,F7];constructor
     ·by_cases e:x.typ=39
      ·right;rcases Ak (En r.name x.name) with q|q
       ·have:En7 z r.name=true:=Bm.2 ⟨x,hx,by simp [e,q]⟩;rw [this] at p6;cases p6
       ·exact q
      ·exact .inl e
     ·by_cases e:x.typ=2∧En x.name z.origin=true∧En r.name x.name=true
      ·have q:=e.2.2;unfold En at q;simp only [Av,decide_eq_true_eq] at q;have:Ng z r.name=true:=Bm.2 ⟨x,hx,by unfold C7;simp [e.1,e.2.1,q.2];exact fun k=>q.1 k.symm⟩;rcases p7 with p7|p7
       ·rw [this] at p7;cases p7
       ·have:=hon _ p7;simp at this;rcases this with this|this
        ·exact .inl (.inr this)
        ·exact .inr this
      ·by_cases e1:x.typ=2
       ·by_cases e2:En x.name z.origin=true
        ·have e3:En r.name x.name=false:=by
          rcases Ak (En r.name x.name) with q|q
          ·exact absurd ⟨e1,e2,q⟩ e
          ·exact q
         exact .inl (.inl (.inr e3))
        ·exact .inl (.inl (.inl (.inr (by simpa using e2))))
       ·exact .inl (.inl (.inl (.inl e1)))
    ·have hb:En r.name z.origin= !decide (r.name=z.origin):=by unfold En;rw [p1];simp
     rw [hb,←h2,←gh g h1 2,h2];by_cases c:¬r.name=z.origin∧Gc g 2=true
     ·have cb:(!decide (r.name=z.origin) && Gc g 2)=true:=by simp [c]
      rw [if_pos c] at p8;rw [if_pos cb];have:=hon _ p8;unfold ay;simp at this ⊢;omega
     ·have cb:¬(!decide (r.name=z.origin) && Gc g 2)=true:=by simpa using c
      rw [if_neg c] at p8;rw [if_neg cb];simp only [A6] at p8;rw [decide_eq_true_eq];intro e;rw [has 43 e] at p8;cases p8
 ·rintro ⟨h1,h2,h3⟩;have hrr:∃r∈z.recs,r.name=z.origin:=by obtain ⟨r,k1,k2,_⟩:=(Dr1 _ _ _).1 h2;exact ⟨r,k1,k2⟩
  refine ⟨fun g hg=> ?_,hrr⟩;obtain ⟨r,hrg⟩:=Ep g (ga g hg).1;obtain ⟨hrz,hrn⟩:=(gm g hg r).1 hrg;have hrec:∀x∈g,under x.name z.origin=true∧(x.typ=6→x.name=z.origin)∧(∀y∈g,two x y∧(x.typ=5→y.typ=5∨y.typ=46∨y.typ=47))∧Rw z x=true:=fun x hx=>by
   obtain ⟨a,b⟩:=(gm g hg x).1 hx;have k:=h3 x a;unfold Rv at k;simp only [Av,A6,Gv,decide_eq_false_iff_not,ne_eq,F7] at k;refine ⟨k.1.1.1,fun e=> ?_,fun y hy=> ?_,k.2⟩
   ·rcases k.1.1.2 with q|q
    ·exact absurd e q
    ·exact q
   ·obtain ⟨c,d⟩:=(gm g hg y).1 hy;have q:=k.1.2;unfold d8 at q;exact (Sp x y).1 (By.1 q y c) (by rw [d,b])
  have hpl:∀x∈g,¬((lbl x.name)[0]? =some [42]∧(x.typ=2∨x.typ=39))∧z.recs.all (Pn z x)=true∧(if En x.name z.origin && m8 z.recs x.name 2 then ay x.typ else decide (x.typ≠43))=true:=fun x hx=>by
   have k:=(hrec x hx).2.2.2;unfold Rw at k;by_cases q:(lbl x.name)[0]? =some [42]∧(x.typ=2∨x.typ=39)
   ·rw [if_pos q] at k;cases k
   ·rw [if_neg q,Av] at k;exact ⟨q,k⟩
  have hnx:∀x∈g,x.name=nmG g:=fun x hx=>((gm g hg x).1 hx).2;unfold jw propG;simp only [Av,decide_eq_true_eq,An,A6,decide_eq_false_iff_not,Gv];refine ⟨⟨⟨⟨⟨⟨⟨⟨?_,?_⟩,?_⟩,?_⟩,?_⟩,?_⟩,?_⟩,?_⟩,?_⟩
  ·rw [←hrn];exact (hrec r hrg).1
  ·rw [Cr,decide_eq_true_eq];constructor
   ·intro k;obtain ⟨x,x1,x2⟩:=Bm.1 k;rw [←hnx x x1];exact (hrec x x1).2.1 (by simpa using x2)
   ·intro k;rw [gh g hg,k];unfold m8;simp [h1]
  ·exact (gu g hg).2 fun x hx y hy=>((hrec x hx).2.2.1 y hy).1
  ·by_cases e:nmG g=z.origin
   ·right;rw [gh g hg,e];exact h2
   ·exact .inl e
  ·by_cases e:Gc g 5=true
   ·right;obtain ⟨x,x1,x2⟩:=Bm.1 e;refine By.2 fun y hy=> ?_;have:=((hrec x x1).2.2.1 y hy).2 (by simpa using x2);simpa using this
   ·exact .inl (by simpa using e)
  ·rcases Ak (En7 z (nmG g)) with q|q
   ·exfalso;obtain ⟨w,w1,w2⟩:=Bm.1 q;have k:=By.1 (hpl r hrg).2.1 w w1;unfold Pn at k;rw [hrn] at k;rw [w2] at k;simp at k
   ·exact q
  ·rcases Ak (Ng z (nmG g)) with q|q
   ·right;obtain ⟨w,w1,w2⟩:=Bm.1 q;unfold C7 at w2;simp only [Av,decide_eq_true_eq] at w2;refine By.2 fun x hx=> ?_;have k:=By.1 (hpl x hx).2.1 w w1;unfold Pn at k;have hb:En x.name w.name=true:=by unfold En;rw [hnx x hx];have:nmG g≠w.name:=fun e=>w2.1.2 e.symm;simp [this,w2.2]
    rw [hb,w2.1.1.2] at k;simp [w2.1.1.1] at k;have k':x.typ=1∨x.typ=28:=by omega
    simpa using k'
   ·exact .inl q
  ·have hbn:En (nmG g) z.origin= !decide (nmG g=z.origin):=by unfold En;rw [←hrn,(hrec r hrg).1];simp
   by_cases c0:¬nmG g=z.origin∧Gc g 2=true
   ·have c:(!decide (nmG g=z.origin) && Gc g 2)=true:=by simp [c0]
    rw [if_pos c0];refine By.2 fun x hx=> ?_;have k:=(hpl x hx).2.2;rw [hnx x hx,hbn,←gh g hg,if_pos c] at k;unfold ay at k;simp at k ⊢;omega
   ·have c:¬(!decide (nmG g=z.origin) && Gc g 2)=true:=by simpa using c0
    rw [if_neg c0];simp only [A6];rcases Ak (Gc g 43) with q|q
    ·exfalso;obtain ⟨x,x1,x2⟩:=Bm.1 q;have k:=(hpl x x1).2.2;rw [hnx x x1,hbn,←gh g hg,if_neg c] at k;simp at x2 k;exact k x2
    ·exact q
  ·by_cases e:(nmG g)[0]? =some 42
   ·right;rw [←hrn] at e;have e2:=(hstar r hrz).1 e;constructor
    ·rcases Ak (Gc g 2) with q|q
     ·exfalso;obtain ⟨x,x1,x2⟩:=Bm.1 q;refine (hpl x x1).1 ⟨by rw [hnx x x1,←hrn];exact e2, .inl (by simpa using x2)⟩
     ·exact q
    ·rcases Ak (Gc g 39) with q|q
     ·exfalso;obtain ⟨x,x1,x2⟩:=Bm.1 q;refine (hpl x x1).1 ⟨by rw [hnx x x1,←hrn];exact e2, .inr (by simpa using x2)⟩
     ·exact q
   ·exact .inl e
end Go.X.G
/- Data of records in the program: which are valid. -/
namespace Go.X.G
open Go Go.X
def o4 (s t:List UInt8) (hs:s.length≤9223372036854775807):S kz 2 [.s s, .s t]=some [.b (t.isPrefixOf s)]:=by
 refine Fr2 (N:=1) rfl ?_;have h:S kv 2 [.s s, .s t]=some [.b (t.isPrefixOf s)]:=by
  refine Fp3 (N:=1) rfl ?_;by_cases hl:(t.length:Int)≤(s.length:Int)
  ·simp (disch:=omega) only [Eq0,hl,EVC,xe,EVP,EV,simprocAttr];congr 4;rw [Cr,List.isPrefixOf_iff_prefix,List.prefix_iff_eq_take];simp;exact ⟨fun h=>h.symm,fun h=>h.symm⟩
  ·simp (disch:=omega) only [Eq0,hl,EVC,xe,EVP,EV,simprocAttr];congr 4;rw [eq_comm,C5];intro h;have:=(List.isPrefixOf_iff_prefix.1 h).length_le;omega
 simp (disch:=omega) only [Fd5,h,EVC,xe,EVP,EV,simprocAttr]
def Dy (n:List UInt8) (hn:n.length≤9223372036854775807):S N5 1 [.s n]=some [.b (Ik n)]:=by
 refine Ft0 (N:=1) rfl ?_;have h1:=B0 n hn;have h2:=o4 n [42] hn;unfold Ik;rcases Ak (vld n) with h|h
 ·rw [h] at h1;have e:([42]:List UInt8).isPrefixOf n=decide (n[0]? =some 42):=by
   cases n with
   |nil=>rfl
   |cons c r=>rw [Cr];simp [List.isPrefixOf];exact ⟨fun h=>h.symm,fun h=>h.symm⟩
  rw [e] at h2;simp (disch:=omega) only [Eq5,h1,h2,h,EVC,xe,EVP,EV,simprocAttr];by_cases h3:n[0]? =some 42<;>simp [h3]
 ·rw [h] at h1;simp (disch:=omega) only [Eq5,h1,h,EVC,xe,EVP,EV,simprocAttr];rfl
def C3 (n m:Int):S G8 2 [.i .i64 n, .i .i64 m]=some [.b (inB n m)]:=by refine Fs8 (N:=1) rfl ?_;unfold inB;by_cases h:0≤n<;>simp (disch:=omega) only [Ff4,h,EVC,xe,EVP,EV,simprocAttr]<;>simp
def D8 (s:List UInt8) (hs:s.length≤9223372036854775807):S U1 1 [.s s]=some [.b (Jf s)]:=by
 refine Fs7 (N:=1) rfl ?_;unfold Jf;by_cases h:(1:Int)≤(s.length:Int)
 ·have h':1≤s.length:=by omega
  simp (disch:=omega) only [Eq3,h,EVC,xe,EVP,EV,simprocAttr];by_cases h2:s.length≤255
  ·have h3:(s.length:Int)≤255:=by omega
   simp [h',h2,h3]
  ·have h3:¬(s.length:Int)≤255:=by omega
   simp [h2,h3]
 ·have h':¬1≤s.length:=by omega
  simp (disch:=omega) only [Eq3,h,EVC,xe,EVP,EV,simprocAttr];simp [h']
def C0 (d:Dat):S Yj 1 [Kn d]=some [.b (Eh d)]:=by
 refine Ft1 (N:=1) rfl ?_;unfold Eh;rcases Ak d.v6 with h|h
 ·simp (disch:=omega) only [Bd6,h,EVC,xe,EVP,EV,simprocAttr];simp
 ·by_cases h2:d.hi=0
  ·simp (disch:=omega) only [Bd6,h,h2,EVC,xe,EVP,EV,simprocAttr];by_cases h3:d.lo≤4294967295
   ·have:d.lo<4294967296:=by omega
    simp [h3,this]
   ·have:¬d.lo<4294967296:=by omega
    simp [h3,this]
  ·simp (disch:=omega) only [Bd6,h,h2,EVC,xe,EVP,EV,simprocAttr];simp
def C4 (n:Int):S lz 1 [.i .i64 n]=some [.b (inB n 4294967295)]:=by
 refine Fs9 (N:=1) rfl ?_;unfold inB;by_cases h:0≤n
 ·simp (disch:=omega) only [Eq4,h,EVC,xe,EVP,EV,simprocAttr];by_cases h3:n≤4294967295
  ·have:n<4294967296:=by omega
   simp [h3,this]
  ·have:¬n<4294967296:=by omega
   simp [h3,this]
 ·simp (disch:=omega) only [Eq4,h,EVC,xe,EVP,EV,simprocAttr];simp
def Ek7:Int:=501935916552294
def Ej:S lw 0 []=some [.i .u64 Ek7]:=by
 refine Fs6 (N:=20) rfl ?_;have key:Cf0.ev S 20 [uv kds]=some (.yld 0 [.i .u64 Ek7]):=by kernel_rfl
 simp (disch:=omega) only [Ff3,Ac6,key,Rc,EVC,xe,EVP,EV,simprocAttr]
def Al9 (x:Int):∀(k i:Nat),Fz8 x i k=true↔∀j,i≤j→j<i+k→bit x j=1→knw (j:Int)=true
 |0,i=>by simp only [Fz8,true_iff];intro j h1 h2;omega
 |k+1,i=>by
  simp only [Fz8,Av,An,A6,decide_eq_false_iff_not];rw [Al9 x k (i+1)];constructor
  ·rintro ⟨h1,h2⟩ j h3 h4 h5;rcases Nat.lt_or_eq_of_le h3 with h|h
   ·exact h2 j (by omega) (by omega) h5
   ·subst h;rcases h1 with h1|h1
    ·exact absurd h5 h1
    ·exact h1
  ·intro h;refine ⟨?_,fun j h1 h2 h3=>h j (by omega) (by omega) h3⟩;by_cases hb:bit x i=1
   ·exact .inr (h i (Af _) (by omega) hb)
   ·exact .inl hb
def Al5:∀i:Nat,i<64→(BitVec.ofInt 64 Ek7).getLsbD i=knw (i:Int):=by decide
def Cr8 (x:Int) (h0:0≤x) (h1:x≤18446744073709551615) (i:Nat) (hi:i<64):bit x i=1↔(BitVec.ofInt 64 x).getLsbD i=true:=by
 obtain ⟨n,rfl⟩:∃n:Nat,x=n:=⟨x.toNat,by omega⟩;have e:BitVec.ofInt 64 (n:Int)=BitVec.ofNat 64 n:=by simp
 rw [e,BitVec.getLsbD_ofNat];simp only [hi,decide_true,Qs,Nat.testBit_eq_decide_div_mod_eq,decide_eq_true_eq];unfold bit;constructor
 ·intro h;have:(((n / 2 ^ i % 2:Nat)):Int)=1:=by push_cast;exact h
  omega
 ·intro h;have:(((n / 2 ^ i % 2:Nat)):Int)=1:=by omega
  push_cast at this;exact this
def Ef (x:Int) (h0:0≤x) (h1:x≤18446744073709551615):decide (IntKind.u64.wrap ((BitVec.ofInt IntKind.u64.bits x &&& ~~~ BitVec.ofInt IntKind.u64.bits Ek7).toNat:Int)=0)=Fz8 x 0 64:=by
 have hb:IntKind.u64.bits=64:=rfl;have hw:IntKind.u64.wrap ((BitVec.ofInt 64 x &&& ~~~ BitVec.ofInt 64 Ek7).toNat:Int)=((BitVec.ofInt 64 x &&& ~~~ BitVec.ofInt 64 Ek7).toNat:Int):=by have:=(BitVec.ofInt 64 x &&& ~~~ BitVec.ofInt 64 Ek7).isLt;rw [Fb4]<;>omega
 rw [hb,hw,Cr,decide_eq_true_eq,Al9];constructor
 ·intro h j _ hj hb1;have hz:(BitVec.ofInt 64 x &&& ~~~ BitVec.ofInt 64 Ek7)=0#64:=BitVec.eq_of_toNat_eq (by simp only [BitVec.toNat_ofNat];omega);have:=congrArg (fun v=>v.getLsbD j) hz;simp only [L5,Hj9,BitVec.getLsbD_zero] at this;rw [(Cr8 x h0 h1 j (by omega)).1 hb1,Al5 j (by omega)] at this;have hj':j<64:=by omega
  simpa [hj'] using this
 ·intro h;have hz:(BitVec.ofInt 64 x &&& ~~~ BitVec.ofInt 64 Ek7)=0#64:=by
   apply BitVec.eq_of_getLsbD_eq;intro i hi;simp only [L5,Hj9,BitVec.getLsbD_zero];rw [Al5 i hi];rcases Ak ((BitVec.ofInt 64 x).getLsbD i) with q|q
   ·rw [h i (Ct _) (by omega) ((Cr8 x h0 h1 i hi).2 q)];simp
   ·rw [q];rfl
  rw [hz];rfl
end Go.X.G
/- Data of records in the program: numbers, names, bitmaps, addresses in bytes. -/
namespace Go.X.G
open Go Go.X
def Vf {L:List UInt8} {i:Nat} {c:UInt8} (h:L[i]? =some c):(Cc L)[i]? =some (.i .u8 (c.toNat:Int)):=by unfold Cc;rw [Bl,h];rfl
def ir (L:List UInt8) (k:IntKind) (z v:Int) (h0:0≤z) (h1:z<(L.length:Int)) (h2:0≤v) (h3:v<256):Pf 1 0 [.i .u8 v] (.l 1 (Cc L)) (.i k z)=some (.l 1 (Cc (L.set z.toNat (UInt8.ofNat v.toNat)))):=by
 have h4:z.toNat<L.length:=by omega
 have h5:=Vf (Ay h4);simp only [Pf,h0,h5,and_self,if_true,Az];have h6:Oz (.i .u8 (((L[z.toNat]'h4).toNat:Nat):Int)) 0 [.i .u8 v]=some (.i .u8 v):=rfl;rw [h6];have h7:((UInt8.ofNat v.toNat).toNat:Int)=v:=Cv9 v h2 h3;simp only [A7,Cc,List.map_set,h7]
def jj (n:Int) (h0:0≤n) (h1:n≤1000000):L0 1 (.i .i64 n) (.i .u8 0)=some (.l 1 (Cc (List.replicate n.toNat 0))):=by
 have h2:n≤(LIM:Int):=by simp only [LIM];omega
 have h3:(PV.i .u8 0).cells.length=1:=rfl;simp only [L0,h0,h2,h3,and_self,if_true];simp [Cc]
def Q0 (x:Int):IntKind.u8.wrap x=x % 256:=rfl
def En6 (n k:Nat) (hk:k<n) (B:List UInt8) (c:UInt8):(List.replicate (n - k) 0++B).set (n - 1 - k) c=List.replicate (n - (k+1)) 0++c::B:=by obtain ⟨m,hm⟩:∃m,n - k=m+1:=⟨n - k - 1,by omega⟩;rw [hm,show n - 1 - k=m by omega,show n - (k+1)=m by omega,List.replicate_succ',As,M8 _ _ (by simp)];simp
def Ez (v:Int) (n:Nat) (hn:n≤1000) (h0:0≤v) (h1:v≤9223372036854775807):S Gr 2 [.i .i64 v, .i .i64 (n:Int)]=some [.s (be v n)]:=by
 refine Fn8 (N:=n+2) rfl ?_;have key:Cd2.ev S (n+2) [.i .i64 v, .i .i64 (n:Int)]=some (.yld 0 [.l 1 (Cc (be v n))]):=by
  refine Gl n (fun k=>[.i .i64 (v / 256 ^ k), .l 1 (Cc (List.replicate (n - k) 0++be v k)), .i .i64 ((n:Int) - 1 - k)]) (fun _=> .yld 0 [.l 1 (Cc (be v n))]) ?_ (by omega) (fun k hk=> ?_) ?_
  ·simp (disch:=omega) only [jj,EVC,xe,EVP,EV,simprocAttr];simp [be]
  ·left;refine ⟨?_,rfl⟩;have h2:=Gp7 v k h0;have h3:=Gp8 v k h0;have h4:=Fw2 v k;have hl:(List.replicate (n - k) (0:UInt8)++be v k).length=n:=by rw [Ab,pf,E4];omega
   obtain ⟨c0,hg⟩:∃c0,(Cc (List.replicate (n - k) (0:UInt8)++be v k))[n - 1 - k]? =some c0:=⟨_,Vf (Ay (by omega))⟩;have hs:=En6 n k hk (be v k) (UInt8.ofNat (v / 256 ^ k % 256).toNat);have e1:((n:Int) - 1 - k).toNat=n - 1 - k:=by omega
   have e2:(n:Int) - 1 - ((k+1:Nat):Int)=(n:Int) - 1 - k - 1:=by omega
   have hge:(0:Int)≤(n:Int) - 1 - k:=by omega
   have hsh:bin .shr (.i .i64 (v / 256 ^ k)) (.i .u64 8)=some (.i .i64 (v / 256 ^ (k+1))):=by have:=Bh8 .i64 .u64 (v / 256 ^ k) 8 (by decide);rw [←h4];exact this
   have hbe:be v (k+1)=UInt8.ofNat (v / 256 ^ k % 256).toNat::be v k:=rfl;rw [e2,hbe,←hs];generalize List.replicate (n - k) (0:UInt8)++be v k=L at*;generalize v / 256 ^ (k+1)=w' at*;generalize v / 256 ^ k=w at*;have hset:=ir L .i64 ((n:Int) - 1 - k) (w % 256) (by omega) (by omega) (by omega) (by omega);rw [e1] at hset;simp (disch:=omega) only [Bd1,hge,hsh,Q0,e1,hg,hset,EVC,xe,EVP,EV,simprocAttr]
  ·refine ⟨?_,rfl⟩;have hge:¬(0:Int)≤(n:Int) - 1 - n:=by omega
   have e:List.replicate (n - n) (0:UInt8)++be v n=be v n:=by simp
   rw [e];simp (disch:=omega) only [Bd1,hge,EVC,xe,EVP,EV,simprocAttr]
 simp (disch:=omega) only [Bd1,key,EVC,xe,EVP,EV,simprocAttr]
def Ah7 (v:Int) (h0:0≤v) (h1:v≤18446744073709551615):S U0 1 [.i .u64 v]=some [.l 1 (Cc (be v 8))]:=by
 refine Fn6 (N:=10) rfl ?_;have hb:∀i,i<8→(be v 8)[i]? =some (UInt8.ofNat (v / 256 ^ (7 - i) % 256).toNat):=by
  intro i hi;have:i=0∨i=1∨i=2∨i=3∨i=4∨i=5∨i=6∨i=7:=by omega
  rcases this with rfl|rfl|rfl|rfl|rfl|rfl|rfl|rfl<;>rfl
 obtain ⟨Z,hZ,hr⟩:∃Z:List UInt8,Z=List.replicate 8 0∧L0 1 (.i .i64 8) (.i .u8 0)=some (.l 1 (Cc Z)):=⟨_,rfl,jj 8 (by decide) (by decide)⟩;have h8:(Cc Z).length=8:=by rw [hZ];rfl
 have key:Cd0.ev S 10 [.i .u64 v]=some (.yld 0 [.l 1 (Cc (be v 8))]):=by
  refine Gl 8 (fun i=>[.l 1 (Cc ((be v 8).take i++List.replicate (8 - i) 0)), .i .i64 (i:Int)]) (fun _=> .yld 0 [.l 1 (Cc (be v 8))]) ?_ (by omega) (fun i hi=> ?_) ?_
  ·simp (disch:=omega) only [hr,EVC,xe,EVP,EV,simprocAttr];rw [hZ];rfl
  ·left;refine ⟨?_,rfl⟩;have hl:((be v 8).take i++List.replicate (8 - i) (0:UInt8)).length=8:=by rw [Ab,pf,Ap,E4];omega
   obtain ⟨c0,hg⟩:∃c0,(Cc ((be v 8).take i++List.replicate (8 - i) (0:UInt8)))[i]? =some c0:=⟨_,Vf (Ay (by omega))⟩;have hs:((be v 8).take i++List.replicate (8 - i) (0:UInt8)).set i (UInt8.ofNat (v / 256 ^ (7 - i) % 256).toNat)=(be v 8).take (i+1)++List.replicate (8 - (i+1)) 0:=by rw [Cq,hb i hi,M8 _ _ (by rw [Ap,E4];omega),Ap,E4,show i - min i 8=0 by omega];obtain ⟨m,hm⟩:∃m,8 - i=m+1:=⟨7 - i,by omega⟩;rw [hm,show 8 - (i+1)=m by omega];simp [List.replicate_succ]
   have hsh:bin .shr (.i .u64 v) (.i .i64 (56 - 8*(i:Int)))=some (.i .u64 (v / 256 ^ (7 - i))):=by
    have:=Bh8 .u64 .i64 v (56 - 8*i) (show 56 - 8*i<64 by omega);have e:((56 - 8*i:Nat):Int)=56 - 8*(i:Int):=by omega
    rw [e] at this;rw [this];have:i=0∨i=1∨i=2∨i=3∨i=4∨i=5∨i=6∨i=7:=by omega
    rcases this with rfl|rfl|rfl|rfl|rfl|rfl|rfl|rfl<;>rfl
   have hlt:(i:Int)<8:=by omega
   have ei:(i:Int).toNat=i:=by omega
   generalize v / 256 ^ (7 - i)=w at*;have hset:=ir ((be v 8).take i++List.replicate (8 - i) (0:UInt8)) .i64 (i:Int) (w % 256) (by omega) (by omega) (by omega) (by omega);rw [ei,hs] at hset;generalize (be v 8).take (i+1)++List.replicate (8 - (i+1)) 0=L' at*;generalize (be v 8).take i++List.replicate (8 - i) (0:UInt8)=L at*;have hlt':(i:Int)<((Cc Z).length:Int):=by rw [h8];omega
   simp (disch:=omega) only [Bc9,hr,hlt',hsh,Q0,ei,hg,hset,EVC,xe,EVP,EV,simprocAttr]
  ·refine ⟨?_,rfl⟩;have hlt:¬((8:Nat):Int)<((Cc Z).length:Int):=by rw [h8];omega
   have e:(be v 8).take 8++List.replicate (8 - 8) (0:UInt8)=be v 8:=by rw [D5 (by rw [E4];omega)];simp
   rw [e];simp (disch:=omega) only [Bc9,hr,hlt,EVC,xe,EVP,EV,simprocAttr]
 simp (disch:=omega) only [Bc9,hr,key,EVC,xe,EVP,EV,simprocAttr]
def Am1 (d:Dat) (h:d.wf):S kj 1 [Kn d]=some (if Eh d=true then [.s (S2 d), .i .i64 0] else [.s [], .i .i64 3]):=by
 refine Fp0 (N:=1) rfl ?_;have h1:=C0 d;have h2:=Ah7 d.hi h.hi.1 h.hi.2;have h3:=Ah7 d.lo h.lo.1 h.lo.2;have l3:(Cc (be d.lo 8)).length=8:=by rw [Cr1,E4]
 have ls:Hh 1 (.l 1 (Cc (be d.lo 8))) (.i .i64 4) (.i .i64 ((Cc (be d.lo 8)).length:Int))=some (.l 1 (Cc (be d.lo 4))):=by rw [Cz3 _ _ _ _ _ _ (by decide) (by rw [l3];decide) (Ik2 _)];have:(Cc (be d.lo 8)).take (Cc (be d.lo 8)).length=Cc (be d.lo 8):=Dq;simp only [Ed,this];rfl
 have b1:=E4 d.hi 8;have b2:=E4 d.lo 8;unfold S2;rcases Ak (Eh d) with h4|h4
 ·rcases Ak d.v6 with h5|h5
  ·simp (disch:=omega) only [Bd2,h1,h2,h3,h4,h5,EVC,xe,EVP,EV,simprocAttr]
  ·simp (disch:=omega) only [Bd2,h1,h2,h3,h4,h5,ls,EVC,xe,EVP,EV,simprocAttr]
 ·simp (disch:=omega) only [Bd2,h1,h4,EVC,xe,EVP,EV,simprocAttr]
def Ab1 (n:List UInt8) (hn:n.length≤9223372036854775807):S X0 1 [.s n]=some [.s (Jj n)]:=by
 refine Fp1 (N:=256) rfl ?_;have h0:=Rs n hn;have hlen:=Lk n;have hw:∀i,(wireL ((lbl n).take i)).length≤64*254:=fun i=>by have h1:=T8 ((lbl n).take i) (fun x hx=>cq n x (G4 hx));rw [Ap] at h1;omega
 have key:Cd4.ev S 256 [.s n,Bn (lbl n)]=some (.yld 0 [.s (wireL (lbl n))]):=by
  refine Fg (lbl n) (fun i=>[.s (wireL ((lbl n).take i)), .i .i64 (i:Int)]) (fun i r=> .yld 0 [.s (wireL (lbl n))]) rfl (by omega) (fun i c r hd hi hc=> ?_) ?_
  ·left;have hl:=mr (cq n c (A4 hc));have h1:=hw i;have h2:=hw (i+1);have e:wireL ((lbl n).take (i+1))=wireL ((lbl n).take i)++(be (c.length:Int) 1++c):=by rw [Cq,hc];simp [wireL]
   have e0:((c.length:Int) / 256 ^ 0 % 256).toNat=c.length:=by rw [Int.pow_zero,Int.ediv_one];omega
   have e2:be (c.length:Int) 1=[UInt8.ofNat c.length]:=by show [UInt8.ofNat ((c.length:Int) / 256 ^ 0 % 256).toNat]=_;rw [e0]
   have e3:Cc [UInt8.ofNat c.length]=[.i .u8 (c.length:Int)]:=by simp [Cc];omega
   have e4:=M3 [UInt8.ofNat c.length];rw [e3] at e4;have e5:(c.length:Int) % 256=(c.length:Int):=by omega
   refine ⟨?_,rfl⟩;rw [e,e2];generalize wireL ((lbl n).take i)=a at*;have hl2:([UInt8.ofNat c.length]++c).length≤64:=by simp;omega
   have hl3:([UInt8.ofNat c.length]:List UInt8).length=1:=rfl;generalize ([UInt8.ofNat c.length]:List UInt8)=b at*;simp (disch:=omega) only [Bd3,hc,Q0,e5,e4,EVC,xe,EVP,EV,simprocAttr]
  ·have e:(lbl n).take (lbl n).length=lbl n:=Dq;simp (disch:=omega) only [Bd3,e,EVC,xe,EVP,EV,simprocAttr];simp [Out.goes]
 have h3:=hw (lbl n).length;rw [Dq] at h3;have e:Jj n=wireL (lbl n)++[0]:=rfl;rw [e];generalize wireL (lbl n)=a at*;simp (disch:=first|omega|(simp only [A5,Bf];omega)) only [Bd3,h0,key,EVC,xe,EVP,EV,simprocAttr]
end Go.X.G
