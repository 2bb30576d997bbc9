/- Questions and messages. -/
import Derived.Test.YtfnmphjdknjkmaaGreatDoorNsecEmptyG10
import Derived.Test.YtfnmphjdknjkmaaGreatDoorNsecEmptyG9
open Bool renaming eq_false_or_eq_true→Ak,and_eq_true→Aw,false_eq_true→Ad,or_eq_true→Ap,not_eq_true'→A7,eq_iff_iff→C2,not_eq_false→Ff,and_eq_false_iff→Hl,false_or→Iw,or_eq_false_iff→Is,not_true→Kg,and_true→Oh,eq_false_iff→qv
open Classical renaming not_not→Jx
open Int renaming toNat_natCast→G4,le_refl→Js6
open List renaming getElem?_eq_some_iff→Av,getElem?_eq_getElem→Az,length_append→Ac,mem_cons→Am,length_take→Ar,append_assoc→As,pairwise_cons→A0,length_cons→A3,getElem?_drop→A8,mem_of_getElem?→A9,all_eq_true→Bz,length_pos_iff→Bb,length_nil→Bf,getElem?_map→Bh,mem_append_right→Bm,take_append_drop→Bs,mem_append→Bt,mem_filter→B0,length_drop→B3,cons_append→B4,getElem?_range→B8,mem_append_left→Cq,nil_append→Cb,any_eq_true→Cd,take_add_one→Cl,drop_drop→C0,getElem?_of_mem→Dj,take_length→Dq,take_of_length_le→Dh,mem_map→Ds,append_nil→Dt,getElem_mem→D1,drop_zero→D3,pairwise_append→E2,mem_range→E3,length_map→E9,exists_mem_of_ne_nil→Fz,map_cons→Ft,filter_append→Gv,mem_of_mem_take→Gb,filter_eq_nil_iff→G2,length_filter_le→Hg,cons_prefix_cons→Hh,getLast_eq_getElem→Jq,flatMap_cons→Jw,pairwise_iff_getElem→Mm,set_append_right→ix,length_replicate→iy,length_mergeSort→iz,getElem_take→qk,reverse_prefix→Gy3,drop_set_of_lt→Gy5,map_mergeSort→Ir3
open Nat renaming le_refl→Af,zero_le→Cc,le_trans→C4,add_zero→C8
open Option renaming map_eq_some_iff→Ax,bind_some→Ay,map_some→A5,isSome_none→Wv
open Option.some renaming injEq→Aq
set_option maxHeartbeats 1000000
set_option linter.unusedVariables false
set_option linter.unusedSimpArgs false
namespace Go.X
open Go
structure Ques where
 name:List UInt8
 typ:Int
 deriving DecidableEq
structure Msg where
 id:Int
 op:Int
 code:Int
 resp:Bool
 aa:Bool
 tc:Bool
 rd:Bool
 ra:Bool
 ad:Bool
 cd:Bool
 dok:Bool
 size:Int
 q:Ques
 ans:List Rec
 auth:List Rec
 ext:List Rec
 deriving DecidableEq
structure Ques.wf (x:Ques):Prop where
 name:Qm x.name
 typ:ik x.typ
structure Msg.wf (m:Msg):Prop where
 id:ik m.id
 op:ik m.op
 code:ik m.code
 size:ik m.size
 q:m.q.wf
 ans:jp m.ans
 auth:jp m.auth
 ext:jp m.ext
def Ques.cells (x:Ques):List PV:=[.s x.name, .i .i64 x.typ]
def Ques.pv (x:Ques):PV:= .a x.cells
def Msg.cells (m:Msg):List PV:= .i .i64 m.id:: .i .i64 m.op:: .i .i64 m.code:: .b m.resp:: .b m.aa:: .b m.tc:: .b m.rd:: .b m.ra:: .b m.ad:: .b m.cd:: .b m.dok:: .i .i64 m.size:: .s m.q.name:: .i .i64 m.q.typ::Al m.ans::Al m.auth::Al m.ext::[]
def Msg.pv (m:Msg):PV:= .a m.cells
def shQ:Sh:= .st [.s, .i .i64]
theorem Gg1 {cs:List PV} (h:shQ.okC cs):∃q:Ques,q.wf∧cs=q.cells:=by obtain ⟨a0,r0,rfl,h0,h⟩:=Dc (wj h);obtain ⟨a1,r1,rfl,h1,h⟩:=Dc h;obtain rfl:=Qs h;obtain ⟨x0,rfl,k0⟩:=Al4 h0;obtain ⟨x1,rfl,k1⟩:=Kk h1;exact ⟨⟨x0,x1⟩,⟨k0,k1⟩,rfl⟩
theorem Jc9 {p:PV} (h:shQ.ok p):∃q:Ques,q.wf∧p=q.pv:=by obtain ⟨ds,rfl,h⟩:∃ds,p= .a ds∧shQ.okC ds:=h;obtain ⟨r,hr,rfl⟩:=Gg1 h;exact ⟨r,hr,rfl⟩
theorem Bh3 (m:Msg):Bn 0 m.pv=some (.i .i64 m.id):=rfl
theorem Bh2 (m:Msg):Bn 1 m.pv=some (.i .i64 m.op):=rfl
theorem Bh1 (m:Msg):Bn 2 m.pv=some (.i .i64 m.code):=rfl
theorem Bh0 (m:Msg):Bn 3 m.pv=some (.b m.resp):=rfl
theorem Bg9 (m:Msg):Bn 4 m.pv=some (.b m.aa):=rfl
theorem Bg8 (m:Msg):Bn 5 m.pv=some (.b m.tc):=rfl
theorem Bg7 (m:Msg):Bn 6 m.pv=some (.b m.rd):=rfl
theorem Bg6 (m:Msg):Bn 7 m.pv=some (.b m.ra):=rfl
theorem Bg5 (m:Msg):Bn 8 m.pv=some (.b m.ad):=rfl
theorem Bg4 (m:Msg):Bn 9 m.pv=some (.b m.cd):=rfl
theorem Ah4 (m:Msg):Bn 10 m.pv=some (.b m.dok):=rfl
theorem Ah3 (m:Msg):Bn 11 m.pv=some (.i .i64 m.size):=rfl
theorem Ah2 (m:Msg):Bn 12 m.pv=some (.s m.q.name):=rfl
theorem Ah1 (m:Msg):Bn 13 m.pv=some (.i .i64 m.q.typ):=rfl
theorem Ah0 (m:Msg):Bn 14 m.pv=some (Al m.ans):=rfl
theorem Ag9 (m:Msg):Bn 15 m.pv=some (Al m.auth):=rfl
theorem Ag8 (m:Msg):Bn 16 m.pv=some (Al m.ext):=rfl
theorem Gc2 (m:Msg):Jp 0 17 m.pv=some m.pv:=rfl
theorem Gn3 (m:Msg):S2 17 m.pv=some m.pv:=rfl
theorem Bx3 (m:Msg):Jp 12 2 m.pv=some m.q.pv:=rfl
theorem Jk4 (x:Ques):Jp 0 2 x.pv=some x.pv:=rfl
theorem Jp1 (x:Ques):S2 2 x.pv=some x.pv:=rfl
theorem Gf3 (x:Ques):Bn 0 x.pv=some (.s x.name):=rfl
theorem Gf2 (x:Ques):Bn 1 x.pv=some (.i .i64 x.typ):=rfl
theorem Fj8 (n:List UInt8) (t:Int):PV.a [.s n, .i .i64 t]=Ques.pv ⟨n,t⟩:=rfl
theorem Jp5 (x:Ques):(⟨x.name,x.typ⟩:Ques)=x:=rfl
theorem Ef2 (x0 x1 x2:Int) (b0 b1 b2 b3 b4 b5 b6 b7:Bool) (x3:Int) (n:List UInt8) (t:Int) (l0 l1 l2:List Rec):PV.a [.i .i64 x0, .i .i64 x1, .i .i64 x2, .b b0, .b b1, .b b2, .b b3, .b b4, .b b5, .b b6, .b b7, .i .i64 x3, .s n, .i .i64 t,Al l0,Al l1,Al l2]=Msg.pv ⟨x0,x1,x2,b0,b1,b2,b3,b4,b5,b6,b7,x3,⟨n,t⟩,l0,l1,l2⟩:=rfl
theorem Jt0 (neg:Bool) (x y:Ques):K0 neg true [.s,(.i .i64)] x.pv y.pv=some (.b (if neg then decide (x≠y) else decide (x=y))):=by
 have:Gx [.s,(.i .i64)] x.cells y.cells=some (decide (x=y)):=by simp only [Ques.cells,Gx,Dl9,if_true,Aq];rw [C2];cases x;cases y;simp
 simp only [K0,Ques.pv,this,A5];cases neg<;>simp
set_option linter.defProp false in
def EVM:=(And.intro @Bh3 (And.intro @Bh2 (And.intro @Bh1 (And.intro @Bh0 (And.intro @Bg9 (And.intro @Bg8 (And.intro @Bg7 (And.intro @Bg6 (And.intro @Bg5 (And.intro @Bg4 (And.intro @Ah4 (And.intro @Ah3 (And.intro @Ah2 (And.intro @Ah1 (And.intro @Ah0 (And.intro @Ag9 (And.intro @Ag8 (And.intro @Gc2 (And.intro @Gn3 (And.intro @Bx3 (And.intro @Jk4 (And.intro @Jp1 (And.intro @Gf3 (And.intro @Gf2 (And.intro @Fj8 (And.intro @Jp5 (And.intro @Ef2 @Jt0)))))))))))))))))))))))))))
end Go.X
/- Closures and sets of strings, evaluated. -/
namespace Go.X
open Go
def Ip8 (fn:Fns) (η:List PV) (fl:Bool) (ar:List E) (m:Nat):PV→Option (List PV)
 | .f f caps=>(E.evs η ar).bind fun vs=>results fl m η (fn f vs.length (vs++caps))
 |_=>none
theorem qm {fn:Fns} {η:List PV} (fl:Bool) (c:E) (ar:List E) (m:Nat):W.ev fn η (.clo none fl c ar m)=(c.ev η).bind (Ip8 fn η fl ar m):=by
 rw [Gz5];congr 1;funext q;cases q with
 |f f caps=>rfl
 |_=>cases h:E.evs η ar<;>rfl
theorem Im1 {fn:Fns} {η:List PV} (fl:Bool) (ar:List E) (m:Nat) (f:Nat) (caps:List PV):Ip8 fn η fl ar m (.f f caps)=(E.evs η ar).bind fun vs=>results fl m η (fn f vs.length (vs++caps)):=rfl
theorem Ij7 (f:Nat) (caps:List PV):Bn 0 (.f f caps)=some (.f f caps):=rfl
theorem Hl0 (f:Nat) (caps:List PV):I0 (.f f caps)=some (.f f caps):=rfl
def Mz (ks:List (List UInt8)):PV:= .m (ks.map fun k=>(.s k, .b true))
theorem Gd5:PV.m []=Mz []:=rfl
theorem Ex7 (ks:List (List UInt8)):Bn 0 (Mz ks)=some (Mz ks):=rfl
theorem Ew0 (ks:List (List UInt8)):I0 (Mz ks)=some (Mz ks):=rfl
theorem d7 (k:List UInt8):∀ks:List (List UInt8),Xm (.s k) (ks.map fun k=>(.s k, .b true))=some (if k∈ks then some (.b true) else none)
 |[]=>by simp [Xm]
 |x::ks=>by
  simp only [Ft,Xm,ed];by_cases h:k=x
  ·subst h;simp
  ·have h2:(k==x)=false:=by simpa using h
   rw [h2];simp only [d7 k ks,Am,h,false_or]
theorem wb (k:List UInt8):∀ks:List (List UInt8),Es4 (.s k) (.b true) (ks.map fun k=>(.s k, .b true))=some ((if k∈ks then ks else ks++[k]).map fun k=>(.s k, .b true))
 |[]=>by simp [Es4]
 |x::ks=>by
  simp only [Ft,Es4,ed];by_cases h:k=x
  ·subst h;simp
  ·have h2:(k==x)=false:=by simpa using h
   rw [h2];simp only [wb k ks,Am,h,false_or,A5];by_cases h3:k∈ks<;>simp [h3]
theorem Eb3 (k:List UInt8) (ks:List (List UInt8)):d6 (Mz ks) (.s k) (.b false)=some (.b (decide (k∈ks))):=by simp only [d6,Mz,Cw3,if_true,d7,A5];by_cases h:k∈ks<;>simp [h]
theorem Eb2 (k:List UInt8) (ks:List (List UInt8)):d4 (Mz ks) (.s k) (.b true)=some (Mz (if k∈ks then ks else ks++[k])):=by simp only [d4,Mz,Cw3,if_true,wb,A5]
theorem Bt8 (a b:List Rec):Jj 1 [Al a,Al b]=some (.l 1 ([a,b].map Al)):=rfl
def Im0 (fn:Fns) (η:List PV) (fl:Bool) (c:E) (ar:List E) (m:Nat):PV→Option (List PV)
 | .b true=>(c.ev η).bind (Ip8 fn η fl ar m)
 | .b false=>some (η++List.replicate m .u)
 |_=>none
theorem Jy {fn:Fns} {η:List PV} (g:E) (fl:Bool) (c:E) (ar:List E) (m:Nat):W.ev fn η (.clo (some g) fl c ar m)=(g.ev η).bind (Im0 fn η fl c ar m):=by
 have h:=qm (fn:=fn) (η:=η) fl c ar m;simp only [W.ev,Ep] at h ⊢;congr 1;funext q;cases q with
 |b x=>cases x with
  |true=>exact h
  |false=>rfl
 |_=>rfl
theorem Lf (fn:Fns) (η:List PV) (fl:Bool) (c:E) (ar:List E) (m:Nat) (x:Bool):Im0 fn η fl c ar m (.b x)=if x=true then (c.ev η).bind (Ip8 fn η fl ar m) else some (η++List.replicate m .u):=by cases x<;>rfl
set_option linter.defProp false in
def EVC:=(And.intro @qm (And.intro @Im1 (And.intro @Ij7 (And.intro @Hl0 (And.intro @Gd5 (And.intro @Ex7 (And.intro @Ew0 (And.intro @Eb3 (And.intro @Eb2 @Bt8)))))))))
end Go.X
/- Addresses and tasks. -/
namespace Go.X
structure Adr where
 v6:Bool
 hi:Int
 lo:Int
 deriving DecidableEq
structure Tk where
 q:Ques
 name:List UInt8
 zone:List UInt8
 hosts:List (List UInt8)
 addrs:List Adr
 tried:List Adr
 state:Int
 more:Int
 dst:Adr
 asked:Ques
 sent:Int
 chain:List Rec
 last:Msg
 err:Int
def Adr.pv (x:Adr):PV:= .a [.b x.v6, .i .u64 x.hi, .i .u64 x.lo]
def E7 (l:List Adr):PV:= .l 3 (l.map Adr.pv)
def Dat.adr (d:Dat):Adr:=⟨d.v6,d.hi,d.lo⟩
def Tk.cells (t:Tk):List PV:=[.s t.q.name, .i .i64 t.q.typ, .s t.name, .s t.zone,Bd t.hosts,E7 t.addrs,E7 t.tried, .i .i64 t.state, .i .i64 t.more, .b t.dst.v6, .i .u64 t.dst.hi, .i .u64 t.dst.lo, .s t.asked.name, .i .i64 t.asked.typ, .i .i64 t.sent,Al t.chain, .i .i64 t.last.id, .i .i64 t.last.op, .i .i64 t.last.code, .b t.last.resp, .b t.last.aa, .b t.last.tc, .b t.last.rd, .b t.last.ra, .b t.last.ad, .b t.last.cd, .b t.last.dok, .i .i64 t.last.size, .s t.last.q.name, .i .i64 t.last.q.typ,Al t.last.ans,Al t.last.auth,Al t.last.ext, .i .i64 t.err]
def Tk.pv (t:Tk):PV:= .a t.cells
theorem Ex6 (t:Tk):Bn 0 t.pv=some (.s t.q.name):=rfl
theorem Ex5 (t:Tk):Bn 1 t.pv=some (.i .i64 t.q.typ):=rfl
theorem Ex4 (t:Tk):Bn 2 t.pv=some (.s t.name):=rfl
theorem Ex3 (t:Tk):Bn 3 t.pv=some (.s t.zone):=rfl
theorem Ex2 (t:Tk):Bn 4 t.pv=some (Bd t.hosts):=rfl
theorem Ex1 (t:Tk):Bn 5 t.pv=some (E7 t.addrs):=rfl
theorem Ex0 (t:Tk):Bn 6 t.pv=some (E7 t.tried):=rfl
theorem Ew9 (t:Tk):Bn 7 t.pv=some (.i .i64 t.state):=rfl
theorem Ew8 (t:Tk):Bn 8 t.pv=some (.i .i64 t.more):=rfl
theorem Ew7 (t:Tk):Bn 9 t.pv=some (.b t.dst.v6):=rfl
theorem Bf1 (t:Tk):Bn 10 t.pv=some (.i .u64 t.dst.hi):=rfl
theorem Bf0 (t:Tk):Bn 11 t.pv=some (.i .u64 t.dst.lo):=rfl
theorem Bd9 (t:Tk):Bn 12 t.pv=some (.s t.asked.name):=rfl
theorem Bd8 (t:Tk):Bn 13 t.pv=some (.i .i64 t.asked.typ):=rfl
theorem Bd7 (t:Tk):Bn 14 t.pv=some (.i .i64 t.sent):=rfl
theorem Bd6 (t:Tk):Bn 15 t.pv=some (Al t.chain):=rfl
theorem Bd5 (t:Tk):Bn 16 t.pv=some (.i .i64 t.last.id):=rfl
theorem Bd4 (t:Tk):Bn 17 t.pv=some (.i .i64 t.last.op):=rfl
theorem Bd3 (t:Tk):Bn 18 t.pv=some (.i .i64 t.last.code):=rfl
theorem Bd2 (t:Tk):Bn 19 t.pv=some (.b t.last.resp):=rfl
theorem Bd1 (t:Tk):Bn 20 t.pv=some (.b t.last.aa):=rfl
theorem Bd0 (t:Tk):Bn 21 t.pv=some (.b t.last.tc):=rfl
theorem Bc9 (t:Tk):Bn 22 t.pv=some (.b t.last.rd):=rfl
theorem Bc8 (t:Tk):Bn 23 t.pv=some (.b t.last.ra):=rfl
theorem Bc7 (t:Tk):Bn 24 t.pv=some (.b t.last.ad):=rfl
theorem Bc6 (t:Tk):Bn 25 t.pv=some (.b t.last.cd):=rfl
theorem Bc5 (t:Tk):Bn 26 t.pv=some (.b t.last.dok):=rfl
theorem Bc4 (t:Tk):Bn 27 t.pv=some (.i .i64 t.last.size):=rfl
theorem Bc3 (t:Tk):Bn 28 t.pv=some (.s t.last.q.name):=rfl
theorem Bc2 (t:Tk):Bn 29 t.pv=some (.i .i64 t.last.q.typ):=rfl
theorem Bc1 (t:Tk):Bn 30 t.pv=some (Al t.last.ans):=rfl
theorem Bc0 (t:Tk):Bn 31 t.pv=some (Al t.last.auth):=rfl
theorem Bb9 (t:Tk):Bn 32 t.pv=some (Al t.last.ext):=rfl
theorem Bb8 (t:Tk):Bn 33 t.pv=some (.i .i64 t.err):=rfl
theorem Hg7 (t:Tk):Jp 0 34 t.pv=some t.pv:=rfl
theorem If6 (t:Tk):S2 34 t.pv=some t.pv:=rfl
theorem Ac3 (t:Tk):Jp 9 3 t.pv=some t.dst.pv:=rfl
theorem Z6 (t:Tk):Jp 12 2 t.pv=some t.asked.pv:=rfl
theorem Eq5 (t:Tk):Jp 0 2 t.pv=some t.q.pv:=rfl
theorem jw (t:Tk):Jp 16 17 t.pv=some t.last.pv:=rfl
theorem Gn0 (x0:List UInt8) (x1:Int) (x2:List UInt8) (x3:List UInt8) (x4:List (List UInt8)) (x5:List Adr) (x6:List Adr) (x7:Int) (x8:Int) (x9:Bool) (x10:Int) (x11:Int) (x12:List UInt8) (x13:Int) (x14:Int) (x15:List Rec) (x16:Int) (x17:Int) (x18:Int) (x19:Bool) (x20:Bool) (x21:Bool) (x22:Bool) (x23:Bool) (x24:Bool) (x25:Bool) (x26:Bool) (x27:Int) (x28:List UInt8) (x29:Int) (x30:List Rec) (x31:List Rec) (x32:List Rec) (x33:Int):PV.a [.s x0, .i .i64 x1, .s x2, .s x3,Bd x4,E7 x5,E7 x6, .i .i64 x7, .i .i64 x8, .b x9, .i .u64 x10, .i .u64 x11, .s x12, .i .i64 x13, .i .i64 x14,Al x15, .i .i64 x16, .i .i64 x17, .i .i64 x18, .b x19, .b x20, .b x21, .b x22, .b x23, .b x24, .b x25, .b x26, .i .i64 x27, .s x28, .i .i64 x29,Al x30,Al x31,Al x32, .i .i64 x33]=Tk.pv ⟨⟨x0,x1⟩,x2,x3,x4,x5,x6,x7,x8,⟨x9,x10,x11⟩,⟨x12,x13⟩,x14,x15,⟨x16,x17,x18,x19,x20,x21,x22,x23,x24,x25,x26,x27,⟨x28,x29⟩,x30,x31,x32⟩,x33⟩:=rfl
theorem Ih5 (t:Tk):(⟨t.q,t.name,t.zone,t.hosts,t.addrs,t.tried,t.state,t.more,t.dst,t.asked,t.sent,t.chain,t.last,t.err⟩:Tk)=t:=rfl
theorem Gp8 (m:Msg):(⟨m.id,m.op,m.code,m.resp,m.aa,m.tc,m.rd,m.ra,m.ad,m.cd,m.dok,m.size,m.q,m.ans,m.auth,m.ext⟩:Msg)=m:=rfl
theorem Gp9 (x:Adr):(⟨x.v6,x.hi,x.lo⟩:Adr)=x:=rfl
theorem In1 (d:Dat):J1 d=d.adr.pv:=rfl
theorem Ef3 (v:Bool) (h l:Int):PV.a [.b v, .i .u64 h, .i .u64 l]=Adr.pv ⟨v,h,l⟩:=rfl
theorem Hy1 (d:Dat):(⟨d.v6,d.hi,d.lo⟩:Adr)=d.adr:=rfl
theorem Gc4 (x:Adr):Jp 0 3 x.pv=some x.pv:=rfl
theorem Gn5 (x:Adr):S2 3 x.pv=some x.pv:=rfl
theorem Bl7 (x:Adr):Bn 0 x.pv=some (.b x.v6):=rfl
theorem Bl6 (x:Adr):Bn 1 x.pv=some (.i .u64 x.hi):=rfl
theorem Bl5 (x:Adr):Bn 2 x.pv=some (.i .u64 x.lo):=rfl
theorem Ef6 (x:Adr):PV.flat x.pv=true:=rfl
theorem El8:PV.l 3 []=E7 []:=rfl
theorem Gl7 (x:Adr):Jj 3 [x.pv]=some (E7 [x]):=rfl
theorem By9 (l:List Adr):I0 (E7 l)=some (E7 l):=rfl
theorem Bl4 (l:List Adr):Bn 0 (E7 l)=some (E7 l):=rfl
theorem If3 (x:Ques):PV.flat x.pv=true:=rfl
theorem Hh6 (n:Int):I0 (.i .u64 n)=some (.i .u64 n):=rfl
theorem Ij4 (n:Int):Bn 0 (.i .u64 n)=some (.i .u64 n):=rfl
theorem Ec1 (l:List Adr):F2 (E7 l)=some (.i .i64 (l.length:Int)):=by simp [E7,F2]
theorem Ed6 (l:List Adr) (k:IntKind) (z:Int) (h:0≤z):Ht 3 (E7 l) (.i k z)=(l[z.toNat]?).map Adr.pv:=by simp [E7,X3 _ _ _ _ h]
theorem Dg7 (l:List Adr) (x:Adr) (h:l.length+1≤1073741824):Ic 3 (E7 l) (E7 [x])=some (E7 (l++[x])):=by have:=Tf 3 (l.map Adr.pv) ([x].map Adr.pv) (by simpa using h);simpa [E7] using this
theorem El6 (l m:List Adr) (h:l.length+m.length≤1073741824):Ic 3 (E7 l) (E7 m)=some (E7 (l++m)):=by have:=Tf 3 (l.map Adr.pv) (m.map Adr.pv) (by simpa using h);simpa [E7] using this
theorem Eb5 (l:List Adr) (k k':IntKind) (a b:Int) (h1:0≤a) (h2:a≤b) (h3:b≤(l.length:Int)):Ix 3 (E7 l) (.i k a) (.i k' b)=some (E7 ((l.take b.toNat).drop a.toNat)):=by have:=Bt5 3 (l.map Adr.pv) k k' a b h1 h2 (by simpa using h3);simpa [E7,List.map_take,List.map_drop] using this
theorem Il0 (neg:Bool) (x y:Adr):K0 neg true [.b,(.i .u64),(.i .u64)] x.pv y.pv=some (.b (if neg then decide (x≠y) else decide (x=y))):=by
 have:Gx [.b,(.i .u64),(.i .u64)] [.b x.v6, .i .u64 x.hi, .i .u64 x.lo] [.b y.v6, .i .u64 y.hi, .i .u64 y.lo]=some (decide (x=y)):=by simp only [Gx,Dl9,if_true,Aq];rw [C2];cases x;cases y;simp
 simp only [K0,Adr.pv,this,A5];cases neg<;>simp
set_option linter.defProp false in
def EVT:=(And.intro @Ex6 (And.intro @Ex5 (And.intro @Ex4 (And.intro @Ex3 (And.intro @Ex2 (And.intro @Ex1 (And.intro @Ex0 (And.intro @Ew9 (And.intro @Ew8 (And.intro @Ew7 (And.intro @Bf1 (And.intro @Bf0 (And.intro @Bd9 (And.intro @Bd8 (And.intro @Bd7 (And.intro @Bd6 (And.intro @Bd5 (And.intro @Bd4 (And.intro @Bd3 (And.intro @Bd2 (And.intro @Bd1 (And.intro @Bd0 (And.intro @Bc9 (And.intro @Bc8 (And.intro @Bc7 (And.intro @Bc6 (And.intro @Bc5 (And.intro @Bc4 (And.intro @Bc3 (And.intro @Bc2 (And.intro @Bc1 (And.intro @Bc0 (And.intro @Bb9 (And.intro @Bb8 (And.intro @Hg7 (And.intro @If6 (And.intro @Ac3 (And.intro @Z6 (And.intro @Eq5 (And.intro @jw (And.intro @Gn0 (And.intro @Ih5 (And.intro @Gp8 (And.intro @Gp9 (And.intro @In1 (And.intro @Ef3 (And.intro @Hy1 (And.intro @Gc4 (And.intro @Gn5 (And.intro @Bl7 (And.intro @Bl6 (And.intro @Bl5 (And.intro @Ef6 (And.intro @El8 (And.intro @Gl7 (And.intro @By9 (And.intro @Bl4 (And.intro @If3 (And.intro @Hh6 (And.intro @Ij4 (And.intro @Ec1 (And.intro @Ed6 (And.intro @Dg7 (And.intro @El6 (And.intro @Eb5 @Il0)))))))))))))))))))))))))))))))))))))))))))))))))))))))))))))))))
end Go.X
/- Functions of the package slices, for texts, records and addresses. -/
namespace Go.X.G
open Go Go.X
def ixG {α:Type} (p:α→Bool) (k:Nat):List α→Int
 |[]=> -1
 |r::rs=>if p r=true then (k:Int) else ixG p (k+1) rs
theorem Cw5 {α:Type} (p:α→Bool):∀(l:List α) (k:Nat),(0≤ixG p k l↔l.any p=true)∧ixG p k l≤k+l.length∧ -1≤ixG p k l
 |[],k=>by simp [ixG]
 |r::rs,k=>by
  have ih:=Cw5 p rs (k+1);rcases Ak (p r) with h|h
  ·simp [ixG,h];omega
  ·simp only [ixG,h,List.any_cons,Iw,A3];refine ⟨by simpa using ih.1,?_,by simpa using ih.2.2⟩;have:=ih.2.1;simp only [Ad,if_false] at this ⊢;omega
theorem Y8 (l:List (List UInt8)) (g:Nat) (caps:List PV) (p:List UInt8→Bool) (hl:l.length≤1000000) (h:∀r∈l,S g 1 (.s r::caps)=some [.b (p r)]):S Bn8 2 [Bd l, .f g caps]=some [.i .i64 (ixG p 0 l)]:=by
 refine Jv5 (N:=l.length+1) rfl ?_;have key:Et3.ev S (l.length+1) [Bd l, .f g caps]=some (if ixG p 0 l= -1 then .yld 0 [] else .ret [.i .i64 (ixG p 0 l)]):=by
  refine Ew l (fun i=>[.i .i64 (i:Int)]) (fun i r=>if ixG p i r= -1 then .yld 0 [] else .ret [.i .i64 (ixG p i r)]) rfl (by omega) (fun i c r hd hi hc=> ?_) ?_
  ·have hp:=h c (A9 hc);rcases Ak (p c) with h1|h1
   ·rw [h1] at hp;right;have h2:¬((i:Int)= -1):=by omega
    simp (disch:=omega) only [Bq2,hc,hp,EVT,EVC,xe,EVP,EV,simprocAttr];simp [ixG,h1,h2,Out.goes]
   ·rw [h1] at hp;left;simp (disch:=omega) only [Bq2,hc,hp,EVT,EVC,xe,EVP,EV,simprocAttr];simp [ixG,h1]
  ·simp (disch:=omega) only [Bq2,EVT,EVC,xe,EVP,EV,simprocAttr];simp [ixG,Out.goes]
 by_cases h1:ixG p 0 l= -1
 ·rw [if_pos h1] at key;simp (disch:=omega) only [Bq2,key,h1,EVT,EVC,xe,EVP,EV,simprocAttr]
 ·rw [if_neg h1] at key;simp (disch:=omega) only [Bq2,key,EVT,EVC,xe,EVP,EV,simprocAttr]
theorem Kr (l:List (List UInt8)) (g:Nat) (caps:List PV) (p:List UInt8→Bool) (hl:l.length≤1000000) (h:∀r∈l,S g 1 (.s r::caps)=some [.b (p r)]):S An0 2 [Bd l, .f g caps]=some [.b (l.any p)]:=by
 refine Jz1 (N:=1) rfl ?_;simp (disch:=omega) only [It3,Y8 l g caps p hl h,EVC,xe,EVP,EV,simprocAttr];have:=(Cw5 p l 0).1;rcases Ak (l.any p) with h1|h1
 ·rw [h1] at this ⊢;simp [this.2 rfl]
 ·rw [h1] at this ⊢;have h2:¬(0≤ixG p 0 l):=fun h=>by simpa using this.1 h
  simp [h2]
theorem Dl1 (l:List Rec) (hl:l.length≤1000000):S dp 1 [Al l]=some [Al l]:=by
 refine Hs4 (N:=1) rfl ?_;have h0:Ic 16 (Al []) (Al l)=some (Al l):=by simpa using Y1 [] l (by simp;omega)
 simp (disch:=omega) only [Hc7,h0,EVT,EVC,xe,EVP,EV,simprocAttr]
def ixF (p:Rec→Bool) (k:Nat):List Rec→Int
 |[]=> -1
 |r::rs=>if p r=true then (k:Int) else ixF p (k+1) rs
theorem Cw6 (p:Rec→Bool):∀(l:List Rec) (k:Nat),(0≤ixF p k l↔l.any p=true)∧ixF p k l≤k+l.length∧ -1≤ixF p k l
 |[],k=>by simp [ixF]
 |r::rs,k=>by
  have ih:=Cw6 p rs (k+1);rcases Ak (p r) with h|h
  ·simp [ixF,h];omega
  ·simp only [ixF,h,List.any_cons,Iw,A3];refine ⟨by simpa using ih.1,?_,by simpa using ih.2.2⟩;have:=ih.2.1;simp only [Ad,if_false] at this ⊢;omega
theorem Y9 (l:List Rec) (g:Nat) (caps:List PV) (p:Rec→Bool) (hl:l.length≤1000000) (h:∀r∈l,S g 1 (r.pv::caps)=some [.b (p r)]):S Bn6 2 [Al l, .f g caps]=some [.i .i64 (ixF p 0 l)]:=by
 refine Jv3 (N:=l.length+1) rfl ?_;have key:Et2.ev S (l.length+1) [Al l, .f g caps]=some (if ixF p 0 l= -1 then .yld 0 [] else .ret [.i .i64 (ixF p 0 l)]):=by
  refine Ew l (fun i=>[.i .i64 (i:Int)]) (fun i r=>if ixF p i r= -1 then .yld 0 [] else .ret [.i .i64 (ixF p i r)]) rfl (by omega) (fun i c r hd hi hc=> ?_) ?_
  ·have hp:=h c (A9 hc);rcases Ak (p c) with h1|h1
   ·rw [h1] at hp;right;have h2:¬((i:Int)= -1):=by omega
    simp (disch:=omega) only [Bq1,hc,hp,EVC,xe,EVP,EV,simprocAttr];simp [ixF,h1,h2,Out.goes]
   ·rw [h1] at hp;left;simp (disch:=omega) only [Bq1,hc,hp,EVC,xe,EVP,EV,simprocAttr];simp [ixF,h1]
  ·simp (disch:=omega) only [Bq1,EVC,xe,EVP,EV,simprocAttr];simp [ixF,Out.goes]
 by_cases h1:ixF p 0 l= -1
 ·rw [if_pos h1] at key;simp (disch:=omega) only [Bq1,key,h1,EVC,xe,EVP,EV,simprocAttr]
 ·rw [if_neg h1] at key;simp (disch:=omega) only [Bq1,key,EVC,xe,EVP,EV,simprocAttr]
theorem Fb (l:List Rec) (g:Nat) (caps:List PV) (p:Rec→Bool) (hl:l.length≤1000000) (h:∀r∈l,S g 1 (r.pv::caps)=some [.b (p r)]):S Xl 2 [Al l, .f g caps]=some [.b (l.any p)]:=by
 refine Jy8 (N:=1) rfl ?_;simp (disch:=omega) only [It1,Y9 l g caps p hl h,EVC,xe,EVP,EV,simprocAttr];have:=(Cw6 p l 0).1;rcases Ak (l.any p) with h1|h1
 ·rw [h1] at this ⊢;simp [this.2 rfl]
 ·rw [h1] at this ⊢;have h2:¬(0≤ixF p 0 l):=fun h=>by simpa using this.1 h
  simp [h2]
end Go.X.G
/- nsec: Absent, Empty, on both sides. -/
namespace Go.X.G
open Go Go.X
def N5 (r:Rec) (t:Int):Bool:=
 if r.typ≠47∨t=255∨M2 r t=true∨M2 r 5=true then false else if t=43 then !M2 r 6 else M2 r 6|| !M2 r 2
theorem Cj8 (r:Rec) (t:Int):S Br2 2 [r.pv, .i .i64 t]=some [.b (N5 r t)]:=by
 refine Jy2 (N:=1) rfl ?_;have a1:=Jr r t;have a2:=Jr r 5;have a3:=Jr r 6;have a4:=Jr r 2;unfold N5;by_cases h1:r.typ=47
 ·by_cases h2:t=255
  ·simp (disch:=omega) only [Ab6,h1,h2,EVC,xe,EVP,EV,simprocAttr]
   try simp
  ·rcases Ak (M2 r t) with e0|e0
   ·simp (disch:=omega) only [Ab6,a1,e0,h1,h2,EVC,xe,EVP,EV,simprocAttr]
    try simp
   ·rcases Ak (M2 r 5) with e1|e1
    ·simp (disch:=omega) only [Ab6,a1,a2,e0,e1,h1,h2,EVC,xe,EVP,EV,simprocAttr]
     try simp
    ·by_cases h3:t=43
     ·rw [h3] at a1 e0 h2 ⊢;rcases Ak (M2 r 6) with e2|e2<;>simp (disch:=omega) only [Ab6,a1,a2,a3,e0,e1,e2,h1,EVC,xe,EVP,EV,simprocAttr]<;>simp [h1]
     ·rcases Ak (M2 r 6) with e2|e2<;>rcases Ak (M2 r 2) with e3|e3<;>simp (disch:=omega) only [Ab6,a1,a2,a3,a4,e0,e1,e2,e3,h1,h2,h3,EVC,xe,EVP,EV,simprocAttr]<;>simp [h1,h2,h3]
 ·simp (disch:=omega) only [Ab6,h1,EVC,xe,EVP,EV,simprocAttr]
  try simp [h1]
theorem An9 (r:Rec) (t:Int):S Am4 2 [r.pv, .i .i64 t]=some [.b (N5 r t)]:=by
 refine Jy1 (N:=1) rfl ?_;have a1:=L8 r t;have a2:=L8 r 5;have a3:=L8 r 6;have a4:=L8 r 2;unfold N5;by_cases h1:r.typ=47
 ·by_cases h2:t=255
  ·simp (disch:=omega) only [Ab5,h1,h2,EVC,xe,EVP,EV,simprocAttr]
   try simp
  ·rcases Ak (M2 r t) with e0|e0
   ·simp (disch:=omega) only [Ab5,a1,e0,h1,h2,EVC,xe,EVP,EV,simprocAttr]
    try simp
   ·rcases Ak (M2 r 5) with e1|e1
    ·simp (disch:=omega) only [Ab5,a1,a2,e0,e1,h1,h2,EVC,xe,EVP,EV,simprocAttr]
     try simp
    ·by_cases h3:t=43
     ·rw [h3] at a1 e0 h2 ⊢;rcases Ak (M2 r 6) with e2|e2<;>simp (disch:=omega) only [Ab5,a1,a2,a3,e0,e1,e2,h1,EVC,xe,EVP,EV,simprocAttr]<;>simp [h1]
     ·rcases Ak (M2 r 6) with e2|e2<;>rcases Ak (M2 r 2) with e3|e3<;>simp (disch:=omega) only [Ab5,a1,a2,a3,a4,e0,e1,e2,e3,h1,h2,h3,EVC,xe,EVP,EV,simprocAttr]<;>simp [h1,h2,h3]
 ·simp (disch:=omega) only [Ab5,h1,EVC,xe,EVP,EV,simprocAttr]
  try simp [h1]
def Ip7 (l:List Rec) (zone s:List UInt8):Bool:=l.any fun r=>Gs r zone s
def Y2 (l:List Rec) (zone name:List UInt8):Bool:=(starsN l zone name).any fun s=>Ip7 l zone s
theorem Ac6 {l:List Rec} {zone name s:List UInt8} (h:s∈starsN l zone name):s.length≤254:=by
 unfold starsN at h;rw [List.mem_filterMap] at h;obtain ⟨r,_,hr⟩:=h;unfold My at hr;split at hr
 ·rename_i hc;simp only [Aw] at hc;injection hr with hr;unfold Tt at hr;rw [if_pos hc.2] at hr;rw [←hr];have:=hc.2;unfold Kh at this;simp only [Aw] at this;exact J5 this.2
 ·cases hr
theorem pp (r:Rec) (zone s:List UInt8) (hr:r.wf) (hz:zone.length≤9223372036854775807) (hn:s.length≤9223372036854775807):S Am7 1 [r.pv, .s zone, .s s]=some [.b (Gs r zone s)]:=by refine Jy7 (N:=1) rfl ?_;simp (disch:=omega) only [It0,Tm r zone s hr hz hn,EVC,xe,EVP,EV,simprocAttr]
theorem At9 (l:List Rec) (zone s:List UInt8) (hw:∀r∈l,r.wf) (hl:l.length≤1000000) (hz:zone.length≤9223372036854775807) (hn:s.length≤9223372036854775807):S Am8 1 [.s s,Al l, .s zone]=some [.b (Ip7 l zone s)]:=by refine Jy9 (N:=1) rfl ?_;have k:=Fb l Am7 [.s zone, .s s] (fun r=>Gs r zone s) hl (fun r hr=>pp r zone s (hw r hr) hz hn);unfold Ip7;simp (disch:=omega) only [It2,k,EVC,xe,EVP,EV,simprocAttr]
theorem Wq (l:List Rec) (zone name:List UInt8) (hw:∀r∈l,r.wf) (hl:l.length≤1000000) (hz:zone.length≤9223372036854775807) (hn:name.length≤9223372036854775807):S An3 3 [Al l, .s zone, .s name]=some [.b (Y2 l zone name)]:=by refine Jb4 (N:=1) rfl ?_;have k1:=vv l zone name hw hl hz hn;have hsl:=Uz l zone name;have k:=Kr (starsN l zone name) Am8 [Al l, .s zone] (fun s=>Ip7 l zone s) (by omega) (fun s hs=>At9 l zone s hw hl hz (by have:=Ac6 hs;omega));unfold Y2;generalize starsN l zone name=st at*;simp (disch:=omega) only [It8,k1,k,EVC,xe,EVP,EV,simprocAttr]
def Dm0 (l:List Rec) (zone:List UInt8) (q:Ques) (r:Rec):Bool:=
 (Gs r zone q.name && H7 r.data.host q.name)||(N5 r q.typ && (decide (r.name=q.name)||Ex l zone q.name r.name))
def fg (l:List Rec) (zone:List UInt8) (q:Ques):Bool:=under q.name zone && l.any (Dm0 l zone q)
theorem Dh7 (l:List Rec) (zone:List UInt8) (q:Ques) (r:Rec) (hr:r.wf) (hw:∀r∈l,r.wf) (hl:l.length≤1000000) (hz:zone.length≤9223372036854775807) (hn:q.name.length≤9223372036854775807):
  S Am5 1 [r.pv, .s zone,q.pv,Al l]=some [.b (Dm0 l zone q r)]:=by
 refine Jy3 (N:=1) rfl ?_;have g2:=hr.data.host;unfold Qm at g2;have h1:=Tm r zone q.name hr hz hn;have h2:=Gt r.data.host q.name g2 hn;have h3:=Cj8 r q.typ;have h4:=pq l zone q.name r.name hw hl hz hn;unfold Dm0;by_cases e4:r.name=q.name
 ·rcases Ak (Gs r zone q.name) with e0|e0<;>rcases Ak (H7 r.data.host q.name) with e1|e1<;>rcases Ak (N5 r q.typ) with e2|e2<;>rcases Ak (Ex l zone q.name r.name) with e3|e3
  all_goals simp (disch:=omega) only [Hz9,h1,h2,h3,h4,e0,e1,e2,e3,e4,EVM,EVC,xe,EVP,EV,simprocAttr]
  all_goals simp
 ·rcases Ak (Gs r zone q.name) with e0|e0<;>rcases Ak (H7 r.data.host q.name) with e1|e1<;>rcases Ak (N5 r q.typ) with e2|e2<;>rcases Ak (Ex l zone q.name r.name) with e3|e3
  all_goals simp (disch:=omega) only [Hz9,h1,h2,h3,h4,e0,e1,e2,e3,e4,EVM,EVC,xe,EVP,EV,simprocAttr]
  all_goals simp
theorem gt (l:List Rec) (zone:List UInt8) (q:Ques) (hw:∀r∈l,r.wf) (hl:l.length≤1000000) (hz:zone.length≤9223372036854775807) (hn:q.name.length≤9223372036854775807):S An2 3 [Al l, .s zone,q.pv]=some [.b (fg l zone q)]:=by refine Jb3 (N:=1) rfl ?_;have k:=Fb l Am5 [.s zone,q.pv,Al l] (Dm0 l zone q) hl (fun r hr=>Dh7 l zone q r (hw r hr) hw hl hz hn);have hu:=E8 q.name zone hn hz;unfold fg;rcases Ak (under q.name zone) with h|h<;>simp (disch:=omega) only [It7,hu,h,k,EVM,EVC,xe,EVP,EV,simprocAttr]<;>simp
theorem At5 (l:List Rec) (zone:List UInt8) (q:Ques) (hw:∀r∈l,r.wf) (hl:l.length≤1000000) (hz:zone.length≤9223372036854775807) (hn:q.name.length≤9223372036854775807):S Bs8 3 [Al l, .s zone,q.pv]=some [.b (fg l zone q)]:=by
 refine Jb2 (N:=l.length+1) rfl ?_;have hu:=I6 q.name zone hn hz;unfold fg;have key:Fj6.ev S (l.length+1) [Al l, .s zone,q.pv, .b true]=some (if l.any (Dm0 l zone q)=true then .ret [.b true] else .yld 0 []):=by
  refine Ew l (fun i=>[.i .i64 (i:Int)]) (fun i r=>if r.any (Dm0 l zone q)=true then .ret [.b true] else .yld 0 []) rfl (by omega) (fun i c r hd hi hc=> ?_) ?_
  ·have hcw:=hw c (A9 hc);have g2:=hcw.data.host;unfold Qm at g2;have h1:=Tn c zone q.name hcw hz hn;have h2:=J0 c.data.host q.name g2 hn;have h3:=An9 c q.typ;have h4:=Zk l zone q.name c.name hw hl hz hn;rw [List.any_cons];have body:Df7.ev S (l.length+1) ([Al l, .s zone,q.pv, .b true]++[.i .i64 (i:Int)])=some (if Dm0 l zone q c=true then .ret [.b true] else .yld 1 [.i .i64 ((i:Int)+1)]):=by
    unfold Dm0;by_cases e4:c.name=q.name
    ·rcases Ak (Gs c zone q.name) with e0|e0<;>rcases Ak (H7 c.data.host q.name) with e1|e1<;>rcases Ak (N5 c q.typ) with e2|e2<;>rcases Ak (Ex l zone q.name c.name) with e3|e3
     all_goals simp (disch:=omega) only [Bv1,hc,h1,h2,h3,h4,e0,e1,e2,e3,e4,EVM,EVC,xe,EVP,EV,simprocAttr]
     all_goals simp
    ·rcases Ak (Gs c zone q.name) with e0|e0<;>rcases Ak (H7 c.data.host q.name) with e1|e1<;>rcases Ak (N5 c q.typ) with e2|e2<;>rcases Ak (Ex l zone q.name c.name) with e3|e3
     all_goals simp (disch:=omega) only [Bv1,hc,h1,h2,h3,h4,e0,e1,e2,e3,e4,EVM,EVC,xe,EVP,EV,simprocAttr]
     all_goals simp
   rcases Ak (Dm0 l zone q c) with h|h
   ·right;rw [body,h];simp [Out.goes]
   ·left;rw [body,h];simp
  ·simp (disch:=omega) only [Bv1,EVC,xe,EVP,EV,simprocAttr];simp [Out.goes]
 rcases Ak (under q.name zone) with h|h
 ·rw [h] at hu ⊢;rcases Ak (l.any (Dm0 l zone q)) with h2|h2<;>rw [h2] at key ⊢<;>simp (disch:=omega) only [Bv1,hu,key,EVM,EVC,xe,EVP,EV,simprocAttr]<;>simp
 ·rw [h] at hu ⊢;simp (disch:=omega) only [Bv1,hu,EVM,EVC,xe,EVP,EV,simprocAttr]
  try simp
end Go.X.G
/- Data of records: bytes. -/
namespace Go.X.G
open Go Go.X
def Hx8 (set:Int) (i:Nat):Nat→Bool
 |0=>true
 |k+1=>(!decide (bit set i=1)||knw (i:Int)) && Hx8 set (i+1) k
def be (v:Int):Nat→List UInt8
 |0=>[]
 |n+1=>UInt8.ofNat (v / 256 ^ n % 256).toNat::be v n
theorem Ec (v:Int):∀n,(be v n).length=n
 |0=>rfl
 |n+1=>by simp [be,Ec v n]
theorem Bn3 (z:Int) (h1:0≤z) (h2:z<256):((UInt8.ofNat z.toNat).toNat:Int)=z:=by simp;omega
theorem Gs2 (v:Int) (j:Nat):v / 256 ^ j / 256=v / 256 ^ (j+1):=by rw [Int.pow_succ,Int.ediv_ediv_of_nonneg (Int.le_of_lt (Int.pow_pos (by decide)))]
theorem Il4 (v:Int) (j:Nat) (h:0≤v):0≤v / 256 ^ j:=Int.ediv_nonneg h (Int.le_of_lt (Int.pow_pos (by decide)))
theorem Il5 (v:Int) (j:Nat) (h:0≤v):v / 256 ^ j≤v:=Int.ediv_le_self _ h
end Go.X.G
/- Data of records: the wire form. -/
namespace Go.X.G
open Go Go.X
theorem ep {s:List UInt8} (h:Ib s=true):s.length≤63:=by
 unfold Ib at h;simp at h;rcases h with h|h
 ·simp [h]
 ·omega
theorem Ws:∀(r:List UInt8) (f:Bool) (cur:List UInt8) (l:List (List UInt8)),spl f cur r=some l→∀x∈l,Ib x=true
 |[],f,cur,l,h=>by simp [spl] at h;subst h;simp
 |c::r,f,cur,l,h=>by
  simp only [spl] at h;split at h
  ·split at h
   ·rename_i h2;obtain ⟨m,hm,rfl⟩:=Ax.1 h;intro x hx;simp at hx;rcases hx with rfl|hx
    ·exact h2.1
    ·exact Ws r _ _ _ hm x hx
   ·cases h
  ·exact Ws r _ _ _ h
theorem Xt (n:List UInt8):∀x∈lbl n,Ib x=true:=by
 unfold lbl nm;split
 ·simp
 ·split
  ·cases h:spl true [] n with
   |none=>simp
   |some l=>simpa using Ws _ _ _ _ h
  ·simp
def wireL (l:List (List UInt8)):List UInt8:=l.flatMap fun x=>be (x.length:Int) 1++x
def It (n:List UInt8):List UInt8:=wireL (lbl n)++be 0 1
theorem Rq:∀(l:List (List UInt8)),(∀x∈l,Ib x=true)→(wireL l).length≤64*l.length
 |[],_=>by simp [wireL]
 |x::l,h=>by have h1:=ep (h x (by simp));have h2:=Rq l (fun y hy=>h y (by simp [hy]));simp only [wireL,Jw,Ac,Ec,A3] at h2 ⊢;omega
theorem Zt (n:List UInt8):(It n).length≤20000:=by have h1:=Rq (lbl n) (Xt n);have h2:=G8 n;simp only [It,Ac,Ec];omega
def bmV (set:Int) (i:Nat):Nat→Int
 |0=>0
 |j+1=>bmV set i j*2+bit set (i*8+j)
theorem Gw2 (set:Int) (t:Nat):0≤bit set t∧bit set t≤1:=by unfold bit;omega
theorem Az1 (set:Int) (i:Nat):∀j,0≤bmV set i j∧bmV set i j<2 ^ j
 |0=>by simp [bmV]
 |j+1=>by have h1:=Az1 set i j;have h2:=Gw2 set (i*8+j);simp only [bmV,Int.pow_succ];omega
def bmB (set:Int) (i:Nat):UInt8:=UInt8.ofNat (bmV set i 8).toNat
def bmL (set:Int):Nat→Nat
 |0=>0
 |i+1=>if bmV set i 8≠0 then i+1 else bmL set i
theorem Gw0 (set:Int):∀i,bmL set i≤i
 |0=>Af _
 |i+1=>by have:=Gw0 set i;simp only [bmL];split<;>omega
def bmap (set:Int):List UInt8:=((List.range 8).map (bmB set)).take (bmL set 8)
theorem Az0 (set:Int):(bmap set).length≤8:=by simp [bmap];omega
def Qv (d:Dat):List UInt8:=if d.v6 then be d.hi 8++be d.lo 8 else be d.lo 4
def usd (t:Int) (d:Dat):Dat:=
 if t=1∨t=28 then ⟨d.v6,d.hi,d.lo,[],[],[],0,0,0,0,0,0,0⟩
 else if t=2∨t=5∨t=12∨t=39 then ⟨false,0,0,d.host,[],[],0,0,0,0,0,0,0⟩
 else if t=6 then ⟨false,0,0,d.host,d.mail,[],d.a,d.b,d.c,d.d,d.e,0,0⟩
 else if t=15 then ⟨false,0,0,d.host,[],[],d.a,0,0,0,0,0,0⟩
 else if t=16 then ⟨false,0,0,[],[],d.text,0,0,0,0,0,0,0⟩
 else if t=33 then ⟨false,0,0,d.host,[],[],d.a,d.b,d.c,0,0,0,0⟩
 else if t=43∨t=48 then ⟨false,0,0,[],[],d.text,d.a,d.b,d.c,0,0,0,0⟩
 else if t=46 then ⟨false,0,0,d.host,[],d.text,d.a,d.b,d.c,d.d,d.e,d.f,0⟩
 else ⟨false,0,0,d.host,[],[],0,0,0,0,0,0,d.bits⟩
end Go.X.G
/- Data of records: which are valid. -/
namespace Go.X.G
open Go Go.X
def Dx (t:Int) (d:Dat):Bool:=
 if t=1 then D7 d && !d.v6
 else if t=28 then d.v6
 else if t=6 then H0 d.host && H0 d.mail && inB d.a 4294967295 && inB d.b 2147483647 && inB d.c 2147483647 && inB d.d 2147483647 && inB d.e 2147483647
 else if t=15 then H0 d.host && inB d.a 65535
 else if t=16 then decide (d.text.length≤255)
 else if t=33 then H0 d.host && inB d.a 65535 && inB d.b 65535 && inB d.c 65535
 else if t=43 then inB d.a 65535 && inB d.b 255 && inB d.c 255 && I8 d.text
 else if t=46 then knw d.a && decide (d.a≠46) && inB d.b 127 && inB d.c 2147483647 && inB d.d 4294967295 && inB d.e 4294967295 && inB d.f 65535 && H0 d.host && I8 d.text
 else if t=47 then vld d.host && decide (d.bits≠0) && Hx8 d.bits 0 64
 else if t=48 then (decide (d.a=256)||decide (d.a=257)) && decide (d.b=3) && inB d.c 255 && I8 d.text
 else H0 d.host
def Ej (t:Int) (d:Dat):Bool:=knw t && decide (usd t d=d) && Dx t d
def J4 (t:Int) (d:Dat):List UInt8:=
 if t=1∨t=28 then Qv d
 else if t=6 then It d.host++It d.mail++be d.a 4++be d.b 4++be d.c 4++be d.d 4++be d.e 4
 else if t=15 then be d.a 2++It d.host
 else if t=16 then be (d.text.length:Int) 1++d.text
 else if t=33 then be d.a 2++be d.b 2++be d.c 2++It d.host
 else if t=43∨t=48 then be d.a 2++be d.b 1++be d.c 1++d.text
 else if t=46 then be d.a 2++be 253 1++be d.b 1++be d.c 4++be d.d 4++be d.e 4++be d.f 2++It d.host++d.text
 else if t=47 then It d.host++be 0 1++be ((bmap d.bits).length:Int) 1++bmap d.bits
 else It d.host
theorem knw_cases {t:Int} (h:knw t=true):t=1∨t=2∨t=5∨t=6∨t=12∨t=15∨t=16∨t=28∨t=33∨t=39∨t=43∨t=46∨t=47∨t=48:=by simp [knw] at h;omega
def Eh2 (t:Int) (a b:Dat):Int:=
 if Ej t a && Ej t b then cmpS (J4 t a) (J4 t b) else if Ej t a then -1 else if Ej t b then 1 else 0
end Go.X.G
/- Lists of records: what the reference's functions give. -/
namespace Go.X.G
open Go Go.X
def Om (r:Rec):Bool:=vld r.name && knw r.typ && decide (0≤r.ttl) && decide (r.ttl≤2147483647) && Ej r.typ r.data
def yw (a b:Int):Int:=if a<b then -1 else if b<a then 1 else 0
def Ts (a b:Rec):Int:=
 if Hf a.name b.name≠0 then Hf a.name b.name else if yw a.typ b.typ≠0 then yw a.typ b.typ else Eh2 a.typ a.data b.data
def isK (n:List UInt8) (t:Int) (r:Rec):Bool:=decide (r.name=n) && decide (r.typ=t)
def findR (l:List Rec) (n:List UInt8) (t:Int):List Rec:=l.filter (isK n t)
theorem Em2 (l:List Rec) (n:List UInt8) (t:Int) (hl:l.length≤1000000):S Bn4 3 [Al l, .s n, .i .i64 t]=some [Al (findR l n t)]:=by
 refine Jq8 (N:=l.length+1) rfl ?_;have key:Et0.ev S (l.length+1) [Al l, .s n, .i .i64 t]=some (.yld 0 [Al ([]++findR l n t)]):=by
  refine Fy l (fun i (g:List Rec)=>[Al g, .i .i64 (i:Int)]) (fun i g r=> .yld 0 [Al (g++findR r n t)]) (fun i g=>g.length≤i) [] rfl (Cc _) (by omega) (fun i g c r hd hi hc hI=> ?_) (fun g hI=> ?_)
  ·left;by_cases h:isK n t c=true
   ·refine ⟨g++[c],?_,by simp;omega,by simp [findR,h]⟩;simp [isK] at h;simp (disch:=omega) only [Bq0,hc,h.1,h.2,xe,EVP,EV,simprocAttr]
   ·refine ⟨g,?_,by omega,by simp [findR,h]⟩;simp [isK] at h;by_cases h1:c.name=n
    ·simp (disch:=omega) only [Bq0,hc,h1,h h1,xe,EVP,EV,simprocAttr]
    ·by_cases h2:c.typ=t<;>simp (disch:=omega) only [Bq0,hc,h1,h2,xe,EVP,EV,simprocAttr]
  ·simp (disch:=omega) only [Bq0,xe,EVP,EV,simprocAttr];simp [findR,Out.goes]
 simp (disch:=omega) only [Bq0,key,xe,EVP,EV,simprocAttr]
def ij (x:Rec):List Rec→List Rec
 |[]=>[x]
 |y::r=>if Ts y x<0 then y::ij x r else if Ts y x=0 then (if x.ttl<y.ttl then x::r else y::r) else x::y::r
def sortR (l:List Rec):List Rec:=l.foldl (fun acc x=>ij x acc) []
theorem insR_mem (x:Rec):∀(l:List Rec) (y:Rec),y∈ij x l→y=x∨y∈l
 |[],y,h=>by simp [ij] at h;exact .inl h
 |z::r,y,h=>by
  simp only [ij] at h;split at h
  ·simp at h;rcases h with h|h
   ·exact .inr (by simp [h])
   ·rcases insR_mem x r y h with h|h
    ·exact .inl h
    ·exact .inr (by simp [h])
  ·split at h
   ·split at h
    ·simp at h;rcases h with h|h
     ·exact .inl h
     ·exact .inr (by simp [h])
    ·exact .inr h
   ·simp at h;rcases h with h|h
    ·exact .inl h
    ·exact .inr (by simpa using h)
end Go.X.G
/- Zones: what the reference's check gives. -/
namespace Go.X.G
open Go Go.X
def Fx (n top:List UInt8):Bool:=decide (n≠top) && under n top
def fk (l:List Rec) (n:List UInt8) (t:Int):Bool:=decide (0<(findR l n t).length)
def Ob (r x:Rec):Bool:=
 !decide (x.name=r.name)||(!(decide (x.typ=r.typ) && decide (r.typ≠46) && decide (x.ttl≠r.ttl)) && !(decide (x.typ=r.typ) && (decide (r.typ=6)||decide (r.typ=5)||decide (r.typ=39)) && decide (x≠r)) &&
  !(decide (r.typ=5) && decide (x.typ≠5) && decide (x.typ≠46) && decide (x.typ≠47)))
def Yp (z:Zone) (r:Rec):Bool:=z.recs.all (Ob r)
def Np (z:Zone) (r x:Rec):Bool:=
 !(decide (x.typ=39) && Fx r.name x.name) && !(decide (x.typ=2) && Fx x.name z.origin && Fx r.name x.name && decide (r.typ≠1) && decide (r.typ≠28))
def Xj (t:Int):Bool:=decide (t=2)||decide (t=43)||decide (t=47)||decide (t=46)||decide (t=1)||decide (t=28)
def Xk (z:Zone) (r:Rec):Bool:=
 if (lbl r.name)[0]? =some [42]∧(r.typ=2∨r.typ=39) then false
 else z.recs.all (Np z r) && (if Fx r.name z.origin && fk z.recs r.name 2 then Xj r.typ else decide (r.typ≠43))
def R3 (z:Zone) (r:Rec):Bool:=under r.name z.origin && !(decide (r.typ=6) && decide (r.name≠z.origin)) && Yp z r && Xk z r
def P7 (z:Zone):Int:=
 if vld z.origin=false then 2
 else if 2048<z.recs.length then 9
 else if z.recs.all (fun r=>decide ((findR z.recs r.name r.typ).length≤64))=false then 9
 else if z.recs.all Om=false then 5
 else if z.recs≠sortR z.recs then 7
 else if (findR z.recs z.origin 6).length≠1∨fk z.recs z.origin 2=false then 13
 else if z.recs.all (R3 z)=false then 13
 else 0
end Go.X.G
/- The law LookupSoas. -/
namespace Go.X.G
open Go Go.X
def zero:Dat:=⟨false,0,0,[],[],[],0,0,0,0,0,0,0⟩
end Go.X.G
/- The canonical order of names is a total order. -/
namespace Go.X.G
open Go Go.X
structure TO {α:Type} (lt:α→α→Prop):Prop where
 irr:∀a,¬lt a a
 tr:∀a b c,lt a b→lt b c→lt a c
 tri:∀a b,lt a b∨a=b∨lt b a
theorem TO.asym {α:Type} {lt:α→α→Prop} (h:TO lt) {a b:α} (h1:lt a b):¬lt b a:=fun h2=>h.irr a (h.tr _ _ _ h1 h2)
theorem TO.ntr {α:Type} {lt:α→α→Prop} (h:TO lt) {a b c:α} (h1:¬lt a b) (h2:¬lt b c):¬lt a c:=by
 intro h3;rcases h.tri b a with h4|h4|h4
 ·exact h2 (h.tr _ _ _ h4 h3)
 ·subst h4;exact h2 h3
 ·exact h1 h4
def lex {α:Type} (lt:α→α→Prop):List α→List α→Prop
 |[],[]=>False
 |[],_::_=>True
 |_::_,[]=>False
 |a::x,b::y=>lt a b∨(a=b∧lex lt x y)
theorem Cj2 {α:Type} {lt:α→α→Prop} (h:TO lt):∀x:List α,¬lex lt x x
 |[]=>by simp [lex]
 |a::x=>by simp only [lex,true_and,not_or];exact ⟨h.irr a,Cj2 h x⟩
theorem Es7 {α:Type} {lt:α→α→Prop} (h:TO lt):∀x y z:List α,lex lt x y→lex lt y z→lex lt x z
 |[],[],_,h1,_=>by simp [lex] at h1
 |[],_::_,[],_,h2=>by simp [lex] at h2
 |[],_::_,_::_,_,_=>by simp [lex]
 |_::_,[],_,h1,_=>by simp [lex] at h1
 |_::_,_::_,[],_,h2=>by simp [lex] at h2
 |a::x,b::y,c::z,h1,h2=>by
  simp only [lex] at h1 h2 ⊢;rcases h1 with h1|⟨rfl,h1⟩
  ·rcases h2 with h2|⟨rfl,h2⟩
   ·exact .inl (h.tr _ _ _ h1 h2)
   ·exact .inl h1
  ·rcases h2 with h2|⟨rfl,h2⟩
   ·exact .inl h2
   ·exact .inr ⟨rfl,Es7 h x y z h1 h2⟩
theorem lex_tri {α:Type} {lt:α→α→Prop} (h:TO lt):∀x y:List α,lex lt x y∨x=y∨lex lt y x
 |[],[]=> .inr (.inl rfl)
 |[],_::_=> .inl (by simp [lex])
 |_::_,[]=> .inr (.inr (by simp [lex]))
 |a::x,b::y=>by
  simp only [lex];rcases h.tri a b with h1|rfl|h1
  ·exact .inl (.inl h1)
  ·rcases lex_tri h x y with h2|rfl|h2
   ·exact .inl (.inr ⟨rfl,h2⟩)
   ·exact .inr (.inl rfl)
   ·exact .inr (.inr (.inr ⟨rfl,h2⟩))
  ·exact .inr (.inr (.inl h1))
theorem TO.lex {α:Type} {lt:α→α→Prop} (h:TO lt):TO (G.lex lt):=⟨Cj2 h,Es7 h,lex_tri h⟩
theorem Jk3:TO (fun a b:UInt8=>a<b):=⟨fun a=>UInt8.lt_irrefl a,fun a b c h1 h2=>UInt8.lt_trans h1 h2,fun a b=>by
 rcases UInt8.lt_or_le a b with h|h
 ·exact .inl h
 ·rcases UInt8.lt_or_le b a with h2|h2
  ·exact .inr (.inr h2)
  ·exact .inr (.inl (UInt8.le_antisymm h2 h))⟩
abbrev ltB:List UInt8→List UInt8→Prop:=lex fun a b:UInt8=>a<b
theorem Dl7:TO ltB:=Jk3.lex
theorem Ty:∀a b:List UInt8,Op.bytesLess a b=true↔ltB a b
 |[],[]=>by simp [Op.bytesLess,lex]
 |[],_::_=>by simp [Op.bytesLess,lex]
 |_::_,[]=>by simp [Op.bytesLess,lex]
 |a::x,b::y=>by have ih:=Ty x y;simp only [Op.bytesLess,Ap,decide_eq_true_eq,Aw,beq_iff_eq,lex];rw [ih]
theorem Q7 (a b:List UInt8):cmpS a b<0↔ltB a b:=by
 rw [←Ty];unfold cmpS;cases h:Op.bytesLess a b
 ·simp only [Ad,if_false,iff_false];split<;>omega
 ·simp
abbrev ltL:List (List UInt8)→List (List UInt8)→Prop:=lex ltB
theorem to_L:TO ltL:=Dl7.lex
def As0 (a b:List (List UInt8)):Int:=match Q8 a b with
 |some c=>c
 |none=>if a.length<b.length then -1 else if b.length<a.length then 1 else 0
theorem yy:∀a b:List (List UInt8),As0 a b<0↔ltL a b
 |[],[]=>by simp [As0,Q8,lex]
 |[],_::_=>by simp [As0,Q8,lex]
 |_::_,[]=>by simp [As0,Q8,lex]
 |x::xs,y::ys=>by
  have ih:=yy xs ys;simp only [As0,Q8,lex] at ih ⊢;by_cases h:x=y
  ·subst h;rw [if_pos rfl];simp only [A3,Nat.add_lt_add_iff_right,true_and];rw [ih];constructor
   ·exact fun h=> .inr h
   ·rintro (h|h)
    ·exact absurd h (Dl7.irr x)
    ·exact h
  ·rw [if_neg h];simp only;rw [Q7];simp [h]
theorem mf (a b:List (List UInt8)):ml a b=As0 a.reverse b.reverse:=by unfold ml As0;cases Q8 a.reverse b.reverse<;>simp
theorem Cz9 (a b:List (List UInt8)):ml a b<0↔ltL a.reverse b.reverse:=by rw [←yy,mf]
def ltN (a b:List UInt8):Prop:=if vld a=true then (if vld b=true then ltL (lbl a).reverse (lbl b).reverse else True) else (if vld b=true then False else ltB a b)
theorem En (a b:List UInt8):Hf a b<0↔ltN a b:=by
 unfold ltN;rcases Ak (vld a) with ha|ha
 ·rcases Ak (vld b) with hb|hb
  ·rw [Tv ha hb,Cz9,if_pos ha,if_pos hb]
  ·unfold Hf;simp [ha,hb]
 ·rcases Ak (vld b) with hb|hb
  ·unfold Hf;simp [ha,hb]
  ·have e:Hf a b=cmpS a b:=by unfold Hf;simp [ha,hb]
   rw [e,Q7];simp [ha,hb]
theorem to_N:TO ltN:=by
 refine ⟨fun a h=> ?_,fun a b c h1 h2=> ?_,fun a b=> ?_⟩
 ·unfold ltN at h;split at h
  ·exact to_L.irr _ h
  ·exact Dl7.irr _ h
 ·unfold ltN at*;rcases Ak (vld a) with ha|ha<;>rcases Ak (vld b) with hb|hb<;>rcases Ak (vld c) with hc|hc<;>
   simp only [ha,hb,hc,if_true,Ad,if_false] at h1 h2 ⊢
  ·exact to_L.tr _ _ _ h1 h2
  ·exact Dl7.tr _ _ _ h1 h2
 ·unfold ltN;rcases Ak (vld a) with ha|ha<;>rcases Ak (vld b) with hb|hb<;>simp only [ha,hb,if_true,Ad,if_false]
  ·rcases to_L.tri (lbl a).reverse (lbl b).reverse with h|h|h
   ·exact .inl h
   ·exact .inr (.inl (Xs ha hb (List.reverse_inj.1 h)))
   ·exact .inr (.inr h)
  ·simp
  ·simp
  ·exact Dl7.tri a b
theorem H5 {a b:List UInt8}:Hf a b=0↔a=b:=by
 constructor
 ·intro h;rcases Ak (vld a) with ha|ha
  ·rcases Ak (vld b) with hb|hb
   ·rw [Tv ha hb] at h;have key:∀x y:List (List UInt8),As0 x y=0→x=y:=by
     intro x
     induction x with
     |nil=>intro y hy;cases y with
      |nil=>rfl
      |cons=>simp [As0,Q8] at hy
     |cons x xs ih=>intro y hy;cases y with
      |nil=>simp [As0,Q8] at hy
      |cons y ys=>
       simp only [As0,Q8] at hy ih;by_cases e:x=y
       ·subst e;rw [if_pos rfl] at hy;simp only [A3,Nat.add_lt_add_iff_right] at hy;rw [ih ys hy]
       ·rw [if_neg e] at hy;exact absurd (H4.1 hy) e
    rw [mf] at h;exact Xs ha hb (List.reverse_inj.1 (key _ _ h))
   ·unfold Hf at h;simp [ha,hb] at h
  ·rcases Ak (vld b) with hb|hb
   ·unfold Hf at h;simp [ha,hb] at h
   ·have e:Hf a b=cmpS a b:=by unfold Hf;simp [ha,hb]
    rw [e] at h;exact H4.1 h
 ·rintro rfl;have h1:=En a a;have h2:¬Hf a a<0:=fun h=>to_N.irr a (h1.1 h);have key:∀x:List (List UInt8),As0 x x=0:=by
   intro x
   induction x with
   |nil=>rfl
   |cons x xs ih=>
    simp only [As0,Q8] at ih ⊢;simp only [if_true,A3,Nat.add_lt_add_iff_right];exact ih
  rcases Ak (vld a) with ha|ha
  ·rw [Tv ha ha];rw [mf];exact key _
  ·have e:Hf a a=cmpS a a:=by unfold Hf;simp [ha]
   rw [e];exact H4.2 rfl
end Go.X.G
/- Sorted lists of names, each once. -/
namespace Go.X.G
open Go Go.X
def Qf {α:Type} (e:α→α→Bool):α→List α→List α
 |_,[]=>[]
 |p,c::r=>if e c p=true then Qf e c r else c::Qf e c r
def cpt {α:Type} (e:α→α→Bool):List α→List α
 |[]=>[]
 |x::r=>x::Qf e x r
theorem gj {α:Type} (e:α→α→Bool) (c:α):∀(r:List α) (p:α),Qf e p (r++[c])=Qf e p r++(if e c ((p::r).getLast (by simp))=true then [] else [c])
 |[],p=>by simp only [Cb,Qf,List.getLast_singleton];rfl
 |x::r,p=>by
  have ih:=gj e c r x;simp only [B4,Qf,List.getLast_cons_cons];split
  ·exact ih
  ·rw [ih];rfl
theorem L9 {α:Type} (e:α→α→Bool) (c:α) (l:List α) (h:l≠[]):cpt e (l++[c])=cpt e l++(if e c (l.getLast h)=true then [] else [c]):=by
 cases l with
 |nil=>exact absurd rfl h
 |cons x r=>
  show x::Qf e x (r++[c])=_;rw [gj];rfl
theorem xp {α:Type} (e:α→α→Bool):∀(r:List α) (p:α),(Qf e p r).length≤r.length
 |[],_=>by simp [Qf]
 |c::r,p=>by have:=xp e r c;simp only [Qf];split<;>simp<;>omega
theorem Yy {α:Type} (e:α→α→Bool) (l:List α):(cpt e l).length≤l.length:=by
 cases l with
 |nil=>simp [cpt]
 |cons x r=>have:=xp e r x;simp [cpt];exact this
theorem Yz {α:Type} (e:α→α→Bool):∀(r:List α) (p:α),∀x∈Qf e p r,x∈r
 |[],_,x,h=>by simp [Qf] at h
 |c::r,p,x,h=>by
  simp only [Qf] at h;split at h
  ·exact .tail _ (Yz e r c x h)
  ·rcases Am.1 h with rfl|h
   ·exact .head _
   ·exact .tail _ (Yz e r c x h)
theorem Gs3 {α:Type} (e:α→α→Bool) (l:List α):∀x∈cpt e l,x∈l:=by
 cases l with
 |nil=>intro x h;simp [cpt] at h
 |cons y r=>
  intro x h;rcases Am.1 (show x∈y::Qf e y r from h) with rfl|h
  ·exact .head _
  ·exact .tail _ (Yz e r y x h)
abbrev eqs {α:Type} [DecidableEq α]:α→α→Bool:=fun a b=>decide (a=b)
theorem cptG_mem {α:Type} [DecidableEq α]:∀(r:List α) (p x:α),x∈r→x=p∨x∈Qf eqs p r
 |[],_,x,h=>by simp at h
 |c::r,p,x,h=>by
  simp only [Qf];by_cases hc:c=p
  ·subst hc;rw [if_pos (by simp [eqs])];rcases Am.1 h with rfl|h
   ·exact .inl rfl
   ·exact cptG_mem r c x h
  ·rw [if_neg (by simp [eqs,hc])];right;rcases Am.1 h with rfl|h
   ·exact .head _
   ·rcases cptG_mem r c x h with rfl|h
    ·exact .head _
    ·exact .tail _ h
theorem Gs4 {α:Type} [DecidableEq α] (l:List α) (x:α):x∈cpt eqs l↔x∈l:=by
 refine ⟨Gs3 _ l x,fun h=> ?_⟩;cases l with
 |nil=>simp at h
 |cons y r=>
  rcases Am.1 h with rfl|h
  ·exact .head _
  ·rcases cptG_mem r y x h with rfl|h
   ·exact .head _
   ·exact .tail _ h
theorem Tj {α:Type} [DecidableEq α] {lt:α→α→Prop} (ht:TO lt):∀(r:List α) (p:α),(p::r).Pairwise (fun a b=>¬lt b a)→(p::Qf eqs p r).Pairwise lt
 |[],p,_=>by simp [Qf]
 |c::r,p,h=>by
  rw [A0] at h;have ih:=Tj ht r c h.2;simp only [Qf];by_cases hc:c=p
  ·subst hc;rw [if_pos (by simp [eqs])];exact ih
  ·rw [if_neg (by simp [eqs,hc])];rw [A0];refine ⟨fun x hx=> ?_,ih⟩;have hpc:lt p c:=by
    rcases ht.tri p c with h1|h1|h1
    ·exact h1
    ·exact absurd h1.symm hc
    ·exact absurd h1 (h.1 c (.head _))
   rcases Am.1 hx with rfl|hx
   ·exact hpc
   ·exact ht.tr _ _ _ hpc ((A0.1 ih).1 x hx)
theorem Ar8 {α:Type} [DecidableEq α] {lt:α→α→Prop} (ht:TO lt) (l:List α) (h:l.Pairwise (fun a b=>¬lt b a)):(cpt eqs l).Pairwise lt:=by
 cases l with
 |nil=>simp [cpt]
 |cons x r=>exact Tj ht r x h
theorem Rr {α:Type} {lt:α→α→Prop} (ht:TO lt):∀(a b:List α),a.Pairwise lt→b.Pairwise lt→(∀x,x∈a↔x∈b)→a=b
 |[],[],_,_,_=>rfl
 |[],y::b,_,_,h=>absurd ((h y).2 (.head _)) (by simp)
 |x::a,[],_,_,h=>absurd ((h x).1 (.head _)) (by simp)
 |x::a,y::b,ha,hb,h=>by
  rw [A0] at ha hb;have hxy:x=y:=by
   rcases Am.1 ((h x).1 (.head _)) with h1|h1
   ·exact h1
   ·rcases Am.1 ((h y).2 (.head _)) with h2|h2
    ·exact h2.symm
    ·exact absurd (hb.1 x h1) (ht.asym (ha.1 y h2))
  subst hxy;rw [Rr ht a b ha.2 hb.2 fun z=> ?_];constructor
  ·intro hz;rcases Am.1 ((h z).1 (.tail _ hz)) with rfl|h1
   ·exact absurd (ha.1 z hz) (ht.irr z)
   ·exact h1
  ·intro hz;rcases Am.1 ((h z).2 (.tail _ hz)) with rfl|h1
   ·exact absurd (hb.1 z hz) (ht.irr z)
   ·exact h1
def setN (l:List (List UInt8)):List (List UInt8):=cpt eqs (l.mergeSort fun x y=> !decide (Hf y x<0))
theorem Gh4 (l:List (List UInt8)):(l.mergeSort fun x y=> !decide (Hf y x<0)).Pairwise (fun a b=>¬ltN b a):=by
 have:=List.pairwise_mergeSort (le:=fun x y:List UInt8=> !decide (Hf y x<0)) (fun a b c h1 h2=>by
  simp only [A7,decide_eq_false_iff_not,En] at h1 h2 ⊢;exact to_N.ntr h2 h1) (fun a b=>by
  simp only [Ap,A7,decide_eq_false_iff_not,En];rcases to_N.tri a b with h|h|h
  ·exact .inl (to_N.asym h)
  ·subst h;exact .inl (to_N.irr a)
  ·exact .inr (to_N.asym h)) l
 refine this.imp fun {a b} h=> ?_;simpa only [A7,decide_eq_false_iff_not,En] using h
theorem Mr (l:List (List UInt8)):(setN l).Pairwise ltN:=Ar8 to_N _ (Gh4 l)
theorem Lr (l:List (List UInt8)) (x:List UInt8):x∈setN l↔x∈l:=by unfold setN;rw [Gs4];exact (List.mergeSort_perm _ _).mem_iff
theorem Qp (l:List (List UInt8)):(setN l).length≤l.length:=by have:=Yy eqs (l.mergeSort fun x y=> !decide (Hf y x<0));rw [iz] at this;exact this
end Go.X.G
/- Records that go out of a list. -/
namespace Go.X.G
open Go Go.X
theorem al {step:List PV→Option Out} {id:Nat} {α:Type} (st:α→List PV) (Q:Out→Prop) (I:α→Prop) (μ:α→Nat)
  (h:∀a,I a→(∃b,step (st a)=some (.yld id (st b))∧I b∧μ b<μ a)∨∃o,step (st a)=some o∧o.goes id=false∧Q o):
  ∀(n:Nat) (a:α),I a→μ a<n→∃o,F8 step id n (st a)=some o∧Q o
 |0,a,_,hn=>by omega
 |n+1,a,ha,hn=>by
  simp only [F8];rcases h a ha with ⟨b,h1,h2,h3⟩|⟨o,h1,h2,h3⟩
  ·rw [h1];simp only [Ay,if_true];exact al st Q I μ h n b h2 (by omega)
  ·rw [h1];refine ⟨o,?_,h3⟩;simp only [Ay];cases o with
   |ret vs=>rfl
   |yld j vs=>
    simp only [Out.goes,beq_eq_false_iff_ne,ne_eq] at h2;simp only [];rw [if_neg h2]
theorem G7 {fn:Fns} {N:Nat} {η:List PV} {id:Nat} {init:List E} {body:T} {α:Type} (st:α→List PV) (Q:Out→Prop) (I:α→Prop) (μ:α→Nat) (a0:α)
  (h0:E.evs η init=some (st a0)) (hI:I a0) (hN:μ a0<N)
  (h:∀a,I a→(∃b,body.ev fn N (η++st a)=some (.yld id (st b))∧I b∧μ b<μ a)∨∃o,body.ev fn N (η++st a)=some o∧o.goes id=false∧Q o):
  ∃o,(T.loop id init body).ev fn N η=some o∧Q o:=by
 simp only [T.ev,h0,Ay];exact al st Q I μ h N a0 hI hN
abbrev zr:Rec:=⟨[],0,0,⟨false,0,0,[],[],[],0,0,0,0,0,0,0⟩⟩
abbrev Bk5:PV:=Rec.pv ⟨[],0,0,⟨false,0,0,[],[],[],0,0,0,0,0,0,0⟩⟩
theorem Ew5 (n:Int) (h0:0≤n) (h1:n≤1073741824):K9 16 (.i .i64 n) Bk5=some (Al (List.replicate n.toNat zr)):=by
 have h2:n≤(LIM:Int):=by simp only [LIM];omega
 have h3:Bk5.cells.length=16:=rfl;simp only [K9,h0,h2,h3,and_self,if_true];simp [Al,Rec.pv,Rec.cells,Dat.cells]
def Gs8:PV→PV→Int
 | .s a, .s b=>Hf a b
 |_,_=>0
theorem Y6 (l:List (List UInt8)) (hl:l.length≤1000000) (hs:∀x∈l,x.length≤9223372036854775807):S Xh 1048578 [Bd l, .f Mt []]=some [Bd (l.mergeSort fun x y=> !decide (Hf y x<0))]:=by
 have hm:∀x∈l.map PV.s,∃a∈l,x= .s a:=fun x hx=>by obtain ⟨a,h1,h2⟩:=Ds.1 hx;exact ⟨a,h1,h2.symm⟩
 have h:=vc (tab:=tab) (xs:=Gn8) (ss:=T1) (f:=Xh) (s:=Er3) Hg8 Hh2 (g:=Mt) (caps:=[]) (l:=l.map PV.s) (by decide) (by simp;omega)
  (fun x hx=>by obtain ⟨a,_,rfl⟩:=hm x hx;rfl) Gs8
  (fun x hx y hy=>by obtain ⟨a,ha,rfl⟩:=hm x hx;obtain ⟨b,hb,rfl⟩:=hm y hy;exact Hb a b (hs a ha) (hs b hb))
  (fun x hx=>by obtain ⟨a,_,rfl⟩:=hm x hx;show¬Hf a a<0;rw [En];exact to_N.irr a)
  (fun x hx y hy z hz h1 h2=>by obtain ⟨a,_,rfl⟩:=hm x hx;obtain ⟨b,_,rfl⟩:=hm y hy;obtain ⟨c,_,rfl⟩:=hm z hz;exact (En a c).2 (to_N.tr _ _ _ ((En a b).1 h1) ((En b c).1 h2)))
  (fun x hx y hy z hz h1 h2=>by obtain ⟨a,_,rfl⟩:=hm x hx;obtain ⟨b,_,rfl⟩:=hm y hy;obtain ⟨c,_,rfl⟩:=hm z hz;exact fun h3=>to_N.ntr (fun q=>h1 ((En a b).2 q)) (fun q=>h2 ((En b c).2 q)) ((En a c).1 h3))
  (fun x hx y hy h1 h2=>by
   obtain ⟨a,_,rfl⟩:=hm x hx;obtain ⟨b,_,rfl⟩:=hm y hy;rcases to_N.tri a b with q|q|q
   ·exact absurd ((En a b).2 q) h1
   ·rw [q]
   ·exact absurd ((En b a).2 q) h2)
 have e:(l.map PV.s).mergeSort (fun x y=> !decide (Gs8 y x<0))=(l.mergeSort fun x y=> !decide (Hf y x<0)).map PV.s:=(Ir3 (r:=fun x y=> !decide (Hf y x<0)) (s:=fun x y=> !decide (Gs8 y x<0)) (f:=PV.s) fun a _ b _=>rfl).symm;rw [e] at h;exact h
theorem M5 (l:List (List UInt8)) (hl:l.length≤1000000):S Sv 1048577 [Bd l]=some [Bd (cpt eqs l)]:=by
 refine Ht4 (N:=l.length+2) rfl ?_;by_cases h2:(l.length:Int)<2
 ·have e:cpt eqs l=l:=by
   match l,h2 with
   |[],_=>rfl
   |[x],_=>rfl
   |_::_::_,h=>simp at h;omega
  rw [e];simp (disch:=omega) only [Nx,h2,EVT,EVM,EVC,xe,EVP,EV,simprocAttr]
 ·-- the inner F8, from a place where two neighbours are equal
  have inner:∀k:Nat,1≤k→k<l.length→cpt eqs (l.take (k+1))=l.take k→∃s:List (List UInt8),s.length=l.length∧s.take (cpt eqs l).length=cpt eqs l∧Ck8.ev S (l.length+2) [Bd l, .i .i64 (k:Int),Bd l]=some (.yld 2 [.i .i64 ((cpt eqs l).length:Int),Bd s]):=by
   intro k hk1 hk hcp;have key:=G7 (fn:=S) (N:=l.length+2) (η:=[Bd l, .i .i64 (k:Int),Bd l]) (id:=3) (init:=[(.v 1),(.c (.i .i64 (1))),(.v 2)]) (body:=ol) (α:=Nat×Nat×List (List UInt8))
    (fun a=>[.i .i64 (a.1:Int), .i .i64 (a.2.1:Int),Bd a.2.2])
    (fun o=>∃s:List (List UInt8),s.length=l.length∧s.take (cpt eqs l).length=cpt eqs l∧o= .yld 2 [.i .i64 ((cpt eqs l).length:Int),Bd s])
    (fun a=>1≤a.2.1∧k+a.2.1≤l.length∧a.1<k+a.2.1∧a.2.2.length=l.length∧a.2.2.take a.1=cpt eqs (l.take (k+a.2.1))∧(cpt eqs (l.take (k+a.2.1))).length=a.1∧a.2.2.drop (k+a.2.1 - 1)=l.drop (k+a.2.1 - 1))
    (fun a=>l.length - a.2.1) (k,1,l) (by simp (disch:=omega) only [EVT,EVM,EVC,xe,EVP,EV,simprocAttr])
    ⟨by simp,by simp;omega,by simp,rfl,by simp only;rw [hcp],by simp only;rw [hcp,Ar];omega,rfl⟩ (by simp only;omega) ?_
   ·obtain ⟨o,h3,s,h4,h5,rfl⟩:=key;exact ⟨s,h4,h5,h3⟩
   ·rintro ⟨i,j,s⟩ ⟨a1,a2,a3,a4,a5,a6,a7⟩;simp only at a1 a2 a3 a4 a5 a6 a7;by_cases hj:k+j<l.length
    ·left;have c1:s[k+j]? =l[k+j]? :=by have:=congrArg (fun q=>q[1]?) a7;simp only [A8] at this;rwa [show k+j - 1+1=k+j by omega] at this
     have c0:s[k+j - 1]? =l[k+j - 1]? :=by have:=congrArg (fun q=>q[0]?) a7;simpa only [A8,C8] using this
     have g1:l[k+j]? =some (l[k+j]'hj):=Az hj;have g0:l[k+j - 1]? =some (l[k+j - 1]'(by omega)):=Az (by omega);have tk:l.take (k+(j+1))=l.take (k+j)++[l[k+j]'hj]:=by rw [show k+(j+1)=(k+j)+1 by omega,Cl,g1];rfl
     have ne:l.take (k+j)≠[]:=by intro h;have:=congrArg List.length h;rw [Ar,Bf] at this;omega
     have gl:(l.take (k+j)).getLast ne=l[k+j - 1]'(by omega):=by rw [Jq];simp only [qk,Ar];congr 1;omega
     have cs:=L9 eqs (l[k+j]'hj) (l.take (k+j)) ne;rw [←tk,gl] at cs;generalize l[k+j]'hj=x at*;generalize l[k+j - 1]'(by omega)=y at*;have hjj:(j:Int)<(s.length:Int) - (k:Int):=by omega
     have i1:Ht 1 (Bd s) (.i .i64 ((k:Int)+(j:Int)))=some (.s x):=by rw [L6 _ _ _ (by omega),show ((k:Int)+(j:Int)).toNat=k+j by omega,c1,g1];rfl
     have i0:Ht 1 (Bd s) (.i .i64 ((k:Int)+((j:Int) - 1)))=some (.s y):=by rw [L6 _ _ _ (by omega),show ((k:Int)+((j:Int) - 1)).toNat=k+j - 1 by omega,c0,g0];rfl
     have ls:Ix 1 (Bd s) (.i .i64 (k:Int)) (.i .i64 (s.length:Int))=some (Bd (s.drop k)):=by rw [L2 _ _ _ _ _ (by omega) (by omega) (by omega)];simp
     have e1:(s.drop k)[j]? =some x:=by rw [A8,c1,g1]
     have e0:(s.drop k)[j - 1]? =some y:=by rw [A8,show k+(j - 1)=k+j - 1 by omega,c0,g0]
     have si:∃w,s[i]? =some w:=⟨_,Az (by omega)⟩;obtain ⟨w,si⟩:=si;have ej:((j:Int) - 1).toNat=j - 1:=by omega
     by_cases hxy:x=y
     ·refine ⟨(i,j+1,s),?_,⟨by simp,by simp only;omega,by simp only;omega,a4,?_,?_,?_⟩,by simp only;omega⟩
      ·simp (disch:=omega) only [Nx,hjj,i1,i0,ls,e1,e0,ej,hxy,EVT,EVM,EVC,xe,EVP,EV,simprocAttr]
      ·simp only;rw [cs,a5];simp [eqs,hxy]
      ·simp only;rw [cs,Ac,a6];simp [eqs,hxy]
      ·simp only;rw [show k+(j+1) - 1=(k+j - 1)+1 by omega,←C0,←C0,a7]
     ·refine ⟨(i+1,j+1,s.set i x),?_,⟨by simp,by simp only;omega,by simp only;omega,by simpa using a4,?_,?_,?_⟩,by simp only;omega⟩
      ·simp (disch:=omega) only [Nx,hjj,i1,i0,ls,e1,e0,ej,si,hxy,EVT,EVM,EVC,xe,EVP,EV,simprocAttr]
      ·simp only;rw [cs,Cl,List.getElem?_set_self (by omega),List.take_set_of_le (by omega),a5];simp [eqs,hxy]
      ·simp only;rw [cs,Ac,a6];simp [eqs,hxy]
      ·simp only;rw [show k+(j+1) - 1=(k+j - 1)+1 by omega,Gy5 (by omega),←C0,←C0,a7]
    ·right;have ek:k+j=l.length:=by omega
     rw [ek,Dq] at a5 a6;have hjj:¬(j:Int)<(s.length:Int) - (k:Int):=by omega
     refine ⟨.yld 2 [.i .i64 (i:Int),Bd s],?_,rfl,s,a4,by rw [a6];exact a5,by rw [a6]⟩;simp (disch:=omega) only [Nx,hjj,EVT,EVM,EVC,xe,EVP,EV,simprocAttr]
  have key:Cw0.ev S (l.length+2) [Bd l]=some (if cpt eqs l=l then .yld 0 [Bd l] else .ret [Bd (cpt eqs l)]):=by
   have:=G7 (fn:=S) (N:=l.length+2) (η:=[Bd l]) (id:=1) (init:=[(.c (.i .i64 (1))),(.v 0)]) (body:=o9) (α:=Nat)
    (fun k=>[.i .i64 (k:Int),Bd l]) (fun o=>o=if cpt eqs l=l then .yld 0 [Bd l] else .ret [Bd (cpt eqs l)])
    (fun k=>1≤k∧k≤l.length∧cpt eqs (l.take k)=l.take k) (fun k=>l.length - k) 1 (by simp (disch:=omega) only [EVT,EVM,EVC,xe,EVP,EV,simprocAttr])
    ⟨Af 1,by omega,by cases l with
     |nil=>simp at h2
     |cons x r=>rfl⟩ (by omega) ?_
   ·obtain ⟨o,h3,h4⟩:=this;rw [←h4];exact h3
   ·rintro k ⟨k1,k2,k3⟩;by_cases hk:k<l.length
    ·have g1:l[k]? =some l[k]:=Az hk;have g0:l[k - 1]? =some (l[k - 1]'(by omega)):=Az (by omega);have tk:l.take (k+1)=l.take k++[l[k]]:=by rw [Cl,g1];rfl
     have ne:l.take k≠[]:=by intro h;have:=congrArg List.length h;rw [Ar,Bf] at this;omega
     have gl:(l.take k).getLast ne=l[k - 1]'(by omega):=by rw [Jq];simp only [qk,Ar];congr 1;omega
     have cs:=L9 eqs l[k] (l.take k) ne;rw [←tk,gl,k3] at cs;have hkk:(k:Int)<(l.length:Int):=by omega
     have i1:Ht 1 (Bd l) (.i .i64 (k:Int))=some (.s l[k]):=by rw [L6 _ _ _ (by omega),show ((k:Int)).toNat=k by omega,g1];rfl
     have i0:Ht 1 (Bd l) (.i .i64 ((k:Int) - 1))=some (.s (l[k - 1]'(by omega))):=by rw [L6 _ _ _ (by omega),show ((k:Int) - 1).toNat=k - 1 by omega,g0];rfl
     by_cases hxy:l[k]=l[k - 1]'(by omega)
     ·right;have cs':cpt eqs (l.take (k+1))=l.take k:=by rw [cs];simp [eqs,hxy]
      obtain ⟨s,s1,s2,s3⟩:=inner k k1 hk cs';have hlt:cpt eqs l≠l:=by
       intro h;have q:(cpt eqs l).length≤(cpt eqs (l.take (k+1))).length+(l.drop (k+1)).length:=by
        have:∀(b a:List (List UInt8)),a≠[]→(cpt eqs (a++b)).length≤(cpt eqs a).length+b.length:=by
         intro b
         induction b with
         |nil=>intro a _;simp
         |cons x r ih=>
          intro a ha;have h1:=ih (a++[x]) (by simp);rw [L9 _ _ _ ha] at h1;rw [show a++x::r=a++[x]++r by simp];refine C4 h1 ?_;rw [Ac];split<;>simp<;>omega
        have h3:=this (l.drop (k+1)) (l.take (k+1)) (by intro h;have:=congrArg List.length h;rw [Ar,Bf] at this;omega);rwa [Bs] at h3
       rw [h,cs',Ar,B3] at q;omega
      have hlen:=Yy eqs l;refine ⟨.ret [Bd (cpt eqs l)],?_,rfl,by rw [if_neg hlt]⟩;generalize cpt eqs l=fl at*;have ls:Ix 1 (Bd l) (.i .i64 (k:Int)) (.i .i64 (l.length:Int))=some (Bd (l.drop k)):=by rw [L2 _ _ _ _ _ (by omega) (by omega) (by omega)];simp
      have hsl1:Ix 1 (Bd s) (.i .i64 ((fl.length:Nat):Int)) (.i .i64 (s.length:Int))=some (Bd (s.drop fl.length)):=by rw [L2 _ _ _ _ _ (by omega) (by omega) (by omega)];simp
      have hsl2:Ix 1 (Bd s) (.i .i64 0) (.i .i64 ((fl.length:Nat):Int))=some (Bd fl):=by rw [L2 _ _ _ _ _ (by omega) (by omega) (by omega)];simp [s2]
      have hrep:K9 1 (.i .i64 ((s.length:Int) - (fl.length:Int))) (.s [])=some (Bd (List.replicate (s.length - fl.length) [])):=by rw [vm _ (by omega) (by omega)];congr 3;omega
      have happ:Ic 1 (Bd fl) (Bd (List.replicate (s.length - fl.length) []))=some (Bd (fl++List.replicate (s.length - fl.length) [])):=Az4 _ _ (by simp;omega);have hsl3:Ix 1 (Bd (fl++List.replicate (s.length - fl.length) [])) (.i .i64 0) (.i .i64 ((fl.length:Nat):Int))=some (Bd fl):=by rw [L2 _ _ _ _ _ (by omega) (by omega) (by simp;omega)];simp
      simp (disch:=omega) only [Nx,hkk,i1,i0,hxy,ls,s3,hsl1,hsl2,hrep,happ,hsl3,EVT,EVM,EVC,xe,EVP,EV,simprocAttr]
     ·left;refine ⟨k+1,?_,⟨by omega,by omega,?_⟩,by omega⟩
      ·simp (disch:=omega) only [Nx,hkk,i1,i0,hxy,EVT,EVM,EVC,xe,EVP,EV,simprocAttr]
      ·rw [cs,tk];simp [eqs,hxy]
    ·right;have e:k=l.length:=by omega
     subst e;rw [Dq] at k3;refine ⟨_,?_,?_,rfl⟩
     ·rw [if_pos k3];simp (disch:=omega) only [Nx,EVT,EVM,EVC,xe,EVP,EV,simprocAttr]
     ·rw [if_pos k3];rfl
  by_cases h:cpt eqs l=l
  ·rw [if_pos h] at key;rw [h];simp (disch:=omega) only [Nx,h2,key,EVT,EVM,EVC,xe,EVP,EV,simprocAttr]
  ·rw [if_neg h] at key;simp (disch:=omega) only [Nx,h2,key,EVT,EVM,EVC,xe,EVP,EV,simprocAttr]
end Go.X.G
/- Types of records: the program's table. -/
namespace Go.X.G
open Go Go.X
structure Kd where
 num:Int
 mne:List UInt8
 fls:List UInt8
def Kd.pv (k:Kd):PV:= .a [.i .i64 k.num, .s k.mne, .s k.fls]
def lf (l:List Kd):PV:= .l 3 (l.map Kd.pv)
def kds:List Kd:=[⟨1,[65],[52]⟩,⟨2,[78,83],[104]⟩,⟨5,[67,78,65,77,69],[104]⟩,⟨6,[83,79,65],[104,109,118,119,120,121,122]⟩,⟨12,[80,84,82],[104]⟩,⟨15,[77,88],[65,104]⟩,⟨16,[84,88,84],[116]⟩,⟨28,[65,65,65,65],[54]⟩,⟨33,[83,82,86],[65,66,67,104]⟩,⟨39,[68,78,65,77,69],[104]⟩,⟨43,[68,83],[65,98,99,114]⟩,⟨46,[82,82,83,73,71],[65,115,98,120,121,122,70,104,114]⟩,⟨47,[78,83,69,67],[104,110]⟩,⟨48,[68,78,83,75,69,89],[65,98,99,114]⟩]
theorem W9 (k:Kd):Bn 0 k.pv=some (.i .i64 k.num):=rfl
theorem W8 (k:Kd):Bn 1 k.pv=some (.s k.mne):=rfl
theorem Cp (k:Kd):Bn 2 k.pv=some (.s k.fls):=rfl
theorem Bx4 (k:Kd):Jp 0 3 k.pv=some k.pv:=rfl
theorem P4 (k:Kd):S2 3 k.pv=some k.pv:=rfl
theorem Pw (l:List Kd):F2 (lf l)=some (.i .i64 (l.length:Int)):=by simp [lf,F2]
theorem lg (l:List Kd) (k:IntKind) (z:Int) (h:0≤z):Ht 3 (lf l) (.i k z)=(l[z.toNat]?).map Kd.pv:=by simp [lf,X3 _ _ _ _ h]
theorem wt:S U4 0 []=some [lf kds]:=Hn2 (N:=1) rfl (by kernel_rfl)
theorem Ss (k:Kd):PV.flat k.pv=true:=rfl
theorem w7 (t:Int):S U9 1 [.i .i64 t]=some (match kds.find? (fun k=>decide (k.num=t)) with|some k=>[k.pv, .b true]|none=>[Kd.pv ⟨0,[],[]⟩, .b false]):=by
 refine Hp9 (N:=20) rfl ?_;have key:∀l:List Kd,l.length≤15→Cv3.ev S 20 [.i .i64 t,lf l]=some (match l.find? (fun k=>decide (k.num=t)) with|some k=> .ret [k.pv, .b true]|none=> .yld 0 [.i .i64 0, .s [], .s []]):=by
  intro l hl;refine Ew l (fun i=>[.i .i64 (i:Int), .i .i64 0, .s [], .s []]) (fun i r=>match r.find? (fun k=>decide (k.num=t)) with|some k=> .ret [k.pv, .b true]|none=> .yld 0 [.i .i64 0, .s [], .s []]) rfl (by omega) (fun i c r hd hi hc=> ?_) ?_
  ·by_cases h:c.num=t
   ·right;simp (disch:=omega) only [Zl,hc,h,W9,W8,Cp,Bx4,P4,Pw,lg,xe,EVP,EV,simprocAttr];simp [h,Out.goes]
   ·left;simp (disch:=omega) only [Zl,hc,h,W9,W8,Cp,Bx4,P4,Pw,lg,xe,EVP,EV,simprocAttr];simp [h]
  ·simp (disch:=omega) only [Zl,W9,W8,Cp,Bx4,P4,Pw,lg,xe,EVP,EV,simprocAttr];simp [Out.goes]
 have hk:=key kds (by decide);have hkd:=wt;cases h:kds.find? (fun k=>decide (k.num=t)) with
 |some k=>
  rw [h] at hk;simp (disch:=omega) only [Zl,hkd,hk,Pw,xe,EVP,EV,simprocAttr]
 |none=>
  rw [h] at hk;simp (disch:=omega) only [Zl,hkd,hk,Pw,xe,EVP,EV,simprocAttr];rfl
theorem xz (t:Int):(kds.find? (fun k=>decide (k.num=t))).isSome=knw t:=by
 rw [C2,List.find?_isSome];simp [kds,knw]
 grind
theorem Cg (t:Int):S Pt 1 [.i .i64 t]=some [.b (knw t)]:=by
 refine Ht0 (N:=1) rfl ?_;have h:=w7 t;have h2:=xz t;cases hk:kds.find? (fun k=>decide (k.num=t)) with
 |some k=>
  rw [hk] at h h2;simp only [Option.isSome_some] at h2;simp (disch:=omega) only [En8,h,Ss,P4,xe,EVP,EV,simprocAttr];rw [←h2]
 |none=>
  rw [hk] at h h2;simp only [Wv] at h2;simp (disch:=omega) only [En8,h,Ss,P4,xe,EVP,EV,simprocAttr];rw [←h2]
end Go.X.G
/- Types of names, as sets of bits. -/
namespace Go.X
open Go
def Hp (l:List Int):PV:= .l 1 (l.map fun t=> .i .i64 t)
theorem Wp:PV.l 1 []=Hp []:=rfl
theorem j9 (t:Int):PV.l 1 [.i .i64 t]=Hp [t]:=rfl
theorem kf (t:Int):Jj 1 [.i .i64 t]=some (Hp [t]):=rfl
theorem Xp (l:List Int):F2 (Hp l)=some (.i .i64 (l.length:Int)):=by simp [Hp,F2]
theorem X2 (l:List Int) (k:IntKind) (z:Int) (h:0≤z):Ht 1 (Hp l) (.i k z)=(l[z.toNat]?).map fun t=> .i .i64 t:=by simp [Hp,X3 _ _ _ _ h]
theorem Td (l:List Int) (x:Int) (h:l.length+1≤1073741824):Ic 1 (Hp l) (Hp [x])=some (Hp (l++[x])):=by have:=Tf 1 (l.map fun t=> .i .i64 t) [.i .i64 x] (by simpa using h);simpa [Hp] using this
end Go.X
namespace Go.X.G
open Go Go.X
def shO (t:Int):Int:=IntKind.u64.wrap (1*2 ^ (min t.toNat IntKind.u64.bits))
def bitO (g t:Int):Int:=IntKind.u64.wrap ((BitVec.ofInt IntKind.u64.bits g|||BitVec.ofInt IntKind.u64.bits (shO t)).toNat:Int)
theorem Jt3 (t:Int) (h:0≤t):X.bin .shl (.i .u64 1) (.i .i64 t)=some (.i .u64 (shO t)):=by rw [Dd2,if_neg (by omega)];rfl
theorem orO (g t:Int):X.bin .or (.i .u64 g) (.i .u64 (shO t))=some (.i .u64 (bitO g t)):=by rw [Gw3];rfl
theorem Gm6 {t:Int} (h:knw t=true):0≤t∧t≤255:=by rcases knw_cases h with rfl|rfl|rfl|rfl|rfl|rfl|rfl|rfl|rfl|rfl|rfl|rfl|rfl|rfl<;>decide
theorem Dh2 (l:List Int) (hk:∀t∈l,knw t=true) (hl:l.length≤1000000):S Al7 1 [Hp l]=some [.i .u64 (l.foldl bitO 0), .b true]:=by
 refine Jq9 (N:=l.length+1) rfl ?_;have key:Et1.ev S (l.length+1) [Hp l]=some (.yld 0 [.i .u64 (l.foldl bitO 0)]):=by
  refine Fy (N:=l.length+1) l (fun i (g:Int)=>[.i .u64 g, .i .i64 (i:Int)]) (fun i g r=> .yld 0 [.i .u64 (r.foldl bitO g)]) (fun _ _=>True) 0 rfl trivial (Nat.lt_succ_self _) (fun i g c r hd hi hc _=> ?_) (fun g _=> ?_)
  ·left;have hil:(i:Int)<(l.length:Int):=by omega
   have hc1:=hk c (A9 hc);have k:=Cg c;rw [hc1] at k;refine ⟨bitO g c,?_,trivial,rfl⟩;have e1:=Jt3 c (Gm6 hc1).1;have e2:=orO g c;generalize shO c=sc at*;generalize bitO g c=bc at*;simp (disch:=omega) only [Gy8,hc,hil,k,e1,e2,X2,Xp,xe,EVP,EV,simprocAttr]
  ·simp (disch:=omega) only [Gy8,Int.lt_irrefl,X2,Xp,xe,EVP,EV,simprocAttr];simp [Out.goes]
 simp (disch:=omega) only [Gy8,key,X2,Xp,xe,EVP,EV,simprocAttr]
def typesR (l:List Rec) (n:List UInt8):List Int:=(l.filter fun r=>decide (r.name=n) && knw r.typ).map Rec.typ
theorem Ac2 (l:List Rec) (n:List UInt8):∀t∈typesR l n,knw t=true:=fun t ht=>by simp only [typesR,Ds,B0,Aw] at ht;obtain ⟨r,hr,rfl⟩:=ht;exact hr.2.2
theorem Dh1 (l:List Rec) (n:List UInt8) (hl:l.length≤1000000):S Bp8 2 [Al l, .s n]=some [.i .u64 ((typesR l n).foldl bitO 0)]:=by
 refine Jx5 (N:=l.length+1) rfl ?_;have hs:=Dh2 (typesR l n) (Ac2 l n) (by have:=Hg (fun r:Rec=>decide (r.name=n) && knw r.typ) l;simp only [typesR,E9];omega);have key:Et9.ev S (l.length+1) [Al l, .s n]=some (.yld 0 [Hp ([]++typesR l n)]):=by
  refine Fy (N:=l.length+1) l (fun i (g:List Int)=>[Hp g, .i .i64 (i:Int)]) (fun i g r=> .yld 0 [Hp (g++typesR r n)]) (fun i g=>g.length≤i) [] rfl (Cc _) (Nat.lt_succ_self _) (fun i g c r hd hi hc hI=> ?_) (fun g hI=> ?_)
  ·left;have hil:(i:Int)<(l.length:Int):=by omega
   have k:=Cg c.typ;by_cases h1:c.name=n
   ·rcases Ak (knw c.typ) with h2|h2
    ·rw [h2] at k;refine ⟨g++[c.typ],?_,by simp;omega,by simp [typesR,h1,h2]⟩;simp (disch:=omega) only [Bq4,hc,hil,h1,k,Wp,j9,kf,Td,xe,EVP,EV,simprocAttr]
    ·rw [h2] at k;refine ⟨g,?_,by omega,by simp [typesR,h2]⟩;simp (disch:=omega) only [Bq4,hc,hil,h1,k,Wp,j9,kf,Td,xe,EVP,EV,simprocAttr]
   ·refine ⟨g,?_,by omega,by simp [typesR,h1]⟩;simp (disch:=omega) only [Bq4,hc,hil,h1,Wp,j9,kf,Td,xe,EVP,EV,simprocAttr]
  ·simp (disch:=omega) only [Bq4,Int.lt_irrefl,xe,EVP,EV,simprocAttr];simp [Out.goes,typesR]
 rw [Cb] at key;generalize (typesR l n).foldl bitO 0=v at*;simp (disch:=omega) only [Bq4,hs,key,xe,EVP,EV,simprocAttr]
end Go.X.G
/- The order of records; what a checked zone is like. -/
namespace Go.X.G
open Go Go.X
theorem TO.prod {α β:Type} {l1:α→α→Prop} {l2:β→β→Prop} (h1:TO l1) (h2:TO l2):TO (fun p q:α×β=>l1 p.1 q.1∨(p.1=q.1∧l2 p.2 q.2)) where
 irr:=fun p h=>by
  rcases h with h|⟨_,h⟩
  ·exact h1.irr _ h
  ·exact h2.irr _ h
 tr:=fun p q r a b=>by
  rcases a with a|⟨a,a'⟩<;>rcases b with b|⟨b,b'⟩
  ·exact .inl (h1.tr _ _ _ a b)
  ·exact .inl (b▸a)
  ·exact .inl (a▸b)
  ·exact .inr ⟨a.trans b,h2.tr _ _ _ a' b'⟩
 tri:=fun p q=>by
  rcases h1.tri p.1 q.1 with a|a|a
  ·exact .inl (.inl a)
  ·rcases h2.tri p.2 q.2 with b|b|b
   ·exact .inl (.inr ⟨a,b⟩)
   ·exact .inr (.inl (Prod.ext a b))
   ·exact .inr (.inr (.inr ⟨a.symm,b⟩))
  ·exact .inr (.inr (.inl a))
theorem Hg0:TO (fun a b:Int=>a<b):=⟨fun a h=>by omega,fun a b c h1 h2=>by omega,fun a b=>by omega⟩
theorem Yc (a b:Int):yw a b<0↔a<b:=by unfold yw;split<;>(try split)<;>omega
theorem H6 (a b:Int):yw a b=0↔a=b:=by unfold yw;split<;>(try split)<;>omega
abbrev Key:=List UInt8×Int×List UInt8
abbrev ltK:Key→Key→Prop:=fun p q=>ltN p.1 q.1∨(p.1=q.1∧(p.2.1<q.2.1∨(p.2.1=q.2.1∧ltB p.2.2 q.2.2)))
theorem to_K:TO ltK:=to_N.prod (Hg0.prod Dl7)
def Dl8 (r:Rec):Key:=(r.name,r.typ,J4 r.typ r.data)
abbrev ltR (a b:Rec):Prop:=ltK (Dl8 a) (Dl8 b)
theorem Nz {r:Rec} (h:Om r=true):Ej r.typ r.data=true:=by unfold Om at h;simp only [Aw] at h;exact h.2
theorem Z0 {r:Rec} (h:Om r=true):vld r.name=true:=by unfold Om at h;simp only [Aw] at h;exact h.1.1.1.1
theorem Fk3 {t:Int} {a b:Dat} (ha:Ej t a=true) (hb:Ej t b=true):Eh2 t a b=cmpS (J4 t a) (J4 t b):=by unfold Eh2;rw [ha,hb];rfl
theorem yx {a b:Rec} (ha:Om a=true) (hb:Om b=true):Ts a b<0↔ltR a b:=by
 unfold Ts ltR ltK Dl8;simp only;by_cases h1:Hf a.name b.name=0
 ·rw [if_neg (by simp [h1])];have e1:=H5.1 h1;have n1:¬ltN a.name b.name:=by rw [e1];exact to_N.irr _
  by_cases h2:yw a.typ b.typ=0
  ·rw [if_neg (by simp [h2])];have e2:=(H6 _ _).1 h2;have ha':=Nz ha;have hb':=Nz hb;rw [e2] at ha' ⊢;rw [Fk3 ha' hb',Q7];constructor
   ·intro h;exact .inr ⟨e1, .inr ⟨rfl,h⟩⟩
   ·rintro (h|⟨_,h|⟨_,h⟩⟩)
    ·exact absurd h n1
    ·omega
    ·exact h
  ·rw [if_pos h2,Yc];have e2:a.typ≠b.typ:=fun e=>h2 ((H6 _ _).2 e);constructor
   ·intro h;exact .inr ⟨e1, .inl h⟩
   ·rintro (h|⟨_,h|⟨h,_⟩⟩)
    ·exact absurd h n1
    ·exact h
    ·exact absurd h e2
 ·rw [if_pos h1,En];have e1:a.name≠b.name:=fun e=>h1 (H5.2 e);constructor
  ·intro h;exact .inl h
  ·rintro (h|⟨h,_⟩)
   ·exact h
   ·exact absurd h e1
theorem gk {a b:Rec} (ha:Om a=true) (hb:Om b=true):Ts a b=0↔Dl8 a=Dl8 b:=by
 unfold Ts Dl8;by_cases h1:Hf a.name b.name=0
 ·rw [if_neg (by simp [h1])];have e1:=H5.1 h1;by_cases h2:yw a.typ b.typ=0
  ·rw [if_neg (by simp [h2])];have e2:=(H6 _ _).1 h2;have ha':=Nz ha;have hb':=Nz hb;rw [e2] at ha' ⊢;rw [Fk3 ha' hb',H4];simp [e1]
  ·rw [if_pos h2];have e2:a.typ≠b.typ:=fun e=>h2 ((H6 _ _).2 e);constructor
   ·intro h;exact absurd h h2
   ·intro h;injection h with _ h;injection h with h _;exact absurd h e2
 ·rw [if_pos h1];have e1:a.name≠b.name:=fun e=>h1 (H5.2 e);constructor
  ·intro h;exact absurd h h1
  ·intro h;injection h with h _;exact absurd h e1
theorem Sg {x:Rec} (hx:Om x=true):∀(l:List Rec),(∀r∈l,Om r=true)→l.Pairwise ltR→(ij x l).Pairwise ltR
 |[],_,_=>by simp [ij]
 |y::r,hv,h=>by
  obtain ⟨h1,h2⟩:=A0.1 h;have hy:=hv y (.head _);have ih:=Sg hx r (fun w hw=>hv w (.tail _ hw)) h2;simp only [ij];by_cases c:Ts y x<0
  ·rw [if_pos c];refine A0.2 ⟨fun w hw=> ?_,ih⟩;rcases insR_mem x r w hw with rfl|hw
   ·exact (yx hy hx).1 c
   ·exact h1 w hw
  ·rw [if_neg c];by_cases e:Ts y x=0
   ·rw [if_pos e];split
    ·have ke:=(gk hy hx).1 e;refine A0.2 ⟨fun w hw=> ?_,h2⟩;have:=h1 w hw;show ltK (Dl8 x) (Dl8 w);rw [←ke];exact this
    ·exact h
   ·rw [if_neg e];have hxy:ltR x y:=by
     rcases to_K.tri (Dl8 x) (Dl8 y) with q|q|q
     ·exact q
     ·exact absurd ((gk hy hx).2 q.symm) e
     ·exact absurd ((yx hy hx).2 q) c
    refine A0.2 ⟨fun w hw=> ?_,h⟩;rcases Am.1 hw with rfl|hw
    ·exact hxy
    ·exact to_K.tr _ _ _ hxy (h1 w hw)
theorem Pl (l:List Rec) (hv:∀r∈l,Om r=true):(sortR l).Pairwise ltR∧∀r∈sortR l,r∈l:=by
 have:∀(l a:List Rec),(∀r∈l,Om r=true)→(∀r∈a,Om r=true)→a.Pairwise ltR→(l.foldl (fun acc x=>ij x acc) a).Pairwise ltR∧∀r∈l.foldl (fun acc x=>ij x acc) a,r∈a∨r∈l:=by
  intro l
  induction l with
  |nil=>intro a _ _ h;exact ⟨h,fun r hr=> .inl hr⟩
  |cons x r ih=>
   intro a h1 h2 h3;have hx:=h1 x (.head _);obtain ⟨g1,g2⟩:=ih (ij x a) (fun w hw=>h1 w (.tail _ hw)) (fun w hw=>by
    rcases insR_mem x a w hw with rfl|hw
    ·exact hx
    ·exact h2 w hw) (Sg hx a h2 h3)
   refine ⟨g1,fun w hw=> ?_⟩;rcases g2 w hw with hw|hw
   ·rcases insR_mem x a w hw with rfl|hw
    ·exact .inr (.head _)
    ·exact .inl hw
   ·exact .inr (.tail _ hw)
 obtain ⟨h1,h2⟩:=this l [] hv (fun r hr=>by cases hr) .nil;exact ⟨h1,fun r hr=>(h2 r hr).resolve_left (by simp)⟩
structure ZOk (z:Zone):Prop where
 origin:vld z.origin=true
 small:z.recs.length≤2048
 valid:∀r∈z.recs,Om r=true
 rising:z.recs.Pairwise ltR
 soa:(findR z.recs z.origin 6).length=1
 ns:fk z.recs z.origin 2=true
 recs:∀r∈z.recs,R3 z r=true
theorem Cb4 {z:Zone} (h:P7 z=0):ZOk z:=by
 unfold P7 at h;split at h
 ·cases h
 ·rename_i h1;split at h
  ·cases h
  ·rename_i h2;split at h
   ·cases h
   ·split at h
    ·cases h
    ·rename_i h4;split at h
     ·cases h
     ·rename_i h5;split at h
      ·cases h
      ·rename_i h6;split at h
       ·cases h
       ·rename_i h7;simp only [Ff,Bz] at h1 h4 h7;simp only [not_or,ne_eq,Jx,Ff] at h5 h6;refine ⟨h1,by omega,h4,?_,h6.1,h6.2,h7⟩;rw [h5];exact (Pl z.recs h4).1
theorem ZOk.beside {z:Zone} (h:ZOk z) {r x:Rec} (hr:r∈z.recs) (hx:x∈z.recs):Ob r x=true:=by have:=h.recs r hr;unfold R3 at this;simp only [Aw] at this;have h2:=this.1.2;unfold Yp at h2;exact Bz.1 h2 x hx
theorem ZOk.under {z:Zone} (h:ZOk z) {r:Rec} (hr:r∈z.recs):under r.name z.origin=true:=by have:=h.recs r hr;unfold R3 at this;simp only [Aw] at this;exact this.1.1.1
theorem ZOk.single {z:Zone} (h:ZOk z) (n:List UInt8) (t:Int) (ht:t=6∨t=5∨t=39):(findR z.recs n t).length≤1:=by
 have hp:(findR z.recs n t).Pairwise ltR:=h.rising.filter _;have hm:∀x∈findR z.recs n t,x∈z.recs∧x.name=n∧x.typ=t:=fun x hx=>by obtain ⟨h1,h2⟩:=B0.1 hx;simp only [isK,Aw,decide_eq_true_eq] at h2;exact ⟨h1,h2.1,h2.2⟩
 generalize findR z.recs n t=l at*
 match l,hp,hm with
 |[],_,_=>simp
 |[_],_,_=>simp
 |a::b::r,hp,hm=>
  exfalso;have hab:ltR a b:=(A0.1 hp).1 b (.head _);obtain ⟨a1,a2,a3⟩:=hm a (.head _);obtain ⟨b1,b2,b3⟩:=hm b (.tail _ (.head _));have hb:=h.beside a1 b1;have e:b=a:=by
   unfold Ob at hb;rw [a2,a3,b2,b3] at hb;have ht':(decide (t=6)||decide (t=5)||decide (t=39))=true:=by rcases ht with h|h|h<;>simp [h]
   rw [ht'] at hb;simp only [decide_true,Kg,Iw,Oh,Bool.true_and,Aw,A7,decide_eq_false_iff_not,ne_eq,Jx] at hb;exact hb.1.2
  rw [e] at hab;exact to_K.irr _ hab
end Go.X.G
/- Names on the way up; delegations above a name. -/
namespace Go.X.G
open Go Go.X
def upN (o n:List UInt8):List (List UInt8):=(List.range ((lbl n).length - (lbl o).length+1)).map fun k=>jn ((lbl n).drop k)
theorem Wn {o n x:List UInt8} (h:under n o=true):x∈upN o n↔under n x=true∧under x o=true:=by
 obtain ⟨hn,ho,hs⟩:=Dp.1 h;have hle:=hs.length_le;rw [List.suffix_iff_eq_drop] at hs;unfold upN;rw [Ds];constructor
 ·rintro ⟨k,hk,rfl⟩;rw [E3] at hk;obtain ⟨v1,v2⟩:=Hd hn k;refine ⟨Dp.2 ⟨hn,v1,by rw [v2];exact List.drop_suffix _ _⟩,Dp.2 ⟨v1,ho,?_⟩⟩;rw [v2,hs];have:(lbl n).length - (lbl o).length=k+((lbl n).length - (lbl o).length - k):=by omega
  rw [this,←C0];exact List.drop_suffix _ _
 ·rintro ⟨h1,h2⟩;obtain ⟨_,hx,h3⟩:=Dp.1 h1;obtain ⟨_,_,h4⟩:=Dp.1 h2;have l1:=h3.length_le;have l2:=h4.length_le;rw [List.suffix_iff_eq_drop] at h3;refine ⟨(lbl n).length - (lbl x).length,?_,?_⟩
  ·rw [E3];omega
  ·rw [←h3];exact (Uv hx).symm
theorem i8 (o n:List UInt8):(upN o n).length≤256:=by have:=G8 n;simp [upN];omega
theorem Bw2 {o n:List UInt8} {k:Nat} (hk:k≤(lbl n).length - (lbl o).length):(upN o n)[k]? =some (jn ((lbl n).drop k)):=by unfold upN;rw [Bh,B8 (by omega)];rfl
theorem Gm7 {n:List UInt8} (h:vld n=true):jn ((lbl n).drop 0)=n:=by rw [D3];exact (Uv h).symm
theorem Ep0 {o n:List UInt8} (h:under n o=true) {k:Nat} (hk:k≤(lbl n).length - (lbl o).length):jn ((lbl n).drop k)=o↔k=(lbl n).length - (lbl o).length:=by
 obtain ⟨hn,ho,hs⟩:=Dp.1 h;have hle:=hs.length_le;rw [List.suffix_iff_eq_drop] at hs;obtain ⟨v1,v2⟩:=Hd hn k;constructor
 ·intro e;have:=congrArg (fun x=>(lbl x).length) e;simp only [v2,B3] at this;omega
 ·rintro rfl;rw [←hs];exact (Uv ho).symm
theorem Hf7 {o n:List UInt8} (h:under n o=true) {k:Nat} (hk:k<(lbl n).length - (lbl o).length):O8 (jn ((lbl n).drop k))=jn ((lbl n).drop (k+1))∧xq (jn ((lbl n).drop k))=true:=by
 obtain ⟨hn,ho,hs⟩:=Dp.1 h;obtain ⟨v1,v2⟩:=Hd hn k;have hne:jn ((lbl n).drop k)≠[46]:=by intro e;have:=(kr v1).2 e;rw [v2] at this;have:=congrArg List.length this;simp at this;omega
 unfold O8 xq;rw [if_pos ⟨v1,hne⟩,v2,C0];exact ⟨rfl,by simp [v1,hne]⟩
def Et (z:Zone) (r:Rec):Bool:=decide (r.typ=2) && Fx r.name z.origin
def lh (z:Zone) (n:List UInt8):Bool:=z.recs.any fun r=>Et z r && decide (r.name≠n) && under n r.name
def Hz6 (z:Zone):List (List UInt8):=(z.recs.filter fun r=>under r.name z.origin && !lh z r.name).flatMap fun r=>upN z.origin r.name
def namesN (z:Zone):List (List UInt8):=setN (Hz6 z)
def Id9 (z:Zone) (x:List UInt8):Prop:=∃r∈z.recs,under r.name z.origin=true∧lh z r.name=false∧under r.name x=true∧under x z.origin=true
theorem El7 (z:Zone) (x:List UInt8):x∈Hz6 z↔Id9 z x:=by
 unfold Hz6 Id9;simp only [List.mem_flatMap,B0,Aw,A7];constructor
 ·rintro ⟨r,⟨hr,h1,h2⟩,h3⟩;obtain ⟨h4,h5⟩:=(Wn h1).1 h3;exact ⟨r,hr,h1,h2,h4,h5⟩
 ·rintro ⟨r,hr,h1,h2,h4,h5⟩;exact ⟨r,⟨hr,h1,h2⟩,(Wn h1).2 ⟨h4,h5⟩⟩
theorem Eb0 (z:Zone) (l:List (List UInt8)) (h:∀x,x∈l↔Id9 z x):setN l=namesN z:=
 Rr to_N _ _ (Mr _) (Mr _) fun x=>by rw [Lr,h,namesN,Lr,El7]
end Go.X.G
/- Zones by the names of their records: groups of a sorted list, in plain words. -/
namespace Go.X.G
open Go Go.X
theorem Cj0 {α:Type} {lt:α→α→Prop}:∀(p q:List α),p<+:q→p≠q→lex lt p q
 |[],[],_,h=>absurd rfl h
 |[],_::_,_,_=>trivial
 |a::p,[],h,_=>by simp at h
 |a::p,b::q,h,hne=>by obtain ⟨rfl,hpq⟩:=Hh.1 h;exact .inr ⟨rfl,Cj0 p q hpq fun e=>hne (by rw [e])⟩
theorem Cj1 {α:Type} {lt:α→α→Prop} (ht:TO lt):∀(p q x:List α),p<+:q→¬lex lt x p→¬lex lt q x→p<+:x
 |[],_,_,_,_,_=>List.nil_prefix
 |a::p,[],_,h,_,_=>by simp at h
 |a::p,b::q,[],_,h,_=>absurd trivial h
 |a::p,b::q,c::x,h,h1,h2=>by
  obtain ⟨rfl,hpq⟩:=Hh.1 h;simp only [lex,not_or,not_and] at h1 h2;have e:a=c:=by
   rcases ht.tri a c with k|k|k
   ·exact absurd k h2.1
   ·exact k
   ·exact absurd k h1.1
  subst e;exact Hh.2 ⟨rfl,Cj1 ht p q x hpq (h1.2 rfl) (h2.2 rfl)⟩
theorem Gl0 {a b:List UInt8} (ha:vld a=true) (hb:vld b=true):ltN a b↔ltL (lbl a).reverse (lbl b).reverse:=by unfold ltN;rw [if_pos ha,if_pos hb]
theorem Z1 {n top:List UInt8} (h:under n top=true):(lbl top).reverse<+:(lbl n).reverse:=Gy3.2 (Dp.1 h).2.2
theorem Dp0 {n top:List UInt8} (h:under n top=true) (hne:n≠top):ltN top n:=by obtain ⟨h1,h2,h3⟩:=Dp.1 h;rw [Gl0 h2 h1];refine Cj0 _ _ (Z1 h) fun e=>hne ?_;exact (Xs h2 h1 (List.reverse_inj.1 e)).symm
theorem Bw3 {d x n:List UInt8} (hx:vld x=true) (h:under n d=true) (h1:¬ltN x d) (h2:¬ltN n x):under x d=true:=by obtain ⟨k1,k2,k3⟩:=Dp.1 h;rw [Gl0 hx k2] at h1;rw [Gl0 k1 hx] at h2;exact Dp.2 ⟨hx,k2,Gy3.1 (Cj1 Dl7 _ _ _ (Z1 h) h1 h2)⟩
theorem Bk4 {a b c:List UInt8} (h1:under a b=true) (h2:under b c=true):under a c=true:=by obtain ⟨a1,a2,a3⟩:=Dp.1 h1;obtain ⟨b1,b2,b3⟩:=Dp.1 h2;exact Dp.2 ⟨a1,b2,b3.trans a3⟩
def T6 (p:List Rec):List Rec→List (List Rec)
 |[]=>[]
 |x::r=>if (match r with|[]=>true|y::_=> !decide (y.name=x.name))=true then (p++[x])::T6 [] r else T6 (p++[x]) r
def grp (l:List Rec):List (List Rec):=T6 [] l
def nmG (g:List Rec):List UInt8:=match g with|[]=>[]|x::_=>x.name
theorem fq (n:List UInt8):∀(r p:List Rec) (x:Rec),x.name=n→(∀y∈p,y.name=n)→∃g l',x::r=g++l'∧g≠[]∧(∀y∈g,y.name=n)∧(∀y,l'.head? =some y→y.name≠n)∧T6 p (x::r)=(p++g)::grp l'
 |[],p,x,hx,hp=>⟨[x],[],rfl,by simp,by simpa using hx,by simp,rfl⟩
 |y::r,p,x,hx,hp=>by
  by_cases h:y.name=x.name
  ·obtain ⟨g,l',h1,h2,h3,h4,h5⟩:=fq n r (p++[x]) y (by rw [h,hx]) (fun w hw=>by
    rcases Bt.1 hw with hw|hw
    ·exact hp w hw
    ·have:w=x:=by simpa using hw
     rw [this,hx])
   refine ⟨x::g,l',by rw [h1];rfl,by simp,fun w hw=> ?_,h4,?_⟩
   ·rcases Am.1 hw with rfl|hw
    ·exact hx
    ·exact h3 w hw
   ·rw [T6,if_neg (by simp [h]),h5];simp
  ·refine ⟨[x],y::r,rfl,by simp,by simpa using hx,fun w hw=> ?_,?_⟩
   ·simp at hw;subst hw;rw [←hx];exact h
   ·rw [T6,if_pos (by simp [h])];rfl
theorem Q2 (x:Rec) (r:List Rec):∃g l',x::r=g++l'∧g≠[]∧(∀y∈g,y.name=x.name)∧(∀y,l'.head? =some y→y.name≠x.name)∧grp (x::r)=g::grp l':=by obtain ⟨g,l',h1,h2,h3,h4,h5⟩:=fq x.name r [] x rfl (by simp);exact ⟨g,l',h1,h2,h3,h4,by rw [grp,h5];rfl⟩
theorem Es2 {g:List Rec} {n:List UInt8} (h:g≠[]) (h2:∀y∈g,y.name=n):nmG g=n:=by
 cases g with
 |nil=>exact absurd rfl h
 |cons x r=>exact h2 x (.head _)
abbrev Ht5 (l:List Rec):Prop:=l.Pairwise fun a b=>¬ltN b.name a.name
def F3 (g:List Rec) (t:Int):Bool:=g.any fun r=>decide (r.typ=t)
def I9 (g:List Rec) (ts:List Int):Bool:=g.all fun r=>decide (r.typ∈ts)
def Uw (p:Rec):List Rec→Bool
 |[]=>true
 |x::r=>(!decide (x.typ=p.typ)||(!(decide (x.typ=6)||decide (x.typ=5)||decide (x.typ=39)) && (decide (x.typ=46)||decide (x.ttl=p.ttl)))) && Uw x r
def Dl6 (g:List Rec):Bool:=match g with|[]=>true|x::r=>Uw x r
def propG (o:List UInt8) (g:List Rec) (cut red:Bool):Bool:=
 under (nmG g) o && (decide (F3 g 6=decide (nmG g=o))) && Dl6 g && (!decide (nmG g=o)||F3 g 2) && (!F3 g 5||I9 g [5,46,47]) && !red && (!cut||I9 g [1,28]) &&
  (if (!decide (nmG g=o) && F3 g 2)=true then I9 g [2,43,47,46,1,28] else !F3 g 43) && (!decide ((nmG g)[0]? =some 42)||(!F3 g 2 && !F3 g 39))
def Df (n c:List UInt8):List UInt8:=if c≠[]∧under n c=false then [] else c
def mr (o:List UInt8):List (List Rec)→List UInt8→List UInt8→Bool→Bool
 |[],_,_,soa=>soa
 |g::gs,cut,red,soa=>
  if propG o g (decide (Df (nmG g) cut≠[])) (decide (Df (nmG g) red≠[]))=true then
   mr o gs (if Df (nmG g) cut=[]∧nmG g≠o∧F3 g 2=true then nmG g else Df (nmG g) cut) (if F3 g 39=true then nmG g else Df (nmG g) red) (soa||decide (nmG g=o))
  else false
def Gf1 (z:Zone) (n:List UInt8):Bool:=z.recs.any fun r=>decide (r.typ=39) && Fx n r.name
def bq (z:Zone) (g:List Rec):Bool:=propG z.origin g (lh z (nmG g)) (Gf1 z (nmG g))
theorem ic {n:List UInt8} (h:vld n=true):n≠[]:=fun e=>by
 subst e;have:vld []=false:=by decide
 rw [this] at h;cases h
structure GInv (z:Zone) (done l:List Rec) (cut red:List UInt8):Prop where
 cut1:cut≠[]→∃r∈done,Et z r=true∧r.name=cut
 cut2:∀m∈l,∀r∈done,Et z r=true→under m.name r.name=true→cut≠[]∧under m.name cut=true
 red1:red≠[]→∃r∈done,r.typ=39∧r.name=red
 red2:∀m∈l,∀r∈done,r.typ=39→under m.name r.name=true→red≠[]∧under m.name red=true
theorem jt {o:List UInt8} {g:List Rec} {c r:Bool} (h:propG o g c r=true):under (nmG g) o=true∧r=false:=by unfold propG at h;simp only [Aw,A7] at h;exact ⟨h.1.1.1.1.1.1.1.1,h.1.1.1.2⟩
theorem yz (z:Zone) (hv:∀r∈z.recs,vld r.name=true) (hs:Ht5 z.recs):∀(n:Nat) (done l:List Rec) (cut red:List UInt8) (soa:Bool),l.length≤n→z.recs=done++l→(∀a∈done,∀b∈l,ltN a.name b.name)→GInv z done l cut red→
  (mr z.origin (grp l) cut red soa=true↔(∀g∈grp l,bq z g=true)∧(soa=true∨∃r∈l,r.name=z.origin))
 |n,done,[],cut,red,soa,_,_,_,_=>by simp [grp,T6,mr]
 |0,done,x::r,cut,red,soa,hn,_,_,_=>by simp at hn
 |n+1,done,x::r,cut,red,soa,hn,hz,hlt,hI=>by
  obtain ⟨g,l',h1,h2,h3,h4,h5⟩:=Q2 x r;have hnm:nmG g=x.name:=Es2 h2 h3;have hmem:∀y∈g,y∈x::r:=fun y hy=>by rw [h1];exact Cq _ hy
  have hmem':∀y∈l',y∈x::r:=fun y hy=>by rw [h1];exact Bm _ hy
  have hzx:∀y∈x::r,y∈z.recs:=fun y hy=>by rw [hz];exact Bm _ hy
  have hvx:vld x.name=true:=hv x (hzx x (.head _));have hgl:∀b∈l',ltN x.name b.name:=by
   have hs2:Ht5 (g++l'):=by rw [←h1];have:=hs;rw [hz] at this;exact (E2.1 this).2.1
   have hs3:=E2.1 hs2;cases l' with
   |nil=>intro b hb;cases hb
   |cons y l''=>
    have hy:ltN x.name y.name:=by
     obtain ⟨w,hw⟩:=Fz g h2;have k:=hs3.2.2 w hw y (.head _);rw [h3 w hw] at k;rcases to_N.tri x.name y.name with q|q|q
     ·exact q
     ·exact absurd q.symm (h4 y rfl)
     ·exact absurd q k
    intro b hb;rcases Am.1 hb with rfl|hb
    ·exact hy
    ·have k:=(A0.1 hs3.2.1).1 b hb;rcases to_N.tri y.name b.name with q|q|q
     ·exact to_N.tr _ _ _ hy q
     ·rw [←q];exact hy
     ·exact absurd q k
  have habove:∀w∈z.recs,under x.name w.name=true→x.name≠w.name→w∈done:=fun w hw hu hne=>by
   rw [hz] at hw;rcases Bt.1 hw with hw|hw
   ·exact hw
   ·exfalso;have k:=Dp0 hu hne;rw [h1] at hw;rcases Bt.1 hw with hw|hw
    ·exact hne (h3 w hw).symm
    ·exact to_N.asym k (hgl w hw)
  have hcut:decide (Df x.name cut≠[])=lh z x.name:=by
   rw [C2,decide_eq_true_eq];unfold lh Df;rw [Cd];constructor
   ·intro k;have c0:cut≠[]:=fun e=>by rw [e] at k;simp at k
    have c1:under x.name cut=true:=by
     rcases Ak (under x.name cut) with q|q
     ·exact q
     ·rw [if_pos ⟨c0,q⟩] at k;exact absurd rfl k
    obtain ⟨w,w1,w2,w3⟩:=hI.cut1 c0;refine ⟨w,by rw [hz];exact Cq _ w1,?_⟩;have:w.name≠x.name:=fun e=>to_N.irr _ (by have:=hlt w w1 x (.head _);rw [e] at this;exact this);rw [w2,w3];rw [w3] at this;simp [this,c1]
   ·rintro ⟨w,w1,w2⟩;simp only [Aw,decide_eq_true_eq] at w2;have wd:=habove w w1 w2.2 (fun e=>w2.1.2 e.symm);obtain ⟨c0,c1⟩:=hI.cut2 x (.head _) w wd w2.1.1 w2.2;rw [if_neg (by simp [c1])];exact c0
  have hred:decide (Df x.name red≠[])=Gf1 z x.name:=by
   rw [C2,decide_eq_true_eq];unfold Gf1 Df Fx;rw [Cd];constructor
   ·intro k;have c0:red≠[]:=fun e=>by rw [e] at k;simp at k
    have c1:under x.name red=true:=by
     rcases Ak (under x.name red) with q|q
     ·exact q
     ·rw [if_pos ⟨c0,q⟩] at k;exact absurd rfl k
    obtain ⟨w,w1,w2,w3⟩:=hI.red1 c0;refine ⟨w,by rw [hz];exact Cq _ w1,?_⟩;have:x.name≠w.name:=fun e=>to_N.irr _ (by have:=hlt w w1 x (.head _);rw [e] at this;exact this);rw [w3] at this ⊢;simp [this,c1,w2]
   ·rintro ⟨w,w1,w2⟩;simp only [Aw,decide_eq_true_eq] at w2;have wd:=habove w w1 w2.2.2 w2.2.1;obtain ⟨c0,c1⟩:=hI.red2 x (.head _) w wd w2.1 w2.2.2;rw [if_neg (by simp [c1])];exact c0
  have hex:(∃w∈x::r,w.name=z.origin)↔(x.name=z.origin∨∃w∈l',w.name=z.origin):=by
   rw [h1];constructor
   ·rintro ⟨w,w1,w2⟩;rcases Bt.1 w1 with w1|w1
    ·exact .inl (by rw [←h3 w w1];exact w2)
    ·exact .inr ⟨w,w1,w2⟩
   ·rintro (k|⟨w,w1,w2⟩)
    ·obtain ⟨w,hw⟩:=Fz g h2;exact ⟨w,Cq _ hw,by rw [h3 w hw];exact k⟩
    ·exact ⟨w,Bm _ w1,w2⟩
  rw [h5,hex];simp only [mr,hnm,Am,forall_eq_or_imp];have hp0:bq z g=propG z.origin g (lh z x.name) (Gf1 z x.name):=by unfold bq;rw [hnm]
  rw [hp0];rw [hcut,hred];by_cases hp:propG z.origin g (lh z x.name) (Gf1 z x.name)=true
  ·rw [if_pos hp];obtain ⟨pu,pr⟩:=jt hp;rw [hnm] at pu;have hlen:=congrArg List.length h1;have hg0:0<g.length:=Bb.2 h2;simp only [Ac,A3] at hlen hn;have hmid:∀m∈l',∀w∈done,under m.name w.name=true→under x.name w.name=true:=fun m hm w hw hu=>
    Bw3 hvx hu (fun k=>to_N.asym (hlt w hw x (.head _)) k) (fun k=>to_N.asym (hgl m hm) k)
   have hredE:Df x.name red=[]:=by have:=hred;rw [pr] at this;simpa using this
   have ih:=yz z hv hs n (done++g) l' (if Df x.name cut=[]∧x.name≠z.origin∧F3 g 2=true then x.name else Df x.name cut) (if F3 g 39=true then x.name else Df x.name red) (soa||decide (x.name=z.origin)) (by omega) (by rw [hz,h1,As])
    (fun a ha b hb=>by
     rcases Bt.1 ha with ha|ha
     ·exact hlt a ha b (hmem' b hb)
     ·rw [h3 a ha];exact hgl b hb)
    ⟨?_,?_,?_,?_⟩
   ·rw [ih];simp only [Ap,decide_eq_true_eq,hp,true_and];constructor
    ·rintro ⟨k1,(k2|k2)|k2⟩
     ·exact ⟨k1, .inl k2⟩
     ·exact ⟨k1, .inr (.inl k2)⟩
     ·exact ⟨k1, .inr (.inr k2)⟩
    ·rintro ⟨k1,k2|k2|k2⟩
     ·exact ⟨k1, .inl (.inl k2)⟩
     ·exact ⟨k1, .inl (.inr k2)⟩
     ·exact ⟨k1, .inr k2⟩
   ·-- the cut is one
    intro k;by_cases c:Df x.name cut=[]∧x.name≠z.origin∧F3 g 2=true
    ·rw [if_pos c];obtain ⟨w,w1,w2⟩:=Cd.1 c.2.2;simp only [decide_eq_true_eq] at w2;refine ⟨w,Bm _ w1,?_,h3 w w1⟩;unfold Et Fx;rw [h3 w w1];simp [w2,pu,c.2.1]
    ·rw [if_neg c] at k ⊢;have c0:cut≠[]:=fun e=>by rw [e] at k;simp [Df] at k
     have c1:Df x.name cut=cut:=by
      unfold Df at k ⊢;by_cases q:cut≠[]∧under x.name cut=false
      ·rw [if_pos q] at k;exact absurd rfl k
      ·rw [if_neg q]
     rw [c1];obtain ⟨w,w1,w2⟩:=hI.cut1 c0;exact ⟨w,Cq _ w1,w2⟩
   ·intro m hm w hw hc hu;rcases Bt.1 hw with hw|hw
    ·have hxu:=hmid m hm w hw hu;obtain ⟨c0,c1⟩:=hI.cut2 x (.head _) w hw hc hxu;obtain ⟨_,c2⟩:=hI.cut2 m (hmem' m hm) w hw hc hu;have c3:Df x.name cut=cut:=by unfold Df;rw [if_neg (by simp [c1])]
     rw [c3,if_neg (by simp [c0])];exact ⟨c0,c2⟩
    ·rw [h3 w hw] at hu;have hc':=hc;unfold Et Fx at hc';rw [h3 w hw] at hc';simp only [Aw,decide_eq_true_eq] at hc';have hns:F3 g 2=true:=Cd.2 ⟨w,hw,by simp [hc'.1]⟩;by_cases c:Df x.name cut=[]
     ·rw [if_pos ⟨c,hc'.2.1,hns⟩];exact ⟨ic hvx,hu⟩
     ·rw [if_neg (by simp [c])];have q:¬(cut≠[]∧under x.name cut=false):=fun q=>c (by unfold Df;rw [if_pos q]);have c1:Df x.name cut=cut:=by unfold Df;rw [if_neg q]
      rw [c1] at c ⊢;have c2:under x.name cut=true:=by
       rcases Ak (under x.name cut) with k|k
       ·exact k
       ·exact absurd ⟨c,k⟩ q
      exact ⟨c,Bk4 hu c2⟩
   ·intro k;rw [hredE] at k ⊢;by_cases c:F3 g 39=true
    ·rw [if_pos c];obtain ⟨w,w1,w2⟩:=Cd.1 c;simp only [decide_eq_true_eq] at w2;exact ⟨w,Bm _ w1,w2,h3 w w1⟩
    ·rw [if_neg c] at k;exact absurd rfl k
   ·intro m hm w hw hc hu;rcases Bt.1 hw with hw|hw
    ·exfalso;have hxu:=hmid m hm w hw hu;obtain ⟨c0,c1⟩:=hI.red2 x (.head _) w hw hc hxu;have:Df x.name red=red:=by unfold Df;rw [if_neg (by simp [c1])]
     rw [this] at hredE;exact c0 hredE
    ·rw [h3 w hw] at hu;have hd:F3 g 39=true:=Cd.2 ⟨w,hw,by simp [hc]⟩;rw [if_pos hd];exact ⟨ic hvx,hu⟩
  ·rw [if_neg hp];simp [hp]
end Go.X.G
/- Zones by the names of their records: the program's conditions are the reference's. -/
namespace Go.X.G
open Go Go.X
theorem Bz4 {l:List Rec} (h:l.Pairwise ltR):Ht5 l:=h.imp fun {a b} k=>by
 rcases k with k|⟨k,_⟩
 ·exact to_N.asym k
 ·have k':a.name=b.name:=k;rw [k'];exact to_N.irr _
theorem Cx8:∀(n:Nat) (l:List Rec),l.length≤n→Ht5 l→(∀g∈grp l,g≠[]∧g=l.filter fun r=>decide (r.name=nmG g))∧∀r∈l,∃g∈grp l,nmG g=r.name∧r∈g
 |_,[],_,_=>by simp [grp,T6]
 |0,x::r,hn,_=>by simp at hn
 |n+1,x::r,hn,hs=>by
  obtain ⟨g,l',h1,h2,h3,h4,h5⟩:=Q2 x r;have hnm:nmG g=x.name:=Es2 h2 h3;have hs2:Ht5 (g++l'):=by rw [←h1];exact hs
  have hs3:=E2.1 hs2;have hgl:∀b∈l',ltN x.name b.name:=by
   cases l' with
   |nil=>intro b hb;cases hb
   |cons y l''=>
    have hy:ltN x.name y.name:=by
     obtain ⟨w,hw⟩:=Fz g h2;have k:=hs3.2.2 w hw y (.head _);rw [h3 w hw] at k;rcases to_N.tri x.name y.name with q|q|q
     ·exact q
     ·exact absurd q.symm (h4 y rfl)
     ·exact absurd q k
    intro b hb;rcases Am.1 hb with rfl|hb
    ·exact hy
    ·have k:=(A0.1 hs3.2.1).1 b hb;rcases to_N.tri y.name b.name with q|q|q
     ·exact to_N.tr _ _ _ hy q
     ·rw [←q];exact hy
     ·exact absurd q k
  have hlen:=congrArg List.length h1;have hg0:0<g.length:=Bb.2 h2;simp only [Ac,A3] at hlen hn;obtain ⟨i1,i2⟩:=Cx8 n l' (by omega) hs3.2.1;rw [h5];refine ⟨fun g' hg'=> ?_,fun w hw=> ?_⟩
  ·rcases Am.1 hg' with rfl|hg'
   ·refine ⟨h2,?_⟩;rw [hnm,h1,Gv];have e1:(g'.filter fun r=>decide (r.name=x.name))=g':=List.filter_eq_self.2 fun y hy=>by simp [h3 y hy]
    have e2:(l'.filter fun r=>decide (r.name=x.name))=[]:=G2.2 fun y hy=>by have:=hgl y hy;intro k;simp only [decide_eq_true_eq] at k;rw [k] at this;exact to_N.irr _ this
    rw [e1,e2,Dt]
   ·obtain ⟨j1,j2⟩:=i1 g' hg';refine ⟨j1,?_⟩;rw [h1,Gv];have e1:(g.filter fun r=>decide (r.name=nmG g'))=[]:=G2.2 fun y hy=>by intro k;simp only [decide_eq_true_eq] at k;obtain ⟨w,hw⟩:=Fz g' j1;have hw2:=hw;rw [j2] at hw2;obtain ⟨q1,q2⟩:=B0.1 hw2;simp only [decide_eq_true_eq] at q2;have:=hgl w q1;rw [q2,←k,h3 y hy] at this;exact to_N.irr _ this
    rw [e1,Cb];exact j2
  ·rw [h1] at hw;rcases Bt.1 hw with hw|hw
   ·exact ⟨g, .head _,by rw [hnm,h3 w hw],hw⟩
   ·obtain ⟨g',q1,q2⟩:=i2 w hw;exact ⟨g', .tail _ q1,q2⟩
theorem If0 (l:List Rec) (n:List UInt8) (t:Int):F3 (l.filter fun r=>decide (r.name=n)) t=fk l n t:=by
 rw [C2];unfold F3 fk findR;rw [Cd,decide_eq_true_eq,List.length_pos_iff_exists_mem];constructor
 ·rintro ⟨x,h1,h2⟩;obtain ⟨h3,h4⟩:=B0.1 h1;exact ⟨x,B0.2 ⟨h3,by unfold isK;rw [h4,h2];rfl⟩⟩
 ·rintro ⟨x,h1⟩;obtain ⟨h3,h4⟩:=B0.1 h1;unfold isK at h4;rw [Aw] at h4;exact ⟨x,B0.2 ⟨h3,h4.1⟩,h4.2⟩
theorem Ed8 (l:List Rec) (n:List UInt8) (t:Int):fk l n t=true↔∃r∈l,r.name=n∧r.typ=t:=by
 unfold fk findR;rw [decide_eq_true_eq,List.length_pos_iff_exists_mem];constructor
 ·rintro ⟨x,h1⟩;obtain ⟨h3,h4⟩:=B0.1 h1;unfold isK at h4;simp only [Aw,decide_eq_true_eq] at h4;exact ⟨x,h3,h4⟩
 ·rintro ⟨x,h1,h2,h3⟩;exact ⟨x,B0.2 ⟨h1,by unfold isK;simp [h2,h3]⟩⟩
abbrev sng (t:Int):Prop:=t=6∨t=5∨t=39
def two (x y:Rec):Prop:=x.typ=y.typ→(x≠y→¬sng x.typ)∧(x.typ≠46→x.ttl=y.ttl)
theorem Dp1 {x y:Rec} (h:two x y):two y x:=fun e=>by obtain ⟨h1,h2⟩:=h e.symm;exact ⟨fun k=>by rw [e];exact h1 k.symm,fun k=>(h2 (by rw [←e];exact k)).symm⟩
theorem Dp2 (x:Rec):two x x:=fun _=>⟨fun k=>absurd rfl k,fun _=>rfl⟩
theorem Bt3 {a b:Rec} (h:ltR a b) (e:a.name=b.name):a.typ≤b.typ:=by
 rcases h with h|⟨_,h|⟨h,_⟩⟩
 ·have h':ltN a.name b.name:=h;rw [e] at h';exact absurd h' (to_N.irr _)
 ·have h':a.typ<b.typ:=h;omega
 ·have h':a.typ=b.typ:=h;omega
theorem Bt4 {a b:Rec} (h:ltR a b):a≠b:=fun e=>by rw [e] at h;exact to_K.irr _ h
theorem qp:∀(r:List Rec) (p:Rec),(p::r).Pairwise ltR→(∀x∈r,x.name=p.name)→(Uw p r=true↔(p::r).Pairwise two)
 |[],p,_,_=>by simp [Uw]
 |x::r,p,hs,hn=>by
  obtain ⟨h1,h2⟩:=A0.1 hs;obtain ⟨h3,h4⟩:=A0.1 h2;have hx:=hn x (.head _);have ih:=qp r x h2 (fun y hy=>by rw [hn y (.tail _ hy),hx]);have hpx:(!decide (x.typ=p.typ)||(!(decide (x.typ=6)||decide (x.typ=5)||decide (x.typ=39)) && (decide (x.typ=46)||decide (x.ttl=p.ttl))))=true↔two p x:=by
   have hne:p≠x:=Bt4 (h1 x (.head _));unfold two sng;simp only [Ap,Aw,A7,decide_eq_false_iff_not,decide_eq_true_eq,Is];constructor
   ·rintro (k|⟨k1,k2⟩) e
    ·exact absurd e.symm k
    ·refine ⟨fun _=>by rw [e];omega,fun k=> ?_⟩;rcases k2 with k2|k2
     ·exact absurd (e.trans k2) k
     ·exact k2.symm
   ·intro h;by_cases e:x.typ=p.typ
    ·obtain ⟨a,b⟩:=h e.symm;have a':=a hne;refine .inr ⟨by rw [e];omega,?_⟩;by_cases k:x.typ=46
     ·exact .inl k
     ·exact .inr (b (by rw [←e];exact k)).symm
    ·exact .inl e
  have step:Uw p (x::r)=true↔two p x∧Uw x r=true:=by simp only [Uw];rw [Aw,hpx]
  rw [step,ih,A0 (a:=p)];constructor
  ·rintro ⟨k1,k2⟩;refine ⟨fun y hy=> ?_,k2⟩;rcases Am.1 hy with rfl|hy
   ·exact k1
   ·intro e;have t1:=Bt3 (h1 x (.head _)) hx.symm;have t2:=Bt3 (h3 y hy) (by rw [hx,hn y (.tail _ hy)]);have e1:p.typ=x.typ:=by omega
    obtain ⟨a1,a2⟩:=k1 e1;obtain ⟨b1,b2⟩:=(A0.1 k2).1 y hy (by omega);exact ⟨fun _=>a1 (Bt4 (h1 x (.head _))),fun k=>by rw [a2 k];exact b2 (by omega)⟩
  ·rintro ⟨k1,k2⟩;exact ⟨k1 x (.head _),k2⟩
theorem Dn9 {g:List Rec} {n:List UInt8} (hs:g.Pairwise ltR) (hn:∀x∈g,x.name=n):Dl6 g=true↔∀x∈g,∀y∈g,two x y:=by
 have:Dl6 g=true↔g.Pairwise two:=by
  cases g with
  |nil=>simp [Dl6]
  |cons p r=>exact qp r p hs fun x hx=>by rw [hn x (.tail _ hx),hn p (.head _)]
 rw [this];constructor
 ·intro h x hx y hy;obtain ⟨i,hi⟩:=Dj hx;obtain ⟨j,hj⟩:=Dj hy;obtain ⟨i1,i2⟩:=Av.1 hi;obtain ⟨j1,j2⟩:=Av.1 hj;rcases Nat.lt_trichotomy i j with k|k|k
  ·have:=Mm.1 h i j i1 j1 k;rw [i2,j2] at this;exact this
  ·subst k;rw [←i2,←j2];exact Dp2 _
  ·have:=Mm.1 h j i j1 i1 k;rw [i2,j2] at this;exact Dp1 this
 ·intro h;rw [Mm];intro i j hi hj _;exact h _ (D1 hi) _ (D1 hj)
theorem Qk (r x:Rec):Ob r x=true↔(x.name=r.name→two r x∧(r.typ=5→x.typ=5∨x.typ=46∨x.typ=47)):=by
 unfold Ob two sng;by_cases h:x.name=r.name
 ·simp only [h,decide_true,Kg,Iw,true_implies,Aw,A7,Hl,decide_eq_false_iff_not,Is,ne_eq,Jx];by_cases e:x.typ=r.typ
  ·have e':r.typ=x.typ:=e.symm;simp only [e,not_true_eq_false,false_or,true_implies];constructor
   ·rintro ⟨⟨h1,h2⟩,h3⟩;refine ⟨⟨fun k q=> ?_,fun k=> ?_⟩,fun k=>by omega⟩
    ·rcases h2 with h2|h2
     ·omega
     ·exact k h2.symm
    ·rcases h1 with h1|h1
     ·exact absurd h1 k
     ·exact h1.symm
   ·rintro ⟨⟨h1,h2⟩,h3⟩;refine ⟨⟨?_,?_⟩,by omega⟩
    ·by_cases k:r.typ=46
     ·exact .inl k
     ·exact .inr (h2 k).symm
    ·by_cases k:r=x
     ·exact .inr k.symm
     ·have:=h1 k;left;omega
  ·have e':¬r.typ=x.typ:=fun q=>e q.symm;simp only [e,e',not_false_eq_true,true_or,true_and,false_implies];omega
 ·simp [h]
set_option maxHeartbeats 1000000 in
theorem Bb7 (z:Zone) (hv:∀r∈z.recs,Om r=true) (hr:z.recs.Pairwise ltR):
  ((∀g∈grp z.recs,bq z g=true)∧∃r∈z.recs,r.name=z.origin)↔((findR z.recs z.origin 6).length=1∧fk z.recs z.origin 2=true∧∀r∈z.recs,R3 z r=true):=by
 obtain ⟨ga,gb⟩:=Cx8 z.recs.length z.recs (Af _) (Bz4 hr);have gm:∀g∈grp z.recs,∀x,x∈g↔x∈z.recs∧x.name=nmG g:=fun g hg x=>by
  have:=(ga g hg).2;constructor
  ·intro h;rw [this] at h;obtain ⟨a,b⟩:=B0.1 h;exact ⟨a,by simpa using b⟩
  ·rintro ⟨a,b⟩;rw [this];exact B0.2 ⟨a,by simpa using b⟩
 have gh:∀g∈grp z.recs,∀t,F3 g t=fk z.recs (nmG g) t:=fun g hg t=>by have:=If0 z.recs (nmG g) t;rwa [←(ga g hg).2] at this
 have gu:∀g∈grp z.recs,(Dl6 g=true↔∀x∈g,∀y∈g,two x y):=fun g hg=>by refine Dn9 (n:=nmG g) ?_ fun x hx=>((gm g hg x).1 hx).2;rw [(ga g hg).2];exact hr.filter _
 have hstar:∀r∈z.recs,(r.name[0]? =some 42↔(lbl r.name)[0]? =some [42]):=fun r h=>Ub (Z0 (hv r h));constructor
 ·rintro ⟨hp,r0,hr0,hr0n⟩;have hpg:∀r∈z.recs,∃g∈grp z.recs,nmG g=r.name∧r∈g∧bq z g=true:=fun r h=>by obtain ⟨g,h1,h2,h3⟩:=gb r h;exact ⟨g,h1,h2,h3,hp g h1⟩
  obtain ⟨g0,k1,k2,k3,k4⟩:=hpg r0 hr0;rw [hr0n] at k2;have k5:=k4;unfold bq propG at k5;simp only [k2,Aw,decide_eq_true_eq,decide_true,Kg,Iw] at k5;have s6:fk z.recs z.origin 6=true:=by rw [←k2,←gh g0 k1,k5.1.1.1.1.1.1.1.2]
  have s2:fk z.recs z.origin 2=true:=by rw [←k2,←gh g0 k1,k5.1.1.1.1.1.2]
  refine ⟨?_,s2,fun r h=> ?_⟩
  ·-- one SOA record
   have hpos:0<(findR z.recs z.origin 6).length:=by unfold fk at s6;simpa using s6
   have hpw:(findR z.recs z.origin 6).Pairwise ltR:=hr.filter _;have hmm:∀x∈findR z.recs z.origin 6,x∈g0∧x.typ=6:=fun x hx=>by obtain ⟨a,b⟩:=B0.1 hx;unfold isK at b;simp only [Aw,decide_eq_true_eq] at b;exact ⟨(gm g0 k1 x).2 ⟨a,by rw [b.1,k2]⟩,b.2⟩
   have hu:=(gu g0 k1).1 k5.1.1.1.1.1.1.2;generalize findR z.recs z.origin 6=l at*
   match l,hpos,hpw,hmm with
   |[a],_,_,_=>rfl
   |a::b::r,_,hpw,hmm=>
    exfalso;have hab:=(A0.1 hpw).1 b (.head _);obtain ⟨a1,a2⟩:=hmm a (.head _);obtain ⟨b1,b2⟩:=hmm b (.tail _ (.head _));exact ((hu a a1 b b1 (by rw [a2,b2])).1 (Bt4 hab)) (.inl a2)
  ·obtain ⟨g,h1,h2,h3,h4⟩:=hpg r h;unfold bq propG at h4;rw [h2] at h4;simp only [Aw,decide_eq_true_eq,Ap,A7,decide_eq_false_iff_not,Hl] at h4;obtain ⟨⟨⟨⟨⟨⟨⟨⟨p1,p2⟩,p3⟩,p4⟩,p5⟩,p6⟩,p7⟩,p8⟩,p9⟩:=h4;have hu:=(gu g h1).1 p3;have hon:∀ts,I9 g ts=true→r.typ∈ts:=fun ts k=>by have:=Bz.1 k r h3;simpa using this
   have has:∀t,r.typ=t→F3 g t=true:=fun t e=>Cd.2 ⟨r,h3,by simp [e]⟩;unfold R3;simp only [Aw,A7,Hl,decide_eq_false_iff_not,ne_eq,Jx];refine ⟨⟨⟨p1,?_⟩,?_⟩,?_⟩
   ·by_cases e:r.typ=6
    ·right;rw [has 6 e] at p2;simpa using p2.symm
    ·exact .inl e
   ·unfold Yp;rw [Bz];intro x hx;rw [Qk];intro e;have hxg:x∈g:=(gm g h1 x).2 ⟨hx,by rw [h2,e]⟩;refine ⟨hu r h3 x hxg,fun e5=> ?_⟩;rcases p5 with p5|p5
    ·rw [has 5 e5] at p5;cases p5
    ·have:=Bz.1 p5 x hxg;simpa using this
   ·unfold Xk;have h9:¬((lbl r.name)[0]? =some [42]∧(r.typ=2∨r.typ=39)):=by
     rintro ⟨e1,e2⟩;rcases p9 with p9|⟨q1,q2⟩
     ·exact p9 ((hstar r h).2 e1)
     ·rcases e2 with e2|e2
      ·rw [has 2 e2] at q1;cases q1
      ·rw [has 39 e2] at q2;cases q2
    rw [if_neg h9,Aw];refine ⟨Bz.2 fun x hx=> ?_,?_⟩
    ·unfold Np;simp only [Aw,A7,Hl,decide_eq_false_iff_not,ne_eq,Jx];constructor
     ·by_cases e:x.typ=39
      ·right;rcases Ak (Fx r.name x.name) with q|q
       ·have:Gf1 z r.name=true:=Cd.2 ⟨x,hx,by simp [e,q]⟩;rw [this] at p6;cases p6
       ·exact q
      ·exact .inl e
     ·by_cases e:x.typ=2∧Fx x.name z.origin=true∧Fx r.name x.name=true
      ·have q:=e.2.2;unfold Fx at q;simp only [Aw,decide_eq_true_eq] at q;have:lh z r.name=true:=Cd.2 ⟨x,hx,by unfold Et;simp [e.1,e.2.1,q.2];exact fun k=>q.1 k.symm⟩;rcases p7 with p7|p7
       ·rw [this] at p7;cases p7
       ·have:=hon _ p7;simp at this;rcases this with this|this
        ·exact .inl (.inr this)
        ·exact .inr this
      ·by_cases e1:x.typ=2
       ·by_cases e2:Fx x.name z.origin=true
        ·have e3:Fx r.name x.name=false:=by
          rcases Ak (Fx r.name x.name) with q|q
          ·exact absurd ⟨e1,e2,q⟩ e
          ·exact q
         exact .inl (.inl (.inr e3))
        ·exact .inl (.inl (.inl (.inr (by simpa using e2))))
       ·exact .inl (.inl (.inl (.inl e1)))
    ·have hb:Fx r.name z.origin= !decide (r.name=z.origin):=by unfold Fx;rw [p1];simp
     rw [hb,←h2,←gh g h1 2,h2];by_cases c:¬r.name=z.origin∧F3 g 2=true
     ·have cb:(!decide (r.name=z.origin) && F3 g 2)=true:=by simp [c]
      rw [if_pos c] at p8;rw [if_pos cb];have:=hon _ p8;unfold Xj;simp at this ⊢;omega
     ·have cb:¬(!decide (r.name=z.origin) && F3 g 2)=true:=by simpa using c
      rw [if_neg c] at p8;rw [if_neg cb];simp only [A7] at p8;rw [decide_eq_true_eq];intro e;rw [has 43 e] at p8;cases p8
 ·rintro ⟨h1,h2,h3⟩;have hrr:∃r∈z.recs,r.name=z.origin:=by obtain ⟨r,k1,k2,_⟩:=(Ed8 _ _ _).1 h2;exact ⟨r,k1,k2⟩
  refine ⟨fun g hg=> ?_,hrr⟩;obtain ⟨r,hrg⟩:=Fz g (ga g hg).1;obtain ⟨hrz,hrn⟩:=(gm g hg r).1 hrg;have hrec:∀x∈g,under x.name z.origin=true∧(x.typ=6→x.name=z.origin)∧(∀y∈g,two x y∧(x.typ=5→y.typ=5∨y.typ=46∨y.typ=47))∧Xk z x=true:=fun x hx=>by
   obtain ⟨a,b⟩:=(gm g hg x).1 hx;have k:=h3 x a;unfold R3 at k;simp only [Aw,A7,Hl,decide_eq_false_iff_not,ne_eq,Jx] at k;refine ⟨k.1.1.1,fun e=> ?_,fun y hy=> ?_,k.2⟩
   ·rcases k.1.1.2 with q|q
    ·exact absurd e q
    ·exact q
   ·obtain ⟨c,d⟩:=(gm g hg y).1 hy;have q:=k.1.2;unfold Yp at q;exact (Qk x y).1 (Bz.1 q y c) (by rw [d,b])
  have hpl:∀x∈g,¬((lbl x.name)[0]? =some [42]∧(x.typ=2∨x.typ=39))∧z.recs.all (Np z x)=true∧(if Fx x.name z.origin && fk z.recs x.name 2 then Xj x.typ else decide (x.typ≠43))=true:=fun x hx=>by
   have k:=(hrec x hx).2.2.2;unfold Xk at k;by_cases q:(lbl x.name)[0]? =some [42]∧(x.typ=2∨x.typ=39)
   ·rw [if_pos q] at k;cases k
   ·rw [if_neg q,Aw] at k;exact ⟨q,k⟩
  have hnx:∀x∈g,x.name=nmG g:=fun x hx=>((gm g hg x).1 hx).2;unfold bq propG;simp only [Aw,decide_eq_true_eq,Ap,A7,decide_eq_false_iff_not,Hl];refine ⟨⟨⟨⟨⟨⟨⟨⟨?_,?_⟩,?_⟩,?_⟩,?_⟩,?_⟩,?_⟩,?_⟩,?_⟩
  ·rw [←hrn];exact (hrec r hrg).1
  ·rw [C2,decide_eq_true_eq];constructor
   ·intro k;obtain ⟨x,x1,x2⟩:=Cd.1 k;rw [←hnx x x1];exact (hrec x x1).2.1 (by simpa using x2)
   ·intro k;rw [gh g hg,k];unfold fk;simp [h1]
  ·exact (gu g hg).2 fun x hx y hy=>((hrec x hx).2.2.1 y hy).1
  ·by_cases e:nmG g=z.origin
   ·right;rw [gh g hg,e];exact h2
   ·exact .inl e
  ·by_cases e:F3 g 5=true
   ·right;obtain ⟨x,x1,x2⟩:=Cd.1 e;refine Bz.2 fun y hy=> ?_;have:=((hrec x x1).2.2.1 y hy).2 (by simpa using x2);simpa using this
   ·exact .inl (by simpa using e)
  ·rcases Ak (Gf1 z (nmG g)) with q|q
   ·exfalso;obtain ⟨w,w1,w2⟩:=Cd.1 q;have k:=Bz.1 (hpl r hrg).2.1 w w1;unfold Np at k;rw [hrn] at k;rw [w2] at k;simp at k
   ·exact q
  ·rcases Ak (lh z (nmG g)) with q|q
   ·right;obtain ⟨w,w1,w2⟩:=Cd.1 q;unfold Et at w2;simp only [Aw,decide_eq_true_eq] at w2;refine Bz.2 fun x hx=> ?_;have k:=Bz.1 (hpl x hx).2.1 w w1;unfold Np at k;have hb:Fx x.name w.name=true:=by unfold Fx;rw [hnx x hx];have:nmG g≠w.name:=fun e=>w2.1.2 e.symm;simp [this,w2.2]
    rw [hb,w2.1.1.2] at k;simp [w2.1.1.1] at k;have k':x.typ=1∨x.typ=28:=by omega
    simpa using k'
   ·exact .inl q
  ·have hbn:Fx (nmG g) z.origin= !decide (nmG g=z.origin):=by unfold Fx;rw [←hrn,(hrec r hrg).1];simp
   by_cases c0:¬nmG g=z.origin∧F3 g 2=true
   ·have c:(!decide (nmG g=z.origin) && F3 g 2)=true:=by simp [c0]
    rw [if_pos c0];refine Bz.2 fun x hx=> ?_;have k:=(hpl x hx).2.2;rw [hnx x hx,hbn,←gh g hg,if_pos c] at k;unfold Xj at k;simp at k ⊢;omega
   ·have c:¬(!decide (nmG g=z.origin) && F3 g 2)=true:=by simpa using c0
    rw [if_neg c0];simp only [A7];rcases Ak (F3 g 43) with q|q
    ·exfalso;obtain ⟨x,x1,x2⟩:=Cd.1 q;have k:=(hpl x x1).2.2;rw [hnx x x1,hbn,←gh g hg,if_neg c] at k;simp at x2 k;exact k x2
    ·exact q
  ·by_cases e:(nmG g)[0]? =some 42
   ·right;rw [←hrn] at e;have e2:=(hstar r hrz).1 e;constructor
    ·rcases Ak (F3 g 2) with q|q
     ·exfalso;obtain ⟨x,x1,x2⟩:=Cd.1 q;refine (hpl x x1).1 ⟨by rw [hnx x x1,←hrn];exact e2, .inl (by simpa using x2)⟩
     ·exact q
    ·rcases Ak (F3 g 39) with q|q
     ·exfalso;obtain ⟨x,x1,x2⟩:=Cd.1 q;refine (hpl x x1).1 ⟨by rw [hnx x x1,←hrn];exact e2, .inr (by simpa using x2)⟩
     ·exact q
   ·exact .inl e
end Go.X.G
/- Data of records in the program: which are valid. -/
namespace Go.X.G
open Go Go.X
theorem gr (s t:List UInt8) (hs:s.length≤9223372036854775807):S c7 2 [.s s, .s t]=some [.b (t.isPrefixOf s)]:=by
 refine Hm9 (N:=1) rfl ?_;have h:S ct 2 [.s s, .s t]=some [.b (t.isPrefixOf s)]:=by
  refine Hm1 (N:=1) rfl ?_;by_cases hl:(t.length:Int)≤(s.length:Int)
  ·simp (disch:=omega) only [En0,hl,EVC,xe,EVP,EV,simprocAttr];congr 4;rw [C2,List.isPrefixOf_iff_prefix,List.prefix_iff_eq_take];simp;exact ⟨fun h=>h.symm,fun h=>h.symm⟩
  ·simp (disch:=omega) only [En0,hl,EVC,xe,EVP,EV,simprocAttr];congr 4;rw [eq_comm,qv];intro h;have:=(List.isPrefixOf_iff_prefix.1 h).length_le;omega
 simp (disch:=omega) only [Hb3,h,EVC,xe,EVP,EV,simprocAttr]
theorem C7 (n:List UInt8) (hn:n.length≤9223372036854775807):S Mc 1 [.s n]=some [.b (H0 n)]:=by
 refine Hp5 (N:=1) rfl ?_;have h1:=Br n hn;have h2:=gr n [42] hn;unfold H0;rcases Ak (vld n) with h|h
 ·rw [h] at h1;have e:([42]:List UInt8).isPrefixOf n=decide (n[0]? =some 42):=by
   cases n with
   |nil=>rfl
   |cons c r=>rw [C2];simp [List.isPrefixOf];exact ⟨fun h=>h.symm,fun h=>h.symm⟩
  rw [e] at h2;simp (disch:=omega) only [En5,h1,h2,h,EVC,xe,EVP,EV,simprocAttr];by_cases h3:n[0]? =some 42<;>simp [h3]
 ·rw [h] at h1;simp (disch:=omega) only [En5,h1,h,EVC,xe,EVP,EV,simprocAttr];rfl
theorem Cr (n m:Int):S Gh 2 [.i .i64 n, .i .i64 m]=some [.b (inB n m)]:=by refine Hp3 (N:=1) rfl ?_;unfold inB;by_cases h:0≤n<;>simp (disch:=omega) only [Hc0,h,EVC,xe,EVP,EV,simprocAttr]<;>simp
theorem Dl (s:List UInt8) (hs:s.length≤9223372036854775807):S Sk 1 [.s s]=some [.b (I8 s)]:=by
 refine Hp2 (N:=1) rfl ?_;unfold I8;by_cases h:(1:Int)≤(s.length:Int)
 ·have h':1≤s.length:=by omega
  simp (disch:=omega) only [En3,h,EVC,xe,EVP,EV,simprocAttr];by_cases h2:s.length≤255
  ·have h3:(s.length:Int)≤255:=by omega
   simp [h',h2,h3]
  ·have h3:¬(s.length:Int)≤255:=by omega
   simp [h2,h3]
 ·have h':¬1≤s.length:=by omega
  simp (disch:=omega) only [En3,h,EVC,xe,EVP,EV,simprocAttr];simp [h']
theorem Cm (d:Dat):S U8 1 [J1 d]=some [.b (D7 d)]:=by
 refine Hp6 (N:=1) rfl ?_;unfold D7;rcases Ak d.v6 with h|h
 ·simp (disch:=omega) only [Bv4,h,EVC,xe,EVP,EV,simprocAttr];simp
 ·by_cases h2:d.hi=0
  ·simp (disch:=omega) only [Bv4,h,h2,EVC,xe,EVP,EV,simprocAttr];by_cases h3:d.lo≤4294967295
   ·have:d.lo<4294967296:=by omega
    simp [h3,this]
   ·have:¬d.lo<4294967296:=by omega
    simp [h3,this]
  ·simp (disch:=omega) only [Bv4,h,h2,EVC,xe,EVP,EV,simprocAttr];simp
theorem Cs (n:Int):S dx 1 [.i .i64 n]=some [.b (inB n 4294967295)]:=by
 refine Hp4 (N:=1) rfl ?_;unfold inB;by_cases h:0≤n
 ·simp (disch:=omega) only [En4,h,EVC,xe,EVP,EV,simprocAttr];by_cases h3:n≤4294967295
  ·have:n<4294967296:=by omega
   simp [h3,this]
  ·have:¬n<4294967296:=by omega
   simp [h3,this]
 ·simp (disch:=omega) only [En4,h,EVC,xe,EVP,EV,simprocAttr];simp
def Em7:Int:=501935916552294
theorem Dn:S dw 0 []=some [.i .u64 Em7]:=by
 refine Hp1 (N:=20) rfl ?_;have key:Cv2.ev S 20 [lf kds]=some (.yld 0 [.i .u64 Em7]):=by kernel_rfl
 simp (disch:=omega) only [Hb9,wt,key,Pw,EVC,xe,EVP,EV,simprocAttr]
theorem Az8 (x:Int):∀(k i:Nat),Hx8 x i k=true↔∀j,i≤j→j<i+k→bit x j=1→knw (j:Int)=true
 |0,i=>by simp only [Hx8,true_iff];intro j h1 h2;omega
 |k+1,i=>by
  simp only [Hx8,Aw,Ap,A7,decide_eq_false_iff_not];rw [Az8 x k (i+1)];constructor
  ·rintro ⟨h1,h2⟩ j h3 h4 h5;rcases Nat.lt_or_eq_of_le h3 with h|h
   ·exact h2 j (by omega) (by omega) h5
   ·subst h;rcases h1 with h1|h1
    ·exact absurd h5 h1
    ·exact h1
  ·intro h;refine ⟨?_,fun j h1 h2 h3=>h j (by omega) (by omega) h3⟩;by_cases hb:bit x i=1
   ·exact .inr (h i (Af _) (by omega) hb)
   ·exact .inl hb
theorem Az6:∀i:Nat,i<64→(BitVec.ofInt 64 Em7).getLsbD i=knw (i:Int):=by decide
theorem Dd1 (x:Int) (h0:0≤x) (h1:x≤18446744073709551615) (i:Nat) (hi:i<64):bit x i=1↔(BitVec.ofInt 64 x).getLsbD i=true:=by
 obtain ⟨n,rfl⟩:∃n:Nat,x=n:=⟨x.toNat,by omega⟩;have e:BitVec.ofInt 64 (n:Int)=BitVec.ofNat 64 n:=by simp
 rw [e,BitVec.getLsbD_ofNat];simp only [hi,decide_true,Bool.true_and,Nat.testBit_eq_decide_div_mod_eq,decide_eq_true_eq];unfold bit;constructor
 ·intro h;have:(((n / 2 ^ i % 2:Nat)):Int)=1:=by push_cast;exact h
  omega
 ·intro h;have:(((n / 2 ^ i % 2:Nat)):Int)=1:=by omega
  push_cast at this;exact this
theorem D6 (x:Int) (h0:0≤x) (h1:x≤18446744073709551615):decide (IntKind.u64.wrap ((BitVec.ofInt IntKind.u64.bits x &&& ~~~ BitVec.ofInt IntKind.u64.bits Em7).toNat:Int)=0)=Hx8 x 0 64:=by
 have hb:IntKind.u64.bits=64:=rfl;have hw:IntKind.u64.wrap ((BitVec.ofInt 64 x &&& ~~~ BitVec.ofInt 64 Em7).toNat:Int)=((BitVec.ofInt 64 x &&& ~~~ BitVec.ofInt 64 Em7).toNat:Int):=by have:=(BitVec.ofInt 64 x &&& ~~~ BitVec.ofInt 64 Em7).isLt;rw [Hd0]<;>omega
 rw [hb,hw,C2,decide_eq_true_eq,Az8];constructor
 ·intro h j _ hj hb1;have hz:(BitVec.ofInt 64 x &&& ~~~ BitVec.ofInt 64 Em7)=0#64:=BitVec.eq_of_toNat_eq (by simp only [BitVec.toNat_ofNat];omega);have:=congrArg (fun v=>v.getLsbD j) hz;simp only [BitVec.getLsbD_and,BitVec.getLsbD_not,BitVec.getLsbD_zero] at this;rw [(Dd1 x h0 h1 j (by omega)).1 hb1,Az6 j (by omega)] at this;have hj':j<64:=by omega
  simpa [hj'] using this
 ·intro h;have hz:(BitVec.ofInt 64 x &&& ~~~ BitVec.ofInt 64 Em7)=0#64:=by
   apply BitVec.eq_of_getLsbD_eq;intro i hi;simp only [BitVec.getLsbD_and,BitVec.getLsbD_not,BitVec.getLsbD_zero];rw [Az6 i hi];rcases Ak ((BitVec.ofInt 64 x).getLsbD i) with q|q
   ·rw [h i (Cc _) (by omega) ((Dd1 x h0 h1 i hi).2 q)];simp
   ·rw [q];rfl
  rw [hz];rfl
end Go.X.G
/- Data of records in the program: numbers, names, bitmaps, addresses in bytes. -/
namespace Go.X.G
open Go Go.X
theorem Sn {L:List UInt8} {i:Nat} {c:UInt8} (h:L[i]? =some c):(Cw L)[i]? =some (.i .u8 (c.toNat:Int)):=by unfold Cw;rw [Bh,h];rfl
theorem ab (L:List UInt8) (k:IntKind) (z v:Int) (h0:0≤z) (h1:z<(L.length:Int)) (h2:0≤v) (h3:v<256):Rh 1 0 [.i .u8 v] (.l 1 (Cw L)) (.i k z)=some (.l 1 (Cw (L.set z.toNat (UInt8.ofNat v.toNat)))):=by
 have h4:z.toNat<L.length:=by omega
 have h5:=Sn (Az h4);simp only [Rh,h0,h5,and_self,if_true,Ay];have h6:O4 (.i .u8 (((L[z.toNat]'h4).toNat:Nat):Int)) 0 [.i .u8 v]=some (.i .u8 v):=rfl;rw [h6];have h7:((UInt8.ofNat v.toNat).toNat:Int)=v:=Bn3 v h2 h3;simp only [A5,Cw,List.map_set,h7]
theorem am (n:Int) (h0:0≤n) (h1:n≤1000000):K9 1 (.i .i64 n) (.i .u8 0)=some (.l 1 (Cw (List.replicate n.toNat 0))):=by
 have h2:n≤(LIM:Int):=by simp only [LIM];omega
 have h3:(PV.i .u8 0).cells.length=1:=rfl;simp only [K9,h0,h2,h3,and_self,if_true];simp [Cw]
theorem Ol (x:Int):IntKind.u8.wrap x=x % 256:=rfl
theorem Gf0 (n k:Nat) (hk:k<n) (B:List UInt8) (c:UInt8):(List.replicate (n - k) 0++B).set (n - 1 - k) c=List.replicate (n - (k+1)) 0++c::B:=by obtain ⟨m,hm⟩:∃m,n - k=m+1:=⟨n - k - 1,by omega⟩;rw [hm,show n - 1 - k=m by omega,show n - (k+1)=m by omega,List.replicate_succ',As,ix _ _ (by simp)];simp
theorem D5 (v:Int) (n:Nat) (hn:n≤1000) (h0:0≤v) (h1:v≤9223372036854775807):S F9 2 [.i .i64 v, .i .i64 (n:Int)]=some [.s (be v n)]:=by
 refine Hl6 (N:=n+2) rfl ?_;have key:Cq4.ev S (n+2) [.i .i64 v, .i .i64 (n:Int)]=some (.yld 0 [.l 1 (Cw (be v n))]):=by
  refine G6 n (fun k=>[.i .i64 (v / 256 ^ k), .l 1 (Cw (List.replicate (n - k) 0++be v k)), .i .i64 ((n:Int) - 1 - k)]) (fun _=> .yld 0 [.l 1 (Cw (be v n))]) ?_ (by omega) (fun k hk=> ?_) ?_
  ·simp (disch:=omega) only [am,EVC,xe,EVP,EV,simprocAttr];simp [be]
  ·left;refine ⟨?_,rfl⟩;have h2:=Il4 v k h0;have h3:=Il5 v k h0;have h4:=Gs2 v k;have hl:(List.replicate (n - k) (0:UInt8)++be v k).length=n:=by rw [Ac,iy,Ec];omega
   obtain ⟨c0,hg⟩:∃c0,(Cw (List.replicate (n - k) (0:UInt8)++be v k))[n - 1 - k]? =some c0:=⟨_,Sn (Az (by omega))⟩;have hs:=Gf0 n k hk (be v k) (UInt8.ofNat (v / 256 ^ k % 256).toNat);have e1:((n:Int) - 1 - k).toNat=n - 1 - k:=by omega
   have e2:(n:Int) - 1 - ((k+1:Nat):Int)=(n:Int) - 1 - k - 1:=by omega
   have hge:(0:Int)≤(n:Int) - 1 - k:=by omega
   have hsh:bin .shr (.i .i64 (v / 256 ^ k)) (.i .u64 8)=some (.i .i64 (v / 256 ^ (k+1))):=by have:=By3 .i64 .u64 (v / 256 ^ k) 8 (by decide);rw [←h4];exact this
   have hbe:be v (k+1)=UInt8.ofNat (v / 256 ^ k % 256).toNat::be v k:=rfl;rw [e2,hbe,←hs];generalize List.replicate (n - k) (0:UInt8)++be v k=L at*;generalize v / 256 ^ (k+1)=w' at*;generalize v / 256 ^ k=w at*;have hset:=ab L .i64 ((n:Int) - 1 - k) (w % 256) (by omega) (by omega) (by omega) (by omega);rw [e1] at hset;simp (disch:=omega) only [Bq8,hge,hsh,Ol,e1,hg,hset,EVC,xe,EVP,EV,simprocAttr]
  ·refine ⟨?_,rfl⟩;have hge:¬(0:Int)≤(n:Int) - 1 - n:=by omega
   have e:List.replicate (n - n) (0:UInt8)++be v n=be v n:=by simp
   rw [e];simp (disch:=omega) only [Bq8,hge,EVC,xe,EVP,EV,simprocAttr]
 simp (disch:=omega) only [Bq8,key,EVC,xe,EVP,EV,simprocAttr]
theorem Ay9 (v:Int) (h0:0≤v) (h1:v≤18446744073709551615):S Sj 1 [.i .u64 v]=some [.l 1 (Cw (be v 8))]:=by
 refine Hl4 (N:=10) rfl ?_;have hb:∀i,i<8→(be v 8)[i]? =some (UInt8.ofNat (v / 256 ^ (7 - i) % 256).toNat):=by
  intro i hi;have:i=0∨i=1∨i=2∨i=3∨i=4∨i=5∨i=6∨i=7:=by omega
  rcases this with rfl|rfl|rfl|rfl|rfl|rfl|rfl|rfl<;>rfl
 obtain ⟨Z,hZ,hr⟩:∃Z:List UInt8,Z=List.replicate 8 0∧K9 1 (.i .i64 8) (.i .u8 0)=some (.l 1 (Cw Z)):=⟨_,rfl,am 8 (by decide) (by decide)⟩;have h8:(Cw Z).length=8:=by rw [hZ];rfl
 have key:Cq2.ev S 10 [.i .u64 v]=some (.yld 0 [.l 1 (Cw (be v 8))]):=by
  refine G6 8 (fun i=>[.l 1 (Cw ((be v 8).take i++List.replicate (8 - i) 0)), .i .i64 (i:Int)]) (fun _=> .yld 0 [.l 1 (Cw (be v 8))]) ?_ (by omega) (fun i hi=> ?_) ?_
  ·simp (disch:=omega) only [hr,EVC,xe,EVP,EV,simprocAttr];rw [hZ];rfl
  ·left;refine ⟨?_,rfl⟩;have hl:((be v 8).take i++List.replicate (8 - i) (0:UInt8)).length=8:=by rw [Ac,iy,Ar,Ec];omega
   obtain ⟨c0,hg⟩:∃c0,(Cw ((be v 8).take i++List.replicate (8 - i) (0:UInt8)))[i]? =some c0:=⟨_,Sn (Az (by omega))⟩;have hs:((be v 8).take i++List.replicate (8 - i) (0:UInt8)).set i (UInt8.ofNat (v / 256 ^ (7 - i) % 256).toNat)=(be v 8).take (i+1)++List.replicate (8 - (i+1)) 0:=by rw [Cl,hb i hi,ix _ _ (by rw [Ar,Ec];omega),Ar,Ec,show i - min i 8=0 by omega];obtain ⟨m,hm⟩:∃m,8 - i=m+1:=⟨7 - i,by omega⟩;rw [hm,show 8 - (i+1)=m by omega];simp [List.replicate_succ]
   have hsh:bin .shr (.i .u64 v) (.i .i64 (56 - 8*(i:Int)))=some (.i .u64 (v / 256 ^ (7 - i))):=by
    have:=By3 .u64 .i64 v (56 - 8*i) (show 56 - 8*i<64 by omega);have e:((56 - 8*i:Nat):Int)=56 - 8*(i:Int):=by omega
    rw [e] at this;rw [this];have:i=0∨i=1∨i=2∨i=3∨i=4∨i=5∨i=6∨i=7:=by omega
    rcases this with rfl|rfl|rfl|rfl|rfl|rfl|rfl|rfl<;>rfl
   have hlt:(i:Int)<8:=by omega
   have ei:(i:Int).toNat=i:=by omega
   generalize v / 256 ^ (7 - i)=w at*;have hset:=ab ((be v 8).take i++List.replicate (8 - i) (0:UInt8)) .i64 (i:Int) (w % 256) (by omega) (by omega) (by omega) (by omega);rw [ei,hs] at hset;generalize (be v 8).take (i+1)++List.replicate (8 - (i+1)) 0=L' at*;generalize (be v 8).take i++List.replicate (8 - i) (0:UInt8)=L at*;have hlt':(i:Int)<((Cw Z).length:Int):=by rw [h8];omega
   simp (disch:=omega) only [Bq6,hr,hlt',hsh,Ol,ei,hg,hset,EVC,xe,EVP,EV,simprocAttr]
  ·refine ⟨?_,rfl⟩;have hlt:¬((8:Nat):Int)<((Cw Z).length:Int):=by rw [h8];omega
   have e:(be v 8).take 8++List.replicate (8 - 8) (0:UInt8)=be v 8:=by rw [Dh (by rw [Ec];omega)];simp
   rw [e];simp (disch:=omega) only [Bq6,hr,hlt,EVC,xe,EVP,EV,simprocAttr]
 simp (disch:=omega) only [Bq6,hr,key,EVC,xe,EVP,EV,simprocAttr]
theorem Ab0 (d:Dat) (h:d.wf):S cp 1 [J1 d]=some (if D7 d=true then [.s (Qv d), .i .i64 0] else [.s [], .i .i64 3]):=by
 refine Hl8 (N:=1) rfl ?_;have h1:=Cm d;have h2:=Ay9 d.hi h.hi.1 h.hi.2;have h3:=Ay9 d.lo h.lo.1 h.lo.2;have l3:(Cw (be d.lo 8)).length=8:=by rw [Dc4,Ec]
 have ls:Ix 1 (.l 1 (Cw (be d.lo 8))) (.i .i64 4) (.i .i64 ((Cw (be d.lo 8)).length:Int))=some (.l 1 (Cw (be d.lo 4))):=by rw [Bt5 _ _ _ _ _ _ (by decide) (by rw [l3];decide) (Js6 _)];have:(Cw (be d.lo 8)).take (Cw (be d.lo 8)).length=Cw (be d.lo 8):=Dq;simp only [G4,this];rfl
 have b1:=Ec d.hi 8;have b2:=Ec d.lo 8;unfold Qv;rcases Ak (D7 d) with h4|h4
 ·rcases Ak d.v6 with h5|h5
  ·simp (disch:=omega) only [Bq9,h1,h2,h3,h4,h5,EVC,xe,EVP,EV,simprocAttr]
  ·simp (disch:=omega) only [Bq9,h1,h2,h3,h4,h5,ls,EVC,xe,EVP,EV,simprocAttr]
 ·simp (disch:=omega) only [Bq9,h1,h4,EVC,xe,EVP,EV,simprocAttr]
theorem wk (n:List UInt8) (hn:n.length≤9223372036854775807):S Ut 1 [.s n]=some [.s (It n)]:=by
 refine Hl9 (N:=256) rfl ?_;have h0:=Pd n hn;have hlen:=G8 n;have hw:∀i,(wireL ((lbl n).take i)).length≤64*254:=fun i=>by have h1:=Rq ((lbl n).take i) (fun x hx=>Xt n x (Gb hx));rw [Ar] at h1;omega
 have key:Cq6.ev S 256 [.s n,Bd (lbl n)]=some (.yld 0 [.s (wireL (lbl n))]):=by
  refine Ew (lbl n) (fun i=>[.s (wireL ((lbl n).take i)), .i .i64 (i:Int)]) (fun i r=> .yld 0 [.s (wireL (lbl n))]) rfl (by omega) (fun i c r hd hi hc=> ?_) ?_
  ·left;have hl:=ep (Xt n c (A9 hc));have h1:=hw i;have h2:=hw (i+1);have e:wireL ((lbl n).take (i+1))=wireL ((lbl n).take i)++(be (c.length:Int) 1++c):=by rw [Cl,hc];simp [wireL]
   have e0:((c.length:Int) / 256 ^ 0 % 256).toNat=c.length:=by rw [Int.pow_zero,Int.ediv_one];omega
   have e2:be (c.length:Int) 1=[UInt8.ofNat c.length]:=by show [UInt8.ofNat ((c.length:Int) / 256 ^ 0 % 256).toNat]=_;rw [e0]
   have e3:Cw [UInt8.ofNat c.length]=[.i .u8 (c.length:Int)]:=by simp [Cw];omega
   have e4:=Lg [UInt8.ofNat c.length];rw [e3] at e4;have e5:(c.length:Int) % 256=(c.length:Int):=by omega
   refine ⟨?_,rfl⟩;rw [e,e2];generalize wireL ((lbl n).take i)=a at*;have hl2:([UInt8.ofNat c.length]++c).length≤64:=by simp;omega
   have hl3:([UInt8.ofNat c.length]:List UInt8).length=1:=rfl;generalize ([UInt8.ofNat c.length]:List UInt8)=b at*;simp (disch:=omega) only [Bv0,hc,Ol,e5,e4,EVC,xe,EVP,EV,simprocAttr]
  ·have e:(lbl n).take (lbl n).length=lbl n:=Dq;simp (disch:=omega) only [Bv0,e,EVC,xe,EVP,EV,simprocAttr];simp [Out.goes]
 have h3:=hw (lbl n).length;rw [Dq] at h3;have e:It n=wireL (lbl n)++[0]:=rfl;rw [e];generalize wireL (lbl n)=a at*;simp (disch:=first|omega|(simp only [A3,Bf];omega)) only [Bv0,h0,key,EVC,xe,EVP,EV,simprocAttr]
end Go.X.G
