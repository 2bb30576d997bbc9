/- Questions and messages. -/
import Derived.Test.YtfkfaliipkpcdaaGreatDoorLookupNothingG10
import Derived.Test.YtfkfaliipkpcdaaGreatDoorLookupNothingG9
open Bool renaming eq_false_or_eq_true→Aq,and_eq_true→Aw,false_eq_true→Ad,or_eq_true→Ap,not_eq_true'→A8,eq_iff_iff→Cn,not_eq_false→Fc,not_true→J9,false_or→Kj,and_true→Of,true_and→Gg2
open Classical renaming not_not→Is
open Int renaming toNat_natCast→Gr
open List renaming getElem?_eq_some_iff→Av,getElem?_eq_getElem→Az,length_append→Ac,mem_cons→Am,length_take→An,append_assoc→As,getElem?_append_right→A0,length_cons→A3,pairwise_cons→A5,getElem?_drop→A6,mem_of_getElem?→Bq,length_pos_iff→Bv,all_eq_true→Bc,length_nil→Bd,getElem?_map→Bf,take_append_drop→Bl,mem_append_right→Bm,mem_filter→Bp,mem_append→B0,length_drop→B3,any_eq_true→B5,take_add_one→Ck,mem_append_left→Cv,drop_eq_getElem_cons→Cd,drop_drop→Ch,nil_append→Cm,getElem?_of_mem→C4,take_length→C7,getElem_mem→Dx,append_nil→Dm,take_of_length_le→Dn,filter_append→Dp,mem_map→D3,length_filter_le→Ec,suffix_iff_eq_drop→En,pairwise_append→Et,isSuffixOf_iff_suffix→E2,length_map→E8,exists_mem_of_ne_nil→Fy,map_cons→Ft,getLast_eq_getElem→Im,flatMap_cons→Ir,drop_of_length_le→Jg,set_append_right→Lc,cons_prefix_cons→Ld,drop_set_of_lt→Qd,length_mergeSort→fc,getElem_take→nn,take_left→Af9,map_mergeSort→Ik5,findIdx?_cons→Ik6
open Nat renaming le_refl→Af,zero_le→Cr,le_trans→C6,add_zero→Dq,zero_add→Dc,min_eq_left→I8,add_sub_cancel→Kl
open Option renaming bind_some→Ay,map_some→A4,getD_some→Cf
open Option.some renaming injEq→Ak
set_option maxHeartbeats 1000000
set_option linter.unusedVariables false
set_option linter.unusedSimpArgs false
namespace Go.X
open Go
structure Ques where
 name:List UInt8
 typ:Int
 deriving DecidableEq
structure Msg where
 id:Int
 op:Int
 code:Int
 resp:Bool
 aa:Bool
 tc:Bool
 rd:Bool
 ra:Bool
 ad:Bool
 cd:Bool
 dok:Bool
 size:Int
 q:Ques
 ans:List Rec
 auth:List Rec
 ext:List Rec
 deriving DecidableEq
structure Ques.wf (x:Ques):Prop where
 name:Yx x.name
 typ:fx x.typ
structure Msg.wf (m:Msg):Prop where
 id:fx m.id
 op:fx m.op
 code:fx m.code
 size:fx m.size
 q:m.q.wf
 ans:Ar8 m.ans
 auth:Ar8 m.auth
 ext:Ar8 m.ext
def Ques.cells (x:Ques):List PV:=[.s x.name, .i .i64 x.typ]
def Ques.pv (x:Ques):PV:= .a x.cells
def Msg.cells (m:Msg):List PV:= .i .i64 m.id:: .i .i64 m.op:: .i .i64 m.code:: .b m.resp:: .b m.aa:: .b m.tc:: .b m.rd:: .b m.ra:: .b m.ad:: .b m.cd:: .b m.dok:: .i .i64 m.size:: .s m.q.name:: .i .i64 m.q.typ::Ah m.ans::Ah m.auth::Ah m.ext::[]
def Msg.pv (m:Msg):PV:= .a m.cells
def shQ:Sh:= .st [.s, .i .i64]
theorem Fp1 {cs:List PV} (h:shQ.okC cs):∃q:Ques,q.wf∧cs=q.cells:=by obtain ⟨a0,r0,rfl,h0,h⟩:=Dw (Z8 h);obtain ⟨a1,r1,rfl,h1,h⟩:=Dw h;obtain rfl:=Nh h;obtain ⟨x0,rfl,k0⟩:=Ax3 h0;obtain ⟨x1,rfl,k1⟩:=Jr h1;exact ⟨⟨x0,x1⟩,⟨k0,k1⟩,rfl⟩
theorem If1 {p:PV} (h:shQ.ok p):∃q:Ques,q.wf∧p=q.pv:=by obtain ⟨ds,rfl,h⟩:∃ds,p= .a ds∧shQ.okC ds:=h;obtain ⟨r,hr,rfl⟩:=Fp1 h;exact ⟨r,hr,rfl⟩
theorem Bv9 (m:Msg):Br 0 m.pv=some (.i .i64 m.id):=rfl
theorem Bv8 (m:Msg):Br 1 m.pv=some (.i .i64 m.op):=rfl
theorem Bv7 (m:Msg):Br 2 m.pv=some (.i .i64 m.code):=rfl
theorem Bv6 (m:Msg):Br 3 m.pv=some (.b m.resp):=rfl
theorem Bv5 (m:Msg):Br 4 m.pv=some (.b m.aa):=rfl
theorem Bv4 (m:Msg):Br 5 m.pv=some (.b m.tc):=rfl
theorem Bv3 (m:Msg):Br 6 m.pv=some (.b m.rd):=rfl
theorem Bv2 (m:Msg):Br 7 m.pv=some (.b m.ra):=rfl
theorem Bv1 (m:Msg):Br 8 m.pv=some (.b m.ad):=rfl
theorem Bv0 (m:Msg):Br 9 m.pv=some (.b m.cd):=rfl
theorem Aw3 (m:Msg):Br 10 m.pv=some (.b m.dok):=rfl
theorem Aw2 (m:Msg):Br 11 m.pv=some (.i .i64 m.size):=rfl
theorem Aw1 (m:Msg):Br 12 m.pv=some (.s m.q.name):=rfl
theorem Aw0 (m:Msg):Br 13 m.pv=some (.i .i64 m.q.typ):=rfl
theorem Av9 (m:Msg):Br 14 m.pv=some (Ah m.ans):=rfl
theorem Av8 (m:Msg):Br 15 m.pv=some (Ah m.auth):=rfl
theorem Av7 (m:Msg):Br 16 m.pv=some (Ah m.ext):=rfl
theorem Fh9 (m:Msg):Jj 0 17 m.pv=some m.pv:=rfl
theorem Ft8 (m:Msg):Qw 17 m.pv=some m.pv:=rfl
theorem An1 (m:Msg):Jj 12 2 m.pv=some m.q.pv:=rfl
theorem Iw8 (x:Ques):Jj 0 2 x.pv=some x.pv:=rfl
theorem In4 (x:Ques):Qw 2 x.pv=some x.pv:=rfl
theorem Fn1 (x:Ques):Br 0 x.pv=some (.s x.name):=rfl
theorem Fn0 (x:Ques):Br 1 x.pv=some (.i .i64 x.typ):=rfl
theorem Hl6 (n:List UInt8) (t:Int):PV.a [.s n, .i .i64 t]=Ques.pv ⟨n,t⟩:=rfl
theorem In8 (x:Ques):(⟨x.name,x.typ⟩:Ques)=x:=rfl
theorem Eq1 (x0 x1 x2:Int) (b0 b1 b2 b3 b4 b5 b6 b7:Bool) (x3:Int) (n:List UInt8) (t:Int) (l0 l1 l2:List Rec):PV.a [.i .i64 x0, .i .i64 x1, .i .i64 x2, .b b0, .b b1, .b b2, .b b3, .b b4, .b b5, .b b6, .b b7, .i .i64 x3, .s n, .i .i64 t,Ah l0,Ah l1,Ah l2]=Msg.pv ⟨x0,x1,x2,b0,b1,b2,b3,b4,b5,b6,b7,x3,⟨n,t⟩,l0,l1,l2⟩:=rfl
theorem Is8 (neg:Bool) (x y:Ques):Kh neg true [.s,(.i .i64)] x.pv y.pv=some (.b (if neg then decide (x≠y) else decide (x=y))):=by
 have:Gx [.s,(.i .i64)] x.cells y.cells=some (decide (x=y)):=by simp only [Ques.cells,Gx,Db1,if_true,Ak];rw [Cn];cases x;cases y;simp
 simp only [Kh,Ques.pv,this,A4];cases neg<;>simp
set_option linter.defProp false in
def EVM:=(And.intro @Bv9 (And.intro @Bv8 (And.intro @Bv7 (And.intro @Bv6 (And.intro @Bv5 (And.intro @Bv4 (And.intro @Bv3 (And.intro @Bv2 (And.intro @Bv1 (And.intro @Bv0 (And.intro @Aw3 (And.intro @Aw2 (And.intro @Aw1 (And.intro @Aw0 (And.intro @Av9 (And.intro @Av8 (And.intro @Av7 (And.intro @Fh9 (And.intro @Ft8 (And.intro @An1 (And.intro @Iw8 (And.intro @In4 (And.intro @Fn1 (And.intro @Fn0 (And.intro @Hl6 (And.intro @In8 (And.intro @Eq1 @Is8)))))))))))))))))))))))))))
end Go.X
/- Closures and sets of strings, evaluated. -/
namespace Go.X
open Go
def Ik0 (fn:Fns) (η:List PV) (fl:Bool) (ar:List E) (m:Nat):PV→Option (List PV)
 | .f f caps=>(E.evs η ar).bind fun vs=>results fl m η (fn f vs.length (vs++caps))
 |_=>none
theorem oy {fn:Fns} {η:List PV} (fl:Bool) (c:E) (ar:List E) (m:Nat):W.ev fn η (.clo none fl c ar m)=(c.ev η).bind (Ik0 fn η fl ar m):=by
 rw [Fg4];congr 1;funext q;cases q with
 |f f caps=>rfl
 |_=>cases h:E.evs η ar<;>rfl
theorem Hr7 {fn:Fns} {η:List PV} (fl:Bool) (ar:List E) (m:Nat) (f:Nat) (caps:List PV):Ik0 fn η fl ar m (.f f caps)=(E.evs η ar).bind fun vs=>results fl m η (fn f vs.length (vs++caps)):=rfl
theorem Hw7 (f:Nat) (caps:List PV):Br 0 (.f f caps)=some (.f f caps):=rfl
theorem Gr3 (f:Nat) (caps:List PV):Ix (.f f caps)=some (.f f caps):=rfl
def Mk (ks:List (List UInt8)):PV:= .m (ks.map fun k=>(.s k, .b true))
theorem Fm2:PV.m []=Mk []:=rfl
theorem Dp8 (ks:List (List UInt8)):Br 0 (Mk ks)=some (Mk ks):=rfl
theorem Dn1 (ks:List (List UInt8)):Ix (Mk ks)=some (Mk ks):=rfl
theorem cm (k:List UInt8):∀ks:List (List UInt8),W3 (.s k) (ks.map fun k=>(.s k, .b true))=some (if k∈ks then some (.b true) else none)
 |[]=>by simp [W3]
 |x::ks=>by
  simp only [Ft,W3,c6];by_cases h:k=x
  ·subst h;simp
  ·have h2:(k==x)=false:=by simpa using h
   rw [h2];simp only [cm k ks,Am,h,false_or]
theorem uq (k:List UInt8):∀ks:List (List UInt8),Ed4 (.s k) (.b true) (ks.map fun k=>(.s k, .b true))=some ((if k∈ks then ks else ks++[k]).map fun k=>(.s k, .b true))
 |[]=>by simp [Ed4]
 |x::ks=>by
  simp only [Ft,Ed4,c6];by_cases h:k=x
  ·subst h;simp
  ·have h2:(k==x)=false:=by simpa using h
   rw [h2];simp only [uq k ks,Am,h,false_or,A4];by_cases h3:k∈ks<;>simp [h3]
theorem Dt2 (k:List UInt8) (ks:List (List UInt8)):cg (Mk ks) (.s k) (.b false)=some (.b (decide (k∈ks))):=by simp only [cg,Mk,Bl5,if_true,cm,A4];by_cases h:k∈ks<;>simp [h]
theorem Dt1 (k:List UInt8) (ks:List (List UInt8)):cw (Mk ks) (.s k) (.b true)=some (Mk (if k∈ks then ks else ks++[k])):=by simp only [cw,Mk,Bl5,if_true,uq,A4]
theorem Bd6 (a b:List Rec):J2 1 [Ah a,Ah b]=some (.l 1 ([a,b].map Ah)):=rfl
def Hr6 (fn:Fns) (η:List PV) (fl:Bool) (c:E) (ar:List E) (m:Nat):PV→Option (List PV)
 | .b true=>(c.ev η).bind (Ik0 fn η fl ar m)
 | .b false=>some (η++List.replicate m .u)
 |_=>none
theorem It {fn:Fns} {η:List PV} (g:E) (fl:Bool) (c:E) (ar:List E) (m:Nat):W.ev fn η (.clo (some g) fl c ar m)=(g.ev η).bind (Hr6 fn η fl c ar m):=by
 have h:=oy (fn:=fn) (η:=η) fl c ar m;simp only [W.ev,Eh] at h ⊢;congr 1;funext q;cases q with
 |b x=>cases x with
  |true=>exact h
  |false=>rfl
 |_=>rfl
theorem Lw (fn:Fns) (η:List PV) (fl:Bool) (c:E) (ar:List E) (m:Nat) (x:Bool):Hr6 fn η fl c ar m (.b x)=if x=true then (c.ev η).bind (Ik0 fn η fl ar m) else some (η++List.replicate m .u):=by cases x<;>rfl
set_option linter.defProp false in
def EVC:=(And.intro @oy (And.intro @Hr7 (And.intro @Hw7 (And.intro @Gr3 (And.intro @Fm2 (And.intro @Dp8 (And.intro @Dn1 (And.intro @Dt2 (And.intro @Dt1 @Bd6)))))))))
end Go.X
/- Addresses and tasks. -/
namespace Go.X
structure Adr where
 v6:Bool
 hi:Int
 lo:Int
 deriving DecidableEq
structure Tk where
 q:Ques
 name:List UInt8
 zone:List UInt8
 hosts:List (List UInt8)
 addrs:List Adr
 tried:List Adr
 state:Int
 more:Int
 dst:Adr
 asked:Ques
 sent:Int
 chain:List Rec
 last:Msg
 err:Int
def Adr.pv (x:Adr):PV:= .a [.b x.v6, .i .u64 x.hi, .i .u64 x.lo]
def E6 (l:List Adr):PV:= .l 3 (l.map Adr.pv)
def Dat.adr (d:Dat):Adr:=⟨d.v6,d.hi,d.lo⟩
def Tk.cells (t:Tk):List PV:=[.s t.q.name, .i .i64 t.q.typ, .s t.name, .s t.zone,Bn t.hosts,E6 t.addrs,E6 t.tried, .i .i64 t.state, .i .i64 t.more, .b t.dst.v6, .i .u64 t.dst.hi, .i .u64 t.dst.lo, .s t.asked.name, .i .i64 t.asked.typ, .i .i64 t.sent,Ah t.chain, .i .i64 t.last.id, .i .i64 t.last.op, .i .i64 t.last.code, .b t.last.resp, .b t.last.aa, .b t.last.tc, .b t.last.rd, .b t.last.ra, .b t.last.ad, .b t.last.cd, .b t.last.dok, .i .i64 t.last.size, .s t.last.q.name, .i .i64 t.last.q.typ,Ah t.last.ans,Ah t.last.auth,Ah t.last.ext, .i .i64 t.err]
def Tk.pv (t:Tk):PV:= .a t.cells
theorem Dp7 (t:Tk):Br 0 t.pv=some (.s t.q.name):=rfl
theorem Dp6 (t:Tk):Br 1 t.pv=some (.i .i64 t.q.typ):=rfl
theorem Dp5 (t:Tk):Br 2 t.pv=some (.s t.name):=rfl
theorem Dp4 (t:Tk):Br 3 t.pv=some (.s t.zone):=rfl
theorem Dp3 (t:Tk):Br 4 t.pv=some (Bn t.hosts):=rfl
theorem Dp2 (t:Tk):Br 5 t.pv=some (E6 t.addrs):=rfl
theorem Dp1 (t:Tk):Br 6 t.pv=some (E6 t.tried):=rfl
theorem Dp0 (t:Tk):Br 7 t.pv=some (.i .i64 t.state):=rfl
theorem Dn9 (t:Tk):Br 8 t.pv=some (.i .i64 t.more):=rfl
theorem Dn8 (t:Tk):Br 9 t.pv=some (.b t.dst.v6):=rfl
theorem Bk1 (t:Tk):Br 10 t.pv=some (.i .u64 t.dst.hi):=rfl
theorem Bk0 (t:Tk):Br 11 t.pv=some (.i .u64 t.dst.lo):=rfl
theorem Bj9 (t:Tk):Br 12 t.pv=some (.s t.asked.name):=rfl
theorem Bj8 (t:Tk):Br 13 t.pv=some (.i .i64 t.asked.typ):=rfl
theorem Bj7 (t:Tk):Br 14 t.pv=some (.i .i64 t.sent):=rfl
theorem Bj6 (t:Tk):Br 15 t.pv=some (Ah t.chain):=rfl
theorem Bj5 (t:Tk):Br 16 t.pv=some (.i .i64 t.last.id):=rfl
theorem Bj4 (t:Tk):Br 17 t.pv=some (.i .i64 t.last.op):=rfl
theorem Bj3 (t:Tk):Br 18 t.pv=some (.i .i64 t.last.code):=rfl
theorem Bj2 (t:Tk):Br 19 t.pv=some (.b t.last.resp):=rfl
theorem Bj1 (t:Tk):Br 20 t.pv=some (.b t.last.aa):=rfl
theorem Bj0 (t:Tk):Br 21 t.pv=some (.b t.last.tc):=rfl
theorem At9 (t:Tk):Br 22 t.pv=some (.b t.last.rd):=rfl
theorem At8 (t:Tk):Br 23 t.pv=some (.b t.last.ra):=rfl
theorem At7 (t:Tk):Br 24 t.pv=some (.b t.last.ad):=rfl
theorem At6 (t:Tk):Br 25 t.pv=some (.b t.last.cd):=rfl
theorem At5 (t:Tk):Br 26 t.pv=some (.b t.last.dok):=rfl
theorem At4 (t:Tk):Br 27 t.pv=some (.i .i64 t.last.size):=rfl
theorem At3 (t:Tk):Br 28 t.pv=some (.s t.last.q.name):=rfl
theorem At2 (t:Tk):Br 29 t.pv=some (.i .i64 t.last.q.typ):=rfl
theorem At1 (t:Tk):Br 30 t.pv=some (Ah t.last.ans):=rfl
theorem At0 (t:Tk):Br 31 t.pv=some (Ah t.last.auth):=rfl
theorem As9 (t:Tk):Br 32 t.pv=some (Ah t.last.ext):=rfl
theorem As8 (t:Tk):Br 33 t.pv=some (.i .i64 t.err):=rfl
theorem Gp0 (t:Tk):Jj 0 34 t.pv=some t.pv:=rfl
theorem Hm1 (t:Tk):Qw 34 t.pv=some t.pv:=rfl
theorem Aj2 (t:Tk):Jj 9 3 t.pv=some t.dst.pv:=rfl
theorem Y8 (t:Tk):Jj 12 2 t.pv=some t.asked.pv:=rfl
theorem Dl8 (t:Tk):Jj 0 2 t.pv=some t.q.pv:=rfl
theorem gf (t:Tk):Jj 16 17 t.pv=some t.last.pv:=rfl
theorem Ft4 (x0:List UInt8) (x1:Int) (x2:List UInt8) (x3:List UInt8) (x4:List (List UInt8)) (x5:List Adr) (x6:List Adr) (x7:Int) (x8:Int) (x9:Bool) (x10:Int) (x11:Int) (x12:List UInt8) (x13:Int) (x14:Int) (x15:List Rec) (x16:Int) (x17:Int) (x18:Int) (x19:Bool) (x20:Bool) (x21:Bool) (x22:Bool) (x23:Bool) (x24:Bool) (x25:Bool) (x26:Bool) (x27:Int) (x28:List UInt8) (x29:Int) (x30:List Rec) (x31:List Rec) (x32:List Rec) (x33:Int):PV.a [.s x0, .i .i64 x1, .s x2, .s x3,Bn x4,E6 x5,E6 x6, .i .i64 x7, .i .i64 x8, .b x9, .i .u64 x10, .i .u64 x11, .s x12, .i .i64 x13, .i .i64 x14,Ah x15, .i .i64 x16, .i .i64 x17, .i .i64 x18, .b x19, .b x20, .b x21, .b x22, .b x23, .b x24, .b x25, .b x26, .i .i64 x27, .s x28, .i .i64 x29,Ah x30,Ah x31,Ah x32, .i .i64 x33]=Tk.pv ⟨⟨x0,x1⟩,x2,x3,x4,x5,x6,x7,x8,⟨x9,x10,x11⟩,⟨x12,x13⟩,x14,x15,⟨x16,x17,x18,x19,x20,x21,x22,x23,x24,x25,x26,x27,⟨x28,x29⟩,x30,x31,x32⟩,x33⟩:=rfl
theorem Hp0 (t:Tk):(⟨t.q,t.name,t.zone,t.hosts,t.addrs,t.tried,t.state,t.more,t.dst,t.asked,t.sent,t.chain,t.last,t.err⟩:Tk)=t:=rfl
theorem Gk3 (m:Msg):(⟨m.id,m.op,m.code,m.resp,m.aa,m.tc,m.rd,m.ra,m.ad,m.cd,m.dok,m.size,m.q,m.ans,m.auth,m.ext⟩:Msg)=m:=rfl
theorem Gk4 (x:Adr):(⟨x.v6,x.hi,x.lo⟩:Adr)=x:=rfl
theorem Ht4 (d:Dat):Jd d=d.adr.pv:=rfl
theorem Eq2 (v:Bool) (h l:Int):PV.a [.b v, .i .u64 h, .i .u64 l]=Adr.pv ⟨v,h,l⟩:=rfl
theorem Gd5 (d:Dat):(⟨d.v6,d.hi,d.lo⟩:Adr)=d.adr:=rfl
theorem Fl1 (x:Adr):Jj 0 3 x.pv=some x.pv:=rfl
theorem Gj0 (x:Adr):Qw 3 x.pv=some x.pv:=rfl
theorem Bx3 (x:Adr):Br 0 x.pv=some (.b x.v6):=rfl
theorem Bx2 (x:Adr):Br 1 x.pv=some (.i .u64 x.hi):=rfl
theorem Bx1 (x:Adr):Br 2 x.pv=some (.i .u64 x.lo):=rfl
theorem Eq5 (x:Adr):PV.flat x.pv=true:=rfl
theorem Ey3:PV.l 3 []=E6 []:=rfl
theorem Fs2 (x:Adr):J2 3 [x.pv]=some (E6 [x]):=rfl
theorem Ap7 (l:List Adr):Ix (E6 l)=some (E6 l):=rfl
theorem Bx0 (l:List Adr):Br 0 (E6 l)=some (E6 l):=rfl
theorem Hl8 (x:Ques):PV.flat x.pv=true:=rfl
theorem Gp9 (n:Int):Ix (.i .u64 n)=some (.i .u64 n):=rfl
theorem Hw4 (n:Int):Br 0 (.i .u64 n)=some (.i .u64 n):=rfl
theorem Ej0 (l:List Adr):Gw (E6 l)=some (.i .i64 (l.length:Int)):=by simp [E6,Gw]
theorem Ek3 (l:List Adr) (k:IntKind) (z:Int) (h:0≤z):Hj 3 (E6 l) (.i k z)=(l[z.toNat]?).map Adr.pv:=by simp [E6,dq _ _ _ _ h]
theorem Dy4 (l:List Adr) (x:Adr) (h:l.length+1≤1073741824):H4 3 (E6 l) (E6 [x])=some (E6 (l++[x])):=by have:=Tp 3 (l.map Adr.pv) ([x].map Adr.pv) (by simpa using h);simpa [E6] using this
theorem Ey2 (l m:List Adr) (h:l.length+m.length≤1073741824):H4 3 (E6 l) (E6 m)=some (E6 (l++m)):=by have:=Tp 3 (l.map Adr.pv) (m.map Adr.pv) (by simpa using h);simpa [E6] using this
theorem Dt4 (l:List Adr) (k k':IntKind) (a b:Int) (h1:0≤a) (h2:a≤b) (h3:b≤(l.length:Int)):G0 3 (E6 l) (.i k a) (.i k' b)=some (E6 ((l.take b.toNat).drop a.toNat)):=by have:=Bd3 3 (l.map Adr.pv) k k' a b h1 h2 (by simpa using h3);simpa [E6,List.map_take,List.map_drop] using this
theorem Hp4 (neg:Bool) (x y:Adr):Kh neg true [.b,(.i .u64),(.i .u64)] x.pv y.pv=some (.b (if neg then decide (x≠y) else decide (x=y))):=by
 have:Gx [.b,(.i .u64),(.i .u64)] [.b x.v6, .i .u64 x.hi, .i .u64 x.lo] [.b y.v6, .i .u64 y.hi, .i .u64 y.lo]=some (decide (x=y)):=by simp only [Gx,Db1,if_true,Ak];rw [Cn];cases x;cases y;simp
 simp only [Kh,Adr.pv,this,A4];cases neg<;>simp
set_option linter.defProp false in
def EVT:=(And.intro @Dp7 (And.intro @Dp6 (And.intro @Dp5 (And.intro @Dp4 (And.intro @Dp3 (And.intro @Dp2 (And.intro @Dp1 (And.intro @Dp0 (And.intro @Dn9 (And.intro @Dn8 (And.intro @Bk1 (And.intro @Bk0 (And.intro @Bj9 (And.intro @Bj8 (And.intro @Bj7 (And.intro @Bj6 (And.intro @Bj5 (And.intro @Bj4 (And.intro @Bj3 (And.intro @Bj2 (And.intro @Bj1 (And.intro @Bj0 (And.intro @At9 (And.intro @At8 (And.intro @At7 (And.intro @At6 (And.intro @At5 (And.intro @At4 (And.intro @At3 (And.intro @At2 (And.intro @At1 (And.intro @At0 (And.intro @As9 (And.intro @As8 (And.intro @Gp0 (And.intro @Hm1 (And.intro @Aj2 (And.intro @Y8 (And.intro @Dl8 (And.intro @gf (And.intro @Ft4 (And.intro @Hp0 (And.intro @Gk3 (And.intro @Gk4 (And.intro @Ht4 (And.intro @Eq2 (And.intro @Gd5 (And.intro @Fl1 (And.intro @Gj0 (And.intro @Bx3 (And.intro @Bx2 (And.intro @Bx1 (And.intro @Eq5 (And.intro @Ey3 (And.intro @Fs2 (And.intro @Ap7 (And.intro @Bx0 (And.intro @Hl8 (And.intro @Gp9 (And.intro @Hw4 (And.intro @Ej0 (And.intro @Ek3 (And.intro @Dy4 (And.intro @Ey2 (And.intro @Dt4 @Hp4)))))))))))))))))))))))))))))))))))))))))))))))))))))))))))))))))
end Go.X
/- Functions of the package slices, for texts, records and addresses. -/
namespace Go.X.G
open Go Go.X
theorem Dy9 (l:List (List UInt8)) (x:List UInt8) (hl:l.length≤1000000):∃k:Int,(0≤k↔x∈l)∧S Bz1 2 [Bn l, .s x]=some [.i .i64 k]:=by
 have go:∀(i:Nat) (l:List (List UInt8)),∃k:Int,k=(match l.findIdx? (·=x) with|some j=>((i+j:Nat):Int)|none=> -1)∧(0≤k↔x∈l):=by
  intro i l;refine ⟨_,rfl,?_⟩;cases h:l.findIdx? (·=x) with
  |none=>
   rw [List.findIdx?_eq_none_iff] at h;simp only;constructor
   ·intro h2;omega
   ·intro h2;have:=h x h2;simp at this
  |some j=>
   simp only;constructor
   ·intro _;rw [List.findIdx?_eq_some_iff_getElem] at h;obtain ⟨h1,h2,_⟩:=h;simp at h2;rw [←h2];exact Dx _
   ·intro _;omega
 obtain ⟨k,hk,hk2⟩:=go 0 l;refine ⟨k,hk2,?_⟩;refine Iy8 (N:=l.length+1) rfl ?_;have key:Ef1.ev S (l.length+1) [Bn l, .s x]=some (match l.findIdx? (·=x) with|some j=> .ret [.i .i64 ((0+j:Nat):Int)]|none=> .yld 0 []):=by
  refine F1 l (fun i=>[.i .i64 (i:Int)]) (fun i r=>match r.findIdx? (·=x) with|some j=> .ret [.i .i64 ((i+j:Nat):Int)]|none=> .yld 0 []) rfl (by omega) (fun i c r hd hi hc=> ?_) ?_
  ·by_cases h:x=c
   ·right;simp (disch:=omega) only [Ag9,hc,h,EVM,EVC,xe,EVP,EV,simprocAttr];simp [Ik6,Out.goes]
   ·left;have h':¬c=x:=fun e=>h e.symm;simp (disch:=omega) only [Ag9,hc,h,EVM,EVC,xe,EVP,EV,simprocAttr];refine ⟨trivial,?_⟩;simp only [Ik6,h',decide_false,Ad,if_false];cases r.findIdx? (·=x) with
    |none=>rfl
    |some j=>simp;omega
  ·simp (disch:=omega) only [Ag9,EVM,EVC,xe,EVP,EV,simprocAttr];simp [Out.goes]
 rw [hk];cases h:l.findIdx? (·=x) with
 |none=>
  rw [h] at key;simp (disch:=omega) only [Ag9,key,EVM,EVC,xe,EVP,EV,simprocAttr]
 |some j=>
  rw [h] at key;simp (disch:=omega) only [Ag9,key,EVM,EVC,xe,EVP,EV,simprocAttr]
theorem P9 (l:List (List UInt8)) (x:List UInt8) (hl:l.length≤1000000):S i7 2 [Bn l, .s x]=some [.b (decide (x∈l))]:=by refine Ib8 (N:=1) rfl ?_;obtain ⟨k,h1,h2⟩:=Dy9 l x hl;simp (disch:=omega) only [Iq9,h2,EVM,EVC,xe,EVP,EV,simprocAttr];simp [h1]
def ixG {α:Type} (p:α→Bool) (k:Nat):List α→Int
 |[]=> -1
 |r::rs=>if p r=true then (k:Int) else ixG p (k+1) rs
theorem jd {α:Type} (p:α→Bool):∀(l:List α) (k:Nat),(0≤ixG p k l↔l.any p=true)∧ixG p k l≤k+l.length∧ -1≤ixG p k l
 |[],k=>by simp [ixG]
 |r::rs,k=>by
  have ih:=jd p rs (k+1);rcases Aq (p r) with h|h
  ·simp [ixG,h];omega
  ·simp only [ixG,h,List.any_cons,Kj,A3];refine ⟨by simpa using ih.1,?_,by simpa using ih.2.2⟩;have:=ih.2.1;simp only [Ad,if_false] at this ⊢;omega
theorem Yw (l:List (List UInt8)) (g:Nat) (caps:List PV) (p:List UInt8→Bool) (hl:l.length≤1000000) (h:∀r∈l,S g 1 (.s r::caps)=some [.b (p r)]):S bk 2 [Bn l, .f g caps]=some [.i .i64 (ixG p 0 l)]:=by
 refine Hj0 (N:=l.length+1) rfl ?_;have key:Bh3.ev S (l.length+1) [Bn l, .f g caps]=some (if ixG p 0 l= -1 then .yld 0 [] else .ret [.i .i64 (ixG p 0 l)]):=by
  refine F1 l (fun i=>[.i .i64 (i:Int)]) (fun i r=>if ixG p i r= -1 then .yld 0 [] else .ret [.i .i64 (ixG p i r)]) rfl (by omega) (fun i c r hd hi hc=> ?_) ?_
  ·have hp:=h c (Bq hc);rcases Aq (p c) with h1|h1
   ·rw [h1] at hp;right;have h2:¬((i:Int)= -1):=by omega
    simp (disch:=omega) only [Yp,hc,hp,EVT,EVC,xe,EVP,EV,simprocAttr];simp [ixG,h1,h2,Out.goes]
   ·rw [h1] at hp;left;simp (disch:=omega) only [Yp,hc,hp,EVT,EVC,xe,EVP,EV,simprocAttr];simp [ixG,h1]
  ·simp (disch:=omega) only [Yp,EVT,EVC,xe,EVP,EV,simprocAttr];simp [ixG,Out.goes]
 by_cases h1:ixG p 0 l= -1
 ·rw [if_pos h1] at key;simp (disch:=omega) only [Yp,key,h1,EVT,EVC,xe,EVP,EV,simprocAttr]
 ·rw [if_neg h1] at key;simp (disch:=omega) only [Yp,key,EVT,EVC,xe,EVP,EV,simprocAttr]
theorem Qb (l:List (List UInt8)) (g:Nat) (caps:List PV) (p:List UInt8→Bool) (hl:l.length≤1000000) (h:∀r∈l,S g 1 (.s r::caps)=some [.b (p r)]):S bl 2 [Bn l, .f g caps]=some [.b (l.any p)]:=by
 refine Hq2 (N:=1) rfl ?_;simp (disch:=omega) only [Gh9,Yw l g caps p hl h,EVC,xe,EVP,EV,simprocAttr];have:=(jd p l 0).1;rcases Aq (l.any p) with h1|h1
 ·rw [h1] at this ⊢;simp [this.2 rfl]
 ·rw [h1] at this ⊢;have h2:¬(0≤ixG p 0 l):=fun h=>by simpa using this.1 h
  simp [h2]
theorem fj (l:List Rec) (hl:l.length≤1000000):S Ax7 1 [Ah l]=some [Ah l]:=by
 refine Iy1 (N:=1) rfl ?_;have h0:H4 16 (Ah []) (Ah l)=some (Ah l):=by simpa using Q3 [] l (by simp;omega)
 simp (disch:=omega) only [Iq0,h0,EVT,EVC,xe,EVP,EV,simprocAttr]
theorem c7 {α:Type} (p:α→Bool):∀(l:List α) (k:Nat),0≤ixG p k l→∃j,ixG p k l=((k+j:Nat):Int)∧j<l.length∧(∀x∈l.take j,p x=false)∧∃x,l[j]? =some x∧p x=true
 |[],k,h=>by simp [ixG] at h
 |r::rs,k,h=>by
  rcases Aq (p r) with h1|h1
  ·exact ⟨0,by simp [ixG,h1],by simp,by simp,r,rfl,h1⟩
  ·have e:ixG p k (r::rs)=ixG p (k+1) rs:=by simp [ixG,h1]
   rw [e] at h ⊢;obtain ⟨j,g1,g2,g3,x,g4,g5⟩:=c7 p rs (k+1) h;refine ⟨j+1,by rw [g1];congr 1;omega,by simp;omega,fun y hy=> ?_,x,by simpa using g4,g5⟩;simp only [List.take_succ_cons,Am] at hy;rcases hy with rfl|hy
   ·exact h1
   ·exact g3 y hy
theorem Jb {α:Type} (p:α→Bool) {l:List α} (h:∀x∈l,p x=false):l.filter (fun x=> !p x)=l:=by rw [List.filter_eq_self];intro x hx;simp [h x hx]
def ixF (p:Rec→Bool) (k:Nat):List Rec→Int
 |[]=> -1
 |r::rs=>if p r=true then (k:Int) else ixF p (k+1) rs
theorem Bl6 (p:Rec→Bool):∀(l:List Rec) (k:Nat),(0≤ixF p k l↔l.any p=true)∧ixF p k l≤k+l.length∧ -1≤ixF p k l
 |[],k=>by simp [ixF]
 |r::rs,k=>by
  have ih:=Bl6 p rs (k+1);rcases Aq (p r) with h|h
  ·simp [ixF,h];omega
  ·simp only [ixF,h,List.any_cons,Kj,A3];refine ⟨by simpa using ih.1,?_,by simpa using ih.2.2⟩;have:=ih.2.1;simp only [Ad,if_false] at this ⊢;omega
theorem Ow (l:List Rec) (g:Nat) (caps:List PV) (p:Rec→Bool) (hl:l.length≤1000000) (h:∀r∈l,S g 1 (r.pv::caps)=some [.b (p r)]):S il 2 [Ah l, .f g caps]=some [.i .i64 (ixF p 0 l)]:=by
 refine Iy3 (N:=l.length+1) rfl ?_;have key:Ed9.ev S (l.length+1) [Ah l, .f g caps]=some (if ixF p 0 l= -1 then .yld 0 [] else .ret [.i .i64 (ixF p 0 l)]):=by
  refine F1 l (fun i=>[.i .i64 (i:Int)]) (fun i r=>if ixF p i r= -1 then .yld 0 [] else .ret [.i .i64 (ixF p i r)]) rfl (by omega) (fun i c r hd hi hc=> ?_) ?_
  ·have hp:=h c (Bq hc);rcases Aq (p c) with h1|h1
   ·rw [h1] at hp;right;have h2:¬((i:Int)= -1):=by omega
    simp (disch:=omega) only [Ag6,hc,hp,EVC,xe,EVP,EV,simprocAttr];simp [ixF,h1,h2,Out.goes]
   ·rw [h1] at hp;left;simp (disch:=omega) only [Ag6,hc,hp,EVC,xe,EVP,EV,simprocAttr];simp [ixF,h1]
  ·simp (disch:=omega) only [Ag6,EVC,xe,EVP,EV,simprocAttr];simp [ixF,Out.goes]
 by_cases h1:ixF p 0 l= -1
 ·rw [if_pos h1] at key;simp (disch:=omega) only [Ag6,key,h1,EVC,xe,EVP,EV,simprocAttr]
 ·rw [if_neg h1] at key;simp (disch:=omega) only [Ag6,key,EVC,xe,EVP,EV,simprocAttr]
theorem H0 (l:List Rec) (g:Nat) (caps:List PV) (p:Rec→Bool) (hl:l.length≤1000000) (h:∀r∈l,S g 1 (r.pv::caps)=some [.b (p r)]):S i6 2 [Ah l, .f g caps]=some [.b (l.any p)]:=by
 refine Ib5 (N:=1) rfl ?_;simp (disch:=omega) only [Iq8,Ow l g caps p hl h,EVC,xe,EVP,EV,simprocAttr];have:=(Bl6 p l 0).1;rcases Aq (l.any p) with h1|h1
 ·rw [h1] at this ⊢;simp [this.2 rfl]
 ·rw [h1] at this ⊢;have h2:¬(0≤ixF p 0 l):=fun h=>by simpa using this.1 h
  simp [h2]
end Go.X.G
/- Records that go out of a list. -/
namespace Go.X.G
open Go Go.X
theorem Zh {step:List PV→Option Out} {id:Nat} {α:Type} (st:α→List PV) (Q:Out→Prop) (I:α→Prop) (μ:α→Nat)
  (h:∀a,I a→(∃b,step (st a)=some (.yld id (st b))∧I b∧μ b<μ a)∨∃o,step (st a)=some o∧o.goes id=false∧Q o):
  ∀(n:Nat) (a:α),I a→μ a<n→∃o,F9 step id n (st a)=some o∧Q o
 |0,a,_,hn=>by omega
 |n+1,a,ha,hn=>by
  simp only [F9];rcases h a ha with ⟨b,h1,h2,h3⟩|⟨o,h1,h2,h3⟩
  ·rw [h1];simp only [Ay,if_true];exact Zh st Q I μ h n b h2 (by omega)
  ·rw [h1];refine ⟨o,?_,h3⟩;simp only [Ay];cases o with
   |ret vs=>rfl
   |yld j vs=>
    simp only [Out.goes,beq_eq_false_iff_ne,ne_eq] at h2;simp only [];rw [if_neg h2]
theorem G1 {fn:Fns} {N:Nat} {η:List PV} {id:Nat} {init:List E} {body:T} {α:Type} (st:α→List PV) (Q:Out→Prop) (I:α→Prop) (μ:α→Nat) (a0:α)
  (h0:E.evs η init=some (st a0)) (hI:I a0) (hN:μ a0<N)
  (h:∀a,I a→(∃b,body.ev fn N (η++st a)=some (.yld id (st b))∧I b∧μ b<μ a)∨∃o,body.ev fn N (η++st a)=some o∧o.goes id=false∧Q o):
  ∃o,(T.loop id init body).ev fn N η=some o∧Q o:=by
 simp only [T.ev,h0,Ay];exact Zh st Q I μ h N a0 hI hN
abbrev zr:Rec:=⟨[],0,0,⟨false,0,0,[],[],[],0,0,0,0,0,0,0⟩⟩
abbrev nr:PV:=Rec.pv ⟨[],0,0,⟨false,0,0,[],[],[],0,0,0,0,0,0,0⟩⟩
theorem Hl0 (p:Rec→Bool):∀(l:List Rec) (k:Nat),ixF p k l=ixG p k l
 |[],_=>rfl
 |r::rs,k=>by simp only [ixF,ixG,Hl0 p rs]
theorem Ts (l:List Rec) (g:Nat) (caps:List PV) (p:Rec→Bool) (hl:l.length≤1000000) (h:∀r∈l,S g 1 (r.pv::caps)=some [.b (p r)]):S il 2 [Ah l, .f g caps]=some [.i .i64 (ixG p 0 l)]:=by rw [←Hl0];exact Ow l g caps p hl h
theorem tv (n:Int) (h0:0≤n) (h1:n≤1073741824):Kg 16 (.i .i64 n) nr=some (Ah (List.replicate n.toNat zr)):=by
 have h2:n≤(LIM:Int):=by simp only [LIM];omega
 have h3:nr.cells.length=16:=rfl;simp only [Kg,h0,h2,h3,and_self,if_true];simp [Ah,Rec.pv,Rec.cells,Dat.cells]
theorem Ad5 (l:List Rec) (g:Nat) (caps:List PV) (p:Rec→Bool) (hl:l.length≤1000000) (h:∀r∈l,S g 1 (r.pv::caps)=some [.b (p r)]):S bh 1048578 [Ah l, .f g caps]=some [Ah (l.filter fun x=> !p x)]:=by
 refine Hk9 (N:=l.length+1) rfl ?_;have h0:=Ts l g caps p hl h;have hany:=(jd p l 0);by_cases hneg:ixG p 0 l= -1
 ·have hf:l.any p=false:=by
   rcases Aq (l.any p) with h1|h1
   ·have:=hany.1.2 h1;omega
   ·exact h1
  have e:l.filter (fun x=> !p x)=l:=Jb p (fun x hx=>by rw [List.any_eq_false] at hf;simpa using hf x hx);rw [hneg] at h0;rw [e];simp (disch:=omega) only [Ys,h0,EVT,EVM,EVC,xe,EVP,EV,simprocAttr]
 ·obtain ⟨j0,g1,g2,g3,x0,g4,g5⟩:=c7 p l 0 (by have:=hany.2.2;omega);rw [g1] at h0;simp only [Dc] at h0;have key:∃s:List Rec,s.length=l.length∧s.take (l.filter fun x=> !p x).length=l.filter (fun x=> !p x)∧Bh7.ev S (l.length+1) [Ah l, .f g caps, .i .i64 (j0:Int)]=some (.yld 0 [.i .i64 (((l.filter fun x=> !p x).length:Nat):Int),Ah s]):=by
   let nx:Nat×Nat×List Rec→Nat×Nat×List Rec:=fun a=>match l[a.2.1]? with
    |some c=>if p c=true then (a.1,a.2.1+1,a.2.2) else (a.1+1,a.2.1+1,a.2.2.set a.1 c)
    |none=>a
   let fin:Nat→Nat×Nat×List Rec→Nat×Nat×List Rec:=fun n a=>Nat.rec a (fun _ b=>nx b) n;have fin_s:∀n a,fin (n+1) a=nx (fin n a):=fun _ _=>rfl;have fin_c:∀n a,fin (n+1) a=fin n (nx a):=by
    intro n
    induction n with
    |zero=>intro a;rfl
    |succ n ih=>intro a;exact congrArg nx (ih a)
   let I:Nat×Nat×List Rec→Prop:=fun a=>a.1<a.2.1∧a.2.1≤l.length∧a.2.2.length=l.length∧a.2.2.take a.1=(l.take a.2.1).filter (fun x=> !p x)∧a.2.2.drop a.2.1=l.drop a.2.1;have I_nx:∀a,I a→a.2.1<l.length→I (nx a)∧(nx a).2.1=a.2.1+1:=by
    rintro ⟨i,j,s⟩ ⟨i1,i2,i3,i4,i5⟩ hj;simp only at i1 i2 i3 i4 i5 hj;have hc:l[j]? =some l[j]:=Az hj;have ht:l.take (j+1)=l.take j++[l[j]]:=by rw [Ck,hc];rfl
    have hdrop:s.drop (j+1)=l.drop (j+1):=by rw [←Ch (i:=1) (j:=j),i5,Ch]
    have hlen:i=((l.take j).filter fun x=> !p x).length:=by rw [←i4,An];omega
    simp only [nx,hc];rcases Aq (p l[j]) with h1|h1
    ·simp only [h1,if_true];refine ⟨⟨by simp only;omega,by simp only;omega,i3,?_,hdrop⟩,trivial⟩;simp only;rw [ht,Dp,i4];simp [h1]
    ·simp only [h1,Ad,if_false];refine ⟨⟨by simp only;omega,by simp only;omega,by simpa using i3,?_,?_⟩,trivial⟩
     ·simp only;rw [ht,Dp,←i4,Ck,List.getElem?_set_self (by omega),List.take_set_of_le (by omega)];simp [h1]
     ·simp only;rw [Qd (by omega),hdrop]
   have I_fin:∀n a,I a→a.2.1+n≤l.length→I (fin n a)∧(fin n a).2.1=a.2.1+n:=by
    intro n
    induction n with
    |zero=>intro a ha _;exact ⟨ha,rfl⟩
    |succ n ih=>
     intro a ha hn;obtain ⟨q1,q2⟩:=ih a ha (by omega);obtain ⟨q3,q4⟩:=I_nx _ q1 (by omega);rw [fin_s];exact ⟨q3,by rw [q4,q2];omega⟩
   have I0:I (j0,j0+1,l):=by refine ⟨by simp only;omega,by simp only;omega,rfl,?_,rfl⟩;simp only;rw [Ck,g4,Dp,Jb p g3];simp [g5]
   obtain ⟨z1,z2⟩:=I_fin (l.length - (j0+1)) (j0,j0+1,l) I0 (by simp only;omega);simp only at z2;refine ⟨(fin (l.length - (j0+1)) (j0,j0+1,l)).2.2,z1.2.2.1,?_,?_⟩
   ·have q:=z1.2.2.2.1;have e1:(fin (l.length - (j0+1)) (j0,j0+1,l)).2.1=l.length:=by rw [z2];omega
    rw [e1,C7] at q;rw [←q,An,z1.2.2.1];have:=z1.1;rw [I8 (by omega)]
   ·have hlen:(fin (l.length - (j0+1)) (j0,j0+1,l)).1=(l.filter fun x=> !p x).length:=by
     have q:=z1.2.2.2.1;have e1:(fin (l.length - (j0+1)) (j0,j0+1,l)).2.1=l.length:=by rw [z2];omega
     rw [e1,C7] at q;have q2:=congrArg List.length q;have:=z1.1;rw [An,z1.2.2.1,I8 (by omega)] at q2;exact q2
    refine Eq.trans (K3 (α:=Nat×Nat×List Rec) (fun a=>[.i .i64 (a.1:Int), .i .i64 (a.2.1:Int),Ah a.2.2]) (fun a=> .yld 0 [.i .i64 ((fin (l.length - a.2.1) a).1:Int),Ah (fin (l.length - a.2.1) a).2.2]) I (fun a=>l.length - a.2.1) (j0,j0+1,l) ?_ I0 (by simp only;omega) ?_) ?_
    ·simp (disch:=omega) only [EVT,EVM,EVC,xe,EVP,EV,simprocAttr]
    ·rintro ⟨i,j,s⟩ hI;obtain ⟨i1,i2,i3,i4,i5⟩:=hI;simp only at i1 i2 i3 i4 i5;by_cases hj:j<l.length
     ·left;have hc:l[j]? =some l[j]:=Az hj;have hsc:s[j]? =some l[j]:=by have:=congrArg (fun q=>q[0]?) i5;simpa [A6,hc] using this
      have hsi:∃y,s[i]? =some y:=⟨_,Az (by omega)⟩;obtain ⟨y,hsi⟩:=hsi;obtain ⟨q3,q4⟩:=I_nx (i,j,s) ⟨i1,i2,i3,i4,i5⟩ hj;have hp:=h l[j] (Dx hj);refine ⟨nx (i,j,s),?_,q3,by rw [q4];simp only;omega,?_⟩
      ·have hjs:(j:Int)<(s.length:Int):=by omega
       rcases Aq (p l[j]) with h1|h1
       ·rw [h1] at hp;simp only [nx,hc,h1,if_true];simp (disch:=omega) only [Ys,hjs,hsc,hp,EVT,EVM,EVC,xe,EVP,EV,simprocAttr]
       ·rw [h1] at hp;simp only [nx,hc,h1,Ad,if_false];simp (disch:=omega) only [Ys,hjs,hsc,hsi,hp,EVT,EVM,EVC,xe,EVP,EV,simprocAttr]
      ·have e1:l.length - j=(l.length - (j+1))+1:=by omega
       rw [q4];simp only;rw [e1,fin_c]
     ·right;have hjs:¬(j:Int)<(s.length:Int):=by omega
      have e1:l.length - j=0:=by omega
      simp only [e1];simp (disch:=omega) only [Ys,hjs,EVT,EVM,EVC,xe,EVP,EV,simprocAttr];exact ⟨rfl,rfl⟩
    ·simp only;rw [hlen]
  obtain ⟨s,hs1,hs2,key⟩:=key;have hle:(l.filter fun x=> !p x).length≤l.length:=Ec _ _;have e0:¬((j0:Int)= -1):=by omega
  generalize (l.filter fun x=> !p x)=fl at*;have hsl1:G0 16 (Ah s) (.i .i64 ((fl.length:Nat):Int)) (.i .i64 (s.length:Int))=some (Ah (s.drop fl.length)):=by rw [Gt _ _ _ _ _ (by omega) (by omega) (by omega)];simp
  have hsl2:G0 16 (Ah s) (.i .i64 0) (.i .i64 ((fl.length:Nat):Int))=some (Ah fl):=by rw [Gt _ _ _ _ _ (by omega) (by omega) (by omega)];simp [hs2]
  have hrep:Kg 16 (.i .i64 ((s.length:Int) - (fl.length:Int))) nr=some (Ah (List.replicate (s.length - fl.length) zr)):=by rw [tv _ (by omega) (by omega)];congr 3;omega
  have happ:H4 16 (Ah fl) (Ah (List.replicate (s.length - fl.length) zr))=some (Ah (fl++List.replicate (s.length - fl.length) zr)):=Q3 _ _ (by simp;omega);have hsl3:G0 16 (Ah (fl++List.replicate (s.length - fl.length) zr)) (.i .i64 0) (.i .i64 ((fl.length:Nat):Int))=some (Ah fl):=by rw [Gt _ _ _ _ _ (by omega) (by omega) (by simp;omega)];simp
  simp (disch:=omega) only [Ys,h0,e0,key,hsl1,hsl2,hrep,happ,hsl3,EVT,EVM,EVC,xe,EVP,EV,simprocAttr]
def Gv2:PV→PV→Int
 | .s a, .s b=>Jv a b
 |_,_=>0
theorem Yq (l:List (List UInt8)) (hl:l.length≤1000000) (hs:∀x∈l,x.length≤9223372036854775807):S Nm 1048578 [Bn l, .f Jy []]=some [Bn (l.mergeSort fun x y=> !decide (Jv y x<0))]:=by
 have hm:∀x∈l.map PV.s,∃a∈l,x= .s a:=fun x hx=>by obtain ⟨a,h1,h2⟩:=D3.1 hx;exact ⟨a,h1,h2.symm⟩
 have h:=s7 (tab:=tab) (xs:=Gj3) (ss:=Tz) (f:=Nm) (s:=An9) Fl3 Fl9 (g:=Jy) (caps:=[]) (l:=l.map PV.s) (by decide) (by simp;omega)
  (fun x hx=>by obtain ⟨a,_,rfl⟩:=hm x hx;rfl) Gv2
  (fun x hx y hy=>by obtain ⟨a,ha,rfl⟩:=hm x hx;obtain ⟨b,hb,rfl⟩:=hm y hy;exact S8 a b (hs a ha) (hs b hb))
  (fun x hx=>by obtain ⟨a,_,rfl⟩:=hm x hx;show¬Jv a a<0;rw [Fx];exact to_N.irr a)
  (fun x hx y hy z hz h1 h2=>by obtain ⟨a,_,rfl⟩:=hm x hx;obtain ⟨b,_,rfl⟩:=hm y hy;obtain ⟨c,_,rfl⟩:=hm z hz;exact (Fx a c).2 (to_N.tr _ _ _ ((Fx a b).1 h1) ((Fx b c).1 h2)))
  (fun x hx y hy z hz h1 h2=>by obtain ⟨a,_,rfl⟩:=hm x hx;obtain ⟨b,_,rfl⟩:=hm y hy;obtain ⟨c,_,rfl⟩:=hm z hz;exact fun h3=>to_N.ntr (fun q=>h1 ((Fx a b).2 q)) (fun q=>h2 ((Fx b c).2 q)) ((Fx a c).1 h3))
  (fun x hx y hy h1 h2=>by
   obtain ⟨a,_,rfl⟩:=hm x hx;obtain ⟨b,_,rfl⟩:=hm y hy;rcases to_N.tri a b with q|q|q
   ·exact absurd ((Fx a b).2 q) h1
   ·rw [q]
   ·exact absurd ((Fx b a).2 q) h2)
 have e:(l.map PV.s).mergeSort (fun x y=> !decide (Gv2 y x<0))=(l.mergeSort fun x y=> !decide (Jv y x<0)).map PV.s:=(Ik5 (r:=fun x y=> !decide (Jv y x<0)) (s:=fun x y=> !decide (Gv2 y x<0)) (f:=PV.s) fun a _ b _=>rfl).symm;rw [e] at h;exact h
theorem Mr (l:List (List UInt8)) (hl:l.length≤1000000):S R9 1048577 [Bn l]=some [Bn (cpt eqs l)]:=by
 refine Hq0 (N:=l.length+2) rfl ?_;by_cases h2:(l.length:Int)<2
 ·have e:cpt eqs l=l:=by
   match l,h2 with
   |[],_=>rfl
   |[x],_=>rfl
   |_::_::_,h=>simp at h;omega
  rw [e];simp (disch:=omega) only [M6,h2,EVT,EVM,EVC,xe,EVP,EV,simprocAttr]
 ·-- the inner F9, from a place where two neighbours are equal
  have inner:∀k:Nat,1≤k→k<l.length→cpt eqs (l.take (k+1))=l.take k→∃s:List (List UInt8),s.length=l.length∧s.take (cpt eqs l).length=cpt eqs l∧Bg1.ev S (l.length+2) [Bn l, .i .i64 (k:Int),Bn l]=some (.yld 2 [.i .i64 ((cpt eqs l).length:Int),Bn s]):=by
   intro k hk1 hk hcp;have key:=G1 (fn:=S) (N:=l.length+2) (η:=[Bn l, .i .i64 (k:Int),Bn l]) (id:=3) (init:=[(.v 1),(.c (.i .i64 (1))),(.v 2)]) (body:=mb) (α:=Nat×Nat×List (List UInt8))
    (fun a=>[.i .i64 (a.1:Int), .i .i64 (a.2.1:Int),Bn a.2.2])
    (fun o=>∃s:List (List UInt8),s.length=l.length∧s.take (cpt eqs l).length=cpt eqs l∧o= .yld 2 [.i .i64 ((cpt eqs l).length:Int),Bn s])
    (fun a=>1≤a.2.1∧k+a.2.1≤l.length∧a.1<k+a.2.1∧a.2.2.length=l.length∧a.2.2.take a.1=cpt eqs (l.take (k+a.2.1))∧(cpt eqs (l.take (k+a.2.1))).length=a.1∧a.2.2.drop (k+a.2.1 - 1)=l.drop (k+a.2.1 - 1))
    (fun a=>l.length - a.2.1) (k,1,l) (by simp (disch:=omega) only [EVT,EVM,EVC,xe,EVP,EV,simprocAttr])
    ⟨by simp,by simp;omega,by simp,rfl,by simp only;rw [hcp],by simp only;rw [hcp,An];omega,rfl⟩ (by simp only;omega) ?_
   ·obtain ⟨o,h3,s,h4,h5,rfl⟩:=key;exact ⟨s,h4,h5,h3⟩
   ·rintro ⟨i,j,s⟩ ⟨a1,a2,a3,a4,a5,a6,a7⟩;simp only at a1 a2 a3 a4 a5 a6 a7;by_cases hj:k+j<l.length
    ·left;have c1:s[k+j]? =l[k+j]? :=by have:=congrArg (fun q=>q[1]?) a7;simp only [A6] at this;rwa [show k+j - 1+1=k+j by omega] at this
     have c0:s[k+j - 1]? =l[k+j - 1]? :=by have:=congrArg (fun q=>q[0]?) a7;simpa only [A6,Dq] using this
     have g1:l[k+j]? =some (l[k+j]'hj):=Az hj;have g0:l[k+j - 1]? =some (l[k+j - 1]'(by omega)):=Az (by omega);have tk:l.take (k+(j+1))=l.take (k+j)++[l[k+j]'hj]:=by rw [show k+(j+1)=(k+j)+1 by omega,Ck,g1];rfl
     have ne:l.take (k+j)≠[]:=by intro h;have:=congrArg List.length h;rw [An,Bd] at this;omega
     have gl:(l.take (k+j)).getLast ne=l[k+j - 1]'(by omega):=by rw [Im];simp only [nn,An];congr 1;omega
     have cs:=L4 eqs (l[k+j]'hj) (l.take (k+j)) ne;rw [←tk,gl] at cs;generalize l[k+j]'hj=x at*;generalize l[k+j - 1]'(by omega)=y at*;have hjj:(j:Int)<(s.length:Int) - (k:Int):=by omega
     have i1:Hj 1 (Bn s) (.i .i64 ((k:Int)+(j:Int)))=some (.s x):=by rw [L2 _ _ _ (by omega),show ((k:Int)+(j:Int)).toNat=k+j by omega,c1,g1];rfl
     have i0:Hj 1 (Bn s) (.i .i64 ((k:Int)+((j:Int) - 1)))=some (.s y):=by rw [L2 _ _ _ (by omega),show ((k:Int)+((j:Int) - 1)).toNat=k+j - 1 by omega,c0,g0];rfl
     have ls:G0 1 (Bn s) (.i .i64 (k:Int)) (.i .i64 (s.length:Int))=some (Bn (s.drop k)):=by rw [Lt _ _ _ _ _ (by omega) (by omega) (by omega)];simp
     have e1:(s.drop k)[j]? =some x:=by rw [A6,c1,g1]
     have e0:(s.drop k)[j - 1]? =some y:=by rw [A6,show k+(j - 1)=k+j - 1 by omega,c0,g0]
     have si:∃w,s[i]? =some w:=⟨_,Az (by omega)⟩;obtain ⟨w,si⟩:=si;have ej:((j:Int) - 1).toNat=j - 1:=by omega
     by_cases hxy:x=y
     ·refine ⟨(i,j+1,s),?_,⟨by simp,by simp only;omega,by simp only;omega,a4,?_,?_,?_⟩,by simp only;omega⟩
      ·simp (disch:=omega) only [M6,hjj,i1,i0,ls,e1,e0,ej,hxy,EVT,EVM,EVC,xe,EVP,EV,simprocAttr]
      ·simp only;rw [cs,a5];simp [eqs,hxy]
      ·simp only;rw [cs,Ac,a6];simp [eqs,hxy]
      ·simp only;rw [show k+(j+1) - 1=(k+j - 1)+1 by omega,←Ch,←Ch,a7]
     ·refine ⟨(i+1,j+1,s.set i x),?_,⟨by simp,by simp only;omega,by simp only;omega,by simpa using a4,?_,?_,?_⟩,by simp only;omega⟩
      ·simp (disch:=omega) only [M6,hjj,i1,i0,ls,e1,e0,ej,si,hxy,EVT,EVM,EVC,xe,EVP,EV,simprocAttr]
      ·simp only;rw [cs,Ck,List.getElem?_set_self (by omega),List.take_set_of_le (by omega),a5];simp [eqs,hxy]
      ·simp only;rw [cs,Ac,a6];simp [eqs,hxy]
      ·simp only;rw [show k+(j+1) - 1=(k+j - 1)+1 by omega,Qd (by omega),←Ch,←Ch,a7]
    ·right;have ek:k+j=l.length:=by omega
     rw [ek,C7] at a5 a6;have hjj:¬(j:Int)<(s.length:Int) - (k:Int):=by omega
     refine ⟨.yld 2 [.i .i64 (i:Int),Bn s],?_,rfl,s,a4,by rw [a6];exact a5,by rw [a6]⟩;simp (disch:=omega) only [M6,hjj,EVT,EVM,EVC,xe,EVP,EV,simprocAttr]
  have key:Bh8.ev S (l.length+2) [Bn l]=some (if cpt eqs l=l then .yld 0 [Bn l] else .ret [Bn (cpt eqs l)]):=by
   have:=G1 (fn:=S) (N:=l.length+2) (η:=[Bn l]) (id:=1) (init:=[(.c (.i .i64 (1))),(.v 0)]) (body:=mt) (α:=Nat)
    (fun k=>[.i .i64 (k:Int),Bn l]) (fun o=>o=if cpt eqs l=l then .yld 0 [Bn l] else .ret [Bn (cpt eqs l)])
    (fun k=>1≤k∧k≤l.length∧cpt eqs (l.take k)=l.take k) (fun k=>l.length - k) 1 (by simp (disch:=omega) only [EVT,EVM,EVC,xe,EVP,EV,simprocAttr])
    ⟨Af 1,by omega,by cases l with
     |nil=>simp at h2
     |cons x r=>rfl⟩ (by omega) ?_
   ·obtain ⟨o,h3,h4⟩:=this;rw [←h4];exact h3
   ·rintro k ⟨k1,k2,k3⟩;by_cases hk:k<l.length
    ·have g1:l[k]? =some l[k]:=Az hk;have g0:l[k - 1]? =some (l[k - 1]'(by omega)):=Az (by omega);have tk:l.take (k+1)=l.take k++[l[k]]:=by rw [Ck,g1];rfl
     have ne:l.take k≠[]:=by intro h;have:=congrArg List.length h;rw [An,Bd] at this;omega
     have gl:(l.take k).getLast ne=l[k - 1]'(by omega):=by rw [Im];simp only [nn,An];congr 1;omega
     have cs:=L4 eqs l[k] (l.take k) ne;rw [←tk,gl,k3] at cs;have hkk:(k:Int)<(l.length:Int):=by omega
     have i1:Hj 1 (Bn l) (.i .i64 (k:Int))=some (.s l[k]):=by rw [L2 _ _ _ (by omega),show ((k:Int)).toNat=k by omega,g1];rfl
     have i0:Hj 1 (Bn l) (.i .i64 ((k:Int) - 1))=some (.s (l[k - 1]'(by omega))):=by rw [L2 _ _ _ (by omega),show ((k:Int) - 1).toNat=k - 1 by omega,g0];rfl
     by_cases hxy:l[k]=l[k - 1]'(by omega)
     ·right;have cs':cpt eqs (l.take (k+1))=l.take k:=by rw [cs];simp [eqs,hxy]
      obtain ⟨s,s1,s2,s3⟩:=inner k k1 hk cs';have hlt:cpt eqs l≠l:=by
       intro h;have q:(cpt eqs l).length≤(cpt eqs (l.take (k+1))).length+(l.drop (k+1)).length:=by
        have:∀(b a:List (List UInt8)),a≠[]→(cpt eqs (a++b)).length≤(cpt eqs a).length+b.length:=by
         intro b
         induction b with
         |nil=>intro a _;simp
         |cons x r ih=>
          intro a ha;have h1:=ih (a++[x]) (by simp);rw [L4 _ _ _ ha] at h1;rw [show a++x::r=a++[x]++r by simp];refine C6 h1 ?_;rw [Ac];split<;>simp<;>omega
        have h3:=this (l.drop (k+1)) (l.take (k+1)) (by intro h;have:=congrArg List.length h;rw [An,Bd] at this;omega);rwa [Bl] at h3
       rw [h,cs',An,B3] at q;omega
      have hlen:=Xh eqs l;refine ⟨.ret [Bn (cpt eqs l)],?_,rfl,by rw [if_neg hlt]⟩;generalize cpt eqs l=fl at*;have ls:G0 1 (Bn l) (.i .i64 (k:Int)) (.i .i64 (l.length:Int))=some (Bn (l.drop k)):=by rw [Lt _ _ _ _ _ (by omega) (by omega) (by omega)];simp
      have hsl1:G0 1 (Bn s) (.i .i64 ((fl.length:Nat):Int)) (.i .i64 (s.length:Int))=some (Bn (s.drop fl.length)):=by rw [Lt _ _ _ _ _ (by omega) (by omega) (by omega)];simp
      have hsl2:G0 1 (Bn s) (.i .i64 0) (.i .i64 ((fl.length:Nat):Int))=some (Bn fl):=by rw [Lt _ _ _ _ _ (by omega) (by omega) (by omega)];simp [s2]
      have hrep:Kg 1 (.i .i64 ((s.length:Int) - (fl.length:Int))) (.s [])=some (Bn (List.replicate (s.length - fl.length) [])):=by rw [tq _ (by omega) (by omega)];congr 3;omega
      have happ:H4 1 (Bn fl) (Bn (List.replicate (s.length - fl.length) []))=some (Bn (fl++List.replicate (s.length - fl.length) [])):=zy _ _ (by simp;omega);have hsl3:G0 1 (Bn (fl++List.replicate (s.length - fl.length) [])) (.i .i64 0) (.i .i64 ((fl.length:Nat):Int))=some (Bn fl):=by rw [Lt _ _ _ _ _ (by omega) (by omega) (by simp;omega)];simp
      simp (disch:=omega) only [M6,hkk,i1,i0,hxy,ls,s3,hsl1,hsl2,hrep,happ,hsl3,EVT,EVM,EVC,xe,EVP,EV,simprocAttr]
     ·left;refine ⟨k+1,?_,⟨by omega,by omega,?_⟩,by omega⟩
      ·simp (disch:=omega) only [M6,hkk,i1,i0,hxy,EVT,EVM,EVC,xe,EVP,EV,simprocAttr]
      ·rw [cs,tk];simp [eqs,hxy]
    ·right;have e:k=l.length:=by omega
     subst e;rw [C7] at k3;refine ⟨_,?_,?_,rfl⟩
     ·rw [if_pos k3];simp (disch:=omega) only [M6,EVT,EVM,EVC,xe,EVP,EV,simprocAttr]
     ·rw [if_pos k3];rfl
  by_cases h:cpt eqs l=l
  ·rw [if_pos h] at key;rw [h];simp (disch:=omega) only [M6,h2,key,EVT,EVM,EVC,xe,EVP,EV,simprocAttr]
  ·rw [if_neg h] at key;simp (disch:=omega) only [M6,h2,key,EVT,EVM,EVC,xe,EVP,EV,simprocAttr]
end Go.X.G
/- Delegations and names of a zone, as the program finds them. -/
namespace Go.X.G
open Go Go.X
theorem Gq6 {z:Zone} {n b:List UInt8} {c:Rec} (hI:b=[]∨under n b=true):(if (Dk z c && under n c.name && (decide (b=[])||decide ((lbl c.name).length<(lbl b).length)))=true then c.name else b)=[]∨under n (if (Dk z c && under n c.name && (decide (b=[])||decide ((lbl c.name).length<(lbl b).length)))=true then c.name else b)=true:=by
 split
 ·rename_i h;simp only [Aw] at h;exact .inr h.1.2
 ·exact hI
theorem Ff6 (z:Zone) (n:List UInt8) (hz:z.wf) (hl:z.recs.length≤1000000) (hn:n.length≤9223372036854775807):S Bb7 2 [z.pv, .s n]=some [.s (cutN z n), .b (decide (cutN z n≠[]))]:=by
 refine Ic5 (N:=z.recs.length+1) rfl ?_;have g1:=hz.origin;unfold Yx at g1;have key:Eg2.ev S (z.recs.length+1) [z.pv, .s n]=some (.yld 0 [.s (fz z n [] z.recs)]):=by
  refine F6 z.recs (fun i (b:List UInt8)=>[.s b, .i .i64 (i:Int)]) (fun i b r=> .yld 0 [.s (fz z n b r)]) (fun i b=>b=[]∨under n b=true) [] rfl (.inl rfl) (by omega) (fun i b c r hd hi hc hI=> ?_) (fun b hI=> ?_)
  ·left;have g2:=(hz.recs.2 c (Bq hc)).name;unfold Yx at g2;refine ⟨if Dk z c && under n c.name && (decide (b=[])||decide ((lbl c.name).length<(lbl b).length)) then c.name else b,?_,Gq6 hI,rfl⟩;by_cases h1:c.typ=2
   ·by_cases h2:c.name=z.origin
    ·simp (disch:=omega) only [V4,hc,h1,h2,EVM,EVC,xe,EVP,EV,simprocAttr];simp [Dk,D9,h2]
    ·have k1:=E7 c.name z.origin g2 g1;have k2:=E7 n c.name hn g2;rcases Aq (under c.name z.origin) with h3|h3
     ·rcases Aq (under n c.name) with h4|h4
      ·by_cases h5:b=[]
       ·rw [h3] at k1;rw [h4] at k2;simp (disch:=omega) only [V4,hc,h1,h2,h3,h4,h5,k1,k2,EVM,EVC,xe,EVP,EV,simprocAttr];simp [Dk,D9,h1,h2,h3,h4,h5]
       ·have hb:=hI.resolve_left h5;have e:=Dy5 h4 hb;rw [h3] at k1;rw [h4] at k2;by_cases h6:c.name.length<b.length
        ·have h7:=e.1 h6;have h8:(c.name.length:Int)<(b.length:Int):=by omega
         simp (disch:=omega) only [V4,hc,h1,h2,h3,h4,h5,h8,k1,k2,EVM,EVC,xe,EVP,EV,simprocAttr];simp [Dk,D9,h1,h2,h3,h4,h5,h7]
        ·have h7:¬(lbl c.name).length<(lbl b).length:=fun q=>h6 (e.2 q);have h8:¬(c.name.length:Int)<(b.length:Int):=by omega
         simp (disch:=omega) only [V4,hc,h1,h2,h3,h4,h5,h8,k1,k2,EVM,EVC,xe,EVP,EV,simprocAttr];simp [Dk,D9,h1,h2,h3,h4,h5,h7]
      ·rw [h3] at k1;rw [h4] at k2;simp (disch:=omega) only [V4,hc,h1,h2,h3,h4,k1,k2,EVM,EVC,xe,EVP,EV,simprocAttr];simp [Dk,D9,h1,h2,h3,h4]
     ·rw [h3] at k1;simp (disch:=omega) only [V4,hc,h1,h2,h3,k1,EVM,EVC,xe,EVP,EV,simprocAttr];simp [Dk,D9,h1,h2,h3]
   ·simp (disch:=omega) only [V4,hc,h1,EVM,EVC,xe,EVP,EV,simprocAttr];simp [Dk,h1]
  ·simp (disch:=omega) only [V4,EVM,EVC,xe,EVP,EV,simprocAttr];simp [fz,Out.goes]
 rw [show fz z n [] z.recs=cutN z n from rfl] at key;simp (disch:=omega) only [V4,key,EVM,EVC,xe,EVP,EV,simprocAttr]
 try simp
def cutsN (z:Zone):List (List UInt8):=setN ((z.recs.filter (Dk z)).map Rec.name)
theorem dr (z:Zone) (x:List UInt8):x∈cutsN z↔∃r∈z.recs,Dk z r=true∧r.name=x:=by unfold cutsN;rw [Ll,D3];simp only [Bp,and_assoc]
theorem Dn0 {l:List (List UInt8)} (h:∀x∈l,x.length≤9223372036854775807):∀x∈setN l,x.length≤9223372036854775807:=fun x hx=>h x ((Ll l x).1 hx)
theorem Dc0 (z:Zone) (hz:z.wf) (hl:z.recs.length≤1000000):S br 1 [z.pv]=some [Bn (cutsN z)]:=by
 refine Hq5 (N:=z.recs.length+1) rfl ?_;have g1:=hz.origin;unfold Yx at g1;have key:Bl0.ev S (z.recs.length+1) [z.pv]=some (.yld 0 [Bn ([]++(z.recs.filter (Dk z)).map Rec.name)]):=by
  refine F6 z.recs (fun i (b:List (List UInt8))=>[Bn b, .i .i64 (i:Int)]) (fun i b r=> .yld 0 [Bn (b++(r.filter (Dk z)).map Rec.name)]) (fun i b=>b.length≤i) [] rfl (Cr _) (by omega) (fun i b c r hd hi hc hI=> ?_) (fun b hI=> ?_)
  ·left;have g2:=(hz.recs.2 c (Bq hc)).name;unfold Yx at g2;refine ⟨if Dk z c then b++[c.name] else b,?_,by split<;>(try rw [Ac,List.length_singleton])<;>omega,by rcases Aq (Dk z c) with q|q<;>simp [q]⟩;by_cases h1:c.typ=2
   ·by_cases h2:c.name=z.origin
    ·simp (disch:=omega) only [T1,hc,h1,h2,EVM,EVC,xe,EVP,EV,simprocAttr];simp [Dk,D9,h2]
    ·have k1:=E7 c.name z.origin g2 g1;rcases Aq (under c.name z.origin) with h3|h3
     ·rw [h3] at k1;simp (disch:=omega) only [T1,hc,h1,h2,h3,k1,EVM,EVC,xe,EVP,EV,simprocAttr];simp [Dk,D9,h1,h2,h3]
     ·rw [h3] at k1;simp (disch:=omega) only [T1,hc,h1,h2,h3,k1,EVM,EVC,xe,EVP,EV,simprocAttr];simp [Dk,D9,h1,h2,h3]
   ·simp (disch:=omega) only [T1,hc,h1,EVM,EVC,xe,EVP,EV,simprocAttr];simp [Dk,h1]
  ·simp (disch:=omega) only [T1,EVM,EVC,xe,EVP,EV,simprocAttr];simp [Out.goes]
 rw [Cm] at key;have hlen:((z.recs.filter (Dk z)).map Rec.name).length≤1000000:=by rw [E8];exact C6 (Ec _ _) hl
 have hw:∀x∈(z.recs.filter (Dk z)).map Rec.name,x.length≤9223372036854775807:=fun x hx=>by obtain ⟨r,hr,rfl⟩:=D3.1 hx;exact (hz.recs.2 r (Bp.1 hr).1).name
 have k1:=Yq _ hlen hw;have k2:=Mr (((z.recs.filter (Dk z)).map Rec.name).mergeSort fun x y=> !decide (Jv y x<0)) (by rw [fc];exact hlen);rw [show cpt eqs (((z.recs.filter (Dk z)).map Rec.name).mergeSort fun x y=> !decide (Jv y x<0))=cutsN z from rfl] at k2;generalize ((z.recs.filter (Dk z)).map Rec.name).mergeSort (fun x y=> !decide (Jv y x<0))=so at*;generalize (z.recs.filter (Dk z)).map Rec.name=un at*;simp (disch:=omega) only [T1,key,k1,k2,D1,Kf,EVM,EVC,xe,EVP,EV,simprocAttr]
theorem As3 (l:List Rec) (hl:l.length≤1000000) (hw:∀r∈l,r.wf):S bn 1 [Ah l]=some [Bn (setN (l.map Rec.name))]:=by
 refine Hq4 (N:=l.length+1) rfl ?_;have key:Bh9.ev S (l.length+1) [Ah l]=some (.yld 0 [Bn ([]++l.map Rec.name)]):=by
  refine F6 l (fun i (b:List (List UInt8))=>[Bn b, .i .i64 (i:Int)]) (fun i b r=> .yld 0 [Bn (b++r.map Rec.name)]) (fun i b=>b.length≤i) [] rfl (Cr _) (by omega) (fun i b c r hd hi hc hI=> ?_) (fun b hI=> ?_)
  ·left;refine ⟨b++[c.name],?_,by simp;omega,by simp⟩;simp (disch:=omega) only [Al4,hc,EVM,EVC,xe,EVP,EV,simprocAttr]
  ·simp (disch:=omega) only [Al4,EVM,EVC,xe,EVP,EV,simprocAttr];simp [Out.goes]
 rw [Cm] at key;have hlen:(l.map Rec.name).length≤1000000:=by rw [E8];exact hl
 have hw:∀x∈l.map Rec.name,x.length≤9223372036854775807:=fun x hx=>by obtain ⟨r,hr,rfl⟩:=D3.1 hx;exact (hw r hr).name
 have k1:=Yq _ hlen hw;have k2:=Mr ((l.map Rec.name).mergeSort fun x y=> !decide (Jv y x<0)) (by rw [fc];exact hlen);rw [show cpt eqs ((l.map Rec.name).mergeSort fun x y=> !decide (Jv y x<0))=setN (l.map Rec.name) from rfl] at k2;generalize setN (l.map Rec.name)=se at*;generalize (l.map Rec.name).mergeSort (fun x y=> !decide (Jv y x<0))=so at*;generalize l.map Rec.name=un at*;simp (disch:=omega) only [Al4,key,k1,k2,D1,Kf,EVM,EVC,xe,EVP,EV,simprocAttr]
theorem Dy8 (c owner:List UInt8) (hc:c.length≤9223372036854775807) (ho:owner.length≤9223372036854775807):S U0 1 [.s c, .s owner]=some [.b (decide (c≠owner) && under owner c)]:=by
 refine Hq3 (N:=1) rfl ?_;have k1:=E7 owner c ho hc;by_cases h:c=owner
 ·simp (disch:=omega) only [Eb1,h,EVM,EVC,xe,EVP,EV,simprocAttr];simp
 ·simp (disch:=omega) only [Eb1,h,k1,EVM,EVC,xe,EVP,EV,simprocAttr];simp
theorem Ag4 (z:Zone) (acc:List (List UInt8)) (n:List UInt8) (p1 p2 p3 p4 p5 p6:PV) (N:Nat) (hu:under n z.origin=true) (ha:acc.length≤1000000) (hN:1000<N) (hp2:Hj 1 p2 p4=some (.s n)):
  Bf7.ev S N [z.pv,p1,p2,Bn acc,p4,p5,p6]=some (.yld 2 [Bn (acc++upN z.origin n)]):=by
 obtain ⟨v1,v2,_⟩:=Bs.1 hu;have hlb:=K4 n;have h0:jn ((lbl n).drop 0)=n:=jc v1;have e0:upN z.origin n=(upN z.origin n).take ((lbl n).length - (lbl z.origin).length+1):=by rw [Dn];simp [upN]
 have:=F5 (fn:=S) (N:=N) (η:=[z.pv,p1,p2,Bn acc,p4,p5,p6]) (id:=3) (init:=[(.v 3),(.proj 0 (.idx 1 (.v 2) (.v 4)))]) (body:=Dw2) ((lbl n).length - (lbl z.origin).length) (fun k=>[Bn (acc++(upN z.origin n).take k), .s (jn ((lbl n).drop k))])
  (fun _=> .yld 2 [Bn (acc++upN z.origin n)]) ?_ (by omega) (fun k hk=> ?_) ?_
 ·exact this
 ·rw [h0];simp (disch:=omega) only [hp2,EVM,EVC,xe,EVP,EV,simprocAttr];simp
 ·left;obtain ⟨q1,q2⟩:=Al9 hu hk;have q3:¬jn ((lbl n).drop k)=z.origin:=fun h=>by have:=(T3 hu (Nat.le_of_lt hk)).1 h;omega
  have q4:=um v1 k;have k1:=Pz (jn ((lbl n).drop k)) (by omega);rw [q1,q2] at k1;have q5:(upN z.origin n).take (k+1)=(upN z.origin n).take k++[jn ((lbl n).drop k)]:=by rw [Ck,Ol (Nat.le_of_lt hk)];rfl
  rw [q5,←As];have q6:(acc++(upN z.origin n).take k).length≤1000300:=by rw [Ac,An];omega
  generalize acc++(upN z.origin n).take k=a at*;refine ⟨?_,rfl⟩;generalize jn ((lbl n).drop (k+1))=nx at*;generalize jn ((lbl n).drop k)=cu at*;simp (disch:=omega) only [f5,q3,k1,EVM,EVC,xe,EVP,EV,simprocAttr]
 ·have q3:=(T3 hu (Af _)).2 rfl;have q5:(upN z.origin n)=(upN z.origin n).take ((lbl n).length - (lbl z.origin).length)++[jn ((lbl n).drop ((lbl n).length - (lbl z.origin).length))]:=by have:=Ck (l:=upN z.origin n) (i:=(lbl n).length - (lbl z.origin).length);rw [Ol (Af _)] at this;rw [←e0] at this;exact this
  rw [q3] at q5 ⊢;have q6:(acc++(upN z.origin n).take ((lbl n).length - (lbl z.origin).length)).length≤1000300:=by rw [Ac,An];omega
  refine ⟨?_,rfl⟩
  conv=>rhs;rw [q5,←As]
  generalize acc++(upN z.origin n).take ((lbl n).length - (lbl z.origin).length)=a at*;simp (disch:=omega) only [f5,EVM,EVC,xe,EVP,EV,simprocAttr]
theorem Ew3 (z:Zone) (owner:List UInt8):((cutsN z).any fun c=>decide (c≠owner) && under owner c)=Ob z owner:=by
 rw [Cn];unfold Ob;simp only [B5,Aw,decide_eq_true_eq,dr];constructor
 ·rintro ⟨x,⟨r,hr,h1,rfl⟩,h2,h3⟩;exact ⟨r,hr,⟨h1,h2⟩,h3⟩
 ·rintro ⟨r,hr,⟨h1,h2⟩,h3⟩;exact ⟨r.name,⟨r,hr,h1,rfl⟩,h2,h3⟩
def Hp (z:Zone) (n:List UInt8):Bool:=under n z.origin && !Ob z n
theorem Yh (z:Zone) (hz:z.wf) (hl:z.recs.length≤1000):S Ay2 1 [z.pv]=some [Bn (namesN z)]:=by
 refine Iz3 (N:=z.recs.length+1001) rfl ?_;have g1:=hz.origin;unfold Yx at g1;have k1:=Dc0 z hz (by omega);have k2:=As3 z.recs (by omega) (fun r hr=>hz.recs.2 r hr);have hol:(setN (z.recs.map Rec.name)).length≤z.recs.length:=by have:=Wq (z.recs.map Rec.name);rwa [E8] at this
 have how:∀x∈setN (z.recs.map Rec.name),x.length≤9223372036854775807:=Dn0 fun x hx=>by obtain ⟨r,hr,rfl⟩:=D3.1 hx;exact (hz.recs.2 r hr).name
 have hcl:(cutsN z).length≤1000000:=by have:=Wq ((z.recs.filter (Dk z)).map Rec.name);rw [E8] at this;have h2:=Ec (Dk z) z.recs;show (setN ((z.recs.filter (Dk z)).map Rec.name)).length≤1000000;omega
 have hcw:∀x∈cutsN z,x.length≤9223372036854775807:=fun x hx=>by obtain ⟨r,hr,_,rfl⟩:=(dr z x).1 hx;exact (hz.recs.2 r hr).name
 have hmem:∀x,x∈((setN (z.recs.map Rec.name)).filter (Hp z)).flatMap (upN z.origin)↔Eg6 z x:=by
  intro x;unfold Eg6 Hp;simp only [List.mem_flatMap,Bp,Ll,D3,Aw,A8];constructor
  ·rintro ⟨o,⟨⟨r,hr,rfl⟩,h1,h2⟩,h3⟩;obtain ⟨h4,h5⟩:=(Mg h1).1 h3;exact ⟨r,hr,h1,h2,h4,h5⟩
  ·rintro ⟨r,hr,h1,h2,h4,h5⟩;exact ⟨r.name,⟨⟨r,hr,rfl⟩,h1,h2⟩,(Mg h1).2 ⟨h4,h5⟩⟩
 generalize hO:setN (z.recs.map Rec.name)=O at*;have key:Ef3.ev S (z.recs.length+1001) [z.pv,Bn (cutsN z),Bn O]=some (.yld 0 [Bn ([]++(O.filter (Hp z)).flatMap (upN z.origin))]):=by
  refine F6 O (fun i (b:List (List UInt8))=>[Bn b, .i .i64 (i:Int)]) (fun i b r=> .yld 0 [Bn (b++(r.filter (Hp z)).flatMap (upN z.origin))]) (fun i b=>b.length≤256*i) [] rfl (Cr _) (by omega) (fun i b c r hd hi hc hI=> ?_) (fun b hI=> ?_)
  ·left;have g2:=how c (Bq hc);have k3:=E7 c z.origin g2 g1;have hid:=Ew3 z c;rcases Aq (under c z.origin) with h1|h1
   ·have k4:=Qb (cutsN z) U0 [.s c] _ hcl (fun x hx=>Dy8 x c (hcw x hx) g2);rw [hid] at k4;rw [h1] at k3;rcases Aq (Ob z c) with h2|h2
    ·refine ⟨b,?_,by omega,by simp [Hp,h1,h2]⟩;rw [h2] at k4;generalize cutsN z=cz at*;simp (disch:=omega) only [f5,hc,k3,k4,EVM,EVC,xe,EVP,EV,simprocAttr]
    ·have hu:=gk z.origin c;refine ⟨b++upN z.origin c,?_,by rw [Ac];omega,by simp [Hp,h1,h2]⟩;rw [h2] at k4;have k5:∀p5 p6,Bf7.ev S (z.recs.length+1001) [z.pv,Bn (cutsN z),Bn O,Bn b, .i .i64 (i:Int),p5,p6]=some (.yld 2 [Bn (b++upN z.origin c)]):=fun p5 p6=>Ag4 z b c _ _ (Bn b) _ p5 p6 _ h1 (by omega) (by omega) (by rw [L2 _ _ _ (by omega)];simp [hc]);generalize b++upN z.origin c=b' at*;generalize cutsN z=cz at*;simp (disch:=omega) only [f5,hc,k3,k4,k5,EVM,EVC,xe,EVP,EV,simprocAttr]
   ·refine ⟨b,?_,by omega,by simp [Hp,h1]⟩;rw [h1] at k3;generalize cutsN z=cz at*;simp (disch:=omega) only [f5,hc,k3,EVM,EVC,xe,EVP,EV,simprocAttr]
  ·generalize cutsN z=cz at*;simp (disch:=omega) only [f5,EVM,EVC,xe,EVP,EV,simprocAttr];simp [Out.goes]
 rw [Cm] at key;have hxl:((O.filter (Hp z)).flatMap (upN z.origin)).length≤256*O.length:=by
  have:∀l:List (List UInt8),(l.flatMap (upN z.origin)).length≤256*l.length:=by
   intro l
   induction l with
   |nil=>simp
   |cons x r ih=>
    have:=gk z.origin x;rw [Ir,Ac,A3];omega
  refine C6 (this _) ?_;have:=Ec (Hp z) O;omega
 have hxw:∀x∈(O.filter (Hp z)).flatMap (upN z.origin),x.length≤9223372036854775807:=fun x hx=>by obtain ⟨r,hr,_,_,h4,_⟩:=(hmem x).1 hx;have:=Iw (Bs.1 h4).2.1;omega
 have he:setN ((O.filter (Hp z)).flatMap (upN z.origin))=namesN z:=Dt0 z _ hmem;generalize (O.filter (Hp z)).flatMap (upN z.origin)=un at*;have k6:=Yq un (by omega) hxw;have k7:=Mr (un.mergeSort fun x y=> !decide (Jv y x<0)) (by rw [fc];omega);rw [show cpt eqs (un.mergeSort fun x y=> !decide (Jv y x<0))=setN un from rfl,he] at k7;generalize un.mergeSort (fun x y=> !decide (Jv y x<0))=so at*;generalize namesN z=nz at*;generalize cutsN z=cz at*;simp (disch:=omega) only [f5,k1,k2,key,k6,k7,D1,Kf,EVM,EVC,xe,EVP,EV,simprocAttr]
end Go.X.G
/- Delegations and names of a zone, as the reference finds them; what exists. -/
namespace Go.X.G
open Go Go.X
end Go.X.G
/- What exists in a zone, and what encloses a name; names with another end. -/
namespace Go.X.G
open Go Go.X
def exB (z:Zone) (x:List UInt8):Bool:=z.recs.any fun r=>under r.name z.origin && !Ob z r.name && under r.name x && under x z.origin
theorem P2 (z:Zone) (x:List UInt8):exB z x=true↔Eg6 z x:=by unfold exB Eg6;simp only [B5,Aw,A8,and_assoc]
theorem Xw (z:Zone) (x:List UInt8):decide (x∈namesN z)=exB z x:=by rw [Cn,P2,←Ax6];simp
theorem Uz (z:Zone) (hl:z.recs.length≤1000):(namesN z).length≤1000000:=by
 have h1:=Wq (Gg1 z);have h2:∀l:List Rec,(l.flatMap fun r=>upN z.origin r.name).length≤256*l.length:=by
  intro l
  induction l with
  |nil=>simp
  |cons x r ih=>
   have:=gk z.origin x.name;rw [Ir,Ac,A3];omega
 have h3:=h2 (z.recs.filter fun r=>under r.name z.origin && !Ob z r.name);have h4:=Ec (fun r=>under r.name z.origin && !Ob z r.name) z.recs;show (setN (Gg1 z)).length≤1000000;unfold Gg1 at h1 ⊢;omega
theorem zn (z:Zone) (n:List UInt8) (hz:z.wf) (hl:z.recs.length≤1000):S Bb5 2 [z.pv, .s n]=some [.b (exB z n)]:=by refine Ic2 (N:=1) rfl ?_;have k1:=Yh z hz hl;have k2:=P9 (namesN z) n (Uz z hl);rw [Xw] at k2;generalize namesN z=nz at*;simp (disch:=omega) only [Iv0,k1,k2,EVM,EVC,xe,EVP,EV,simprocAttr]
def Ad9 (z:Zone) (n:List UInt8):Option (List UInt8):=(upN z.origin n).find? (exB z)
def encN (z:Zone) (n:List UInt8):List UInt8:=if under n z.origin=true then (Ad9 z n).getD [] else []
theorem oz {n:List UInt8} (h:vld n=true):n≠[]:=fun e=>by subst e;simp [vld,nm] at h
theorem Lj {z:Zone} {n e:List UInt8} (hu:under n z.origin=true) (h:Ad9 z n=some e):under n e=true∧exB z e=true:=by unfold Ad9 at h;have h1:=List.mem_of_find?_eq_some h;have h2:=List.find?_some h;exact ⟨((Mg hu).1 h1).1,h2⟩
theorem Yl (z:Zone) (n:List UInt8) (hz:z.wf) (hl:z.recs.length≤1000) (hn:n.length≤9223372036854775807):S Bz3 2 [z.pv, .s n]=some [.s (encN z n), .b (decide (encN z n≠[]))]:=by
 refine Iz0 (N:=1000) rfl ?_;have g1:=hz.origin;unfold Yx at g1;have k0:=E7 n z.origin hn g1;unfold encN;rcases Aq (under n z.origin) with hu|hu
 ·rw [if_pos hu];rw [hu] at k0;have k1:=Yh z hz hl;have hnl:=Uz z hl;have k2:∀x,S i7 2 [Bn (namesN z), .s x]=some [.b (exB z x)]:=fun x=>by rw [←Xw];exact P9 (namesN z) x hnl
  generalize namesN z=nz at*;obtain ⟨v1,v2,_⟩:=Bs.1 hu;have hlb:=K4 n;have h0:jn ((lbl n).drop 0)=n:=jc v1;let res:Option (List UInt8)→Out:=fun o=>match o with|some e=> .yld 0 [.s e]|none=> .ret [.s [], .b false]
  have key:Ef2.ev S 1000 [z.pv, .s n, .b true,Bn nz]=some (res (Ad9 z n)):=by
   have:=F5 (fn:=S) (N:=1000) (η:=[z.pv, .s n, .b true,Bn nz]) (id:=1) (init:=[(.v 1)]) (body:=Dw5) ((lbl n).length - (lbl z.origin).length)
    (fun k=>[.s (jn ((lbl n).drop k))]) (fun k=>res (((upN z.origin n).drop k).find? (exB z))) ?_ (by omega) (fun k hk=> ?_) ?_
   ·exact this
   ·rw [h0];simp (disch:=omega) only [EVM,EVC,xe,EVP,EV,simprocAttr]
   ·have hup:(upN z.origin n)[k]? =some (jn ((lbl n).drop k)):=Ol (Nat.le_of_lt hk);have hd:(upN z.origin n).drop k=jn ((lbl n).drop k)::(upN z.origin n).drop (k+1):=by obtain ⟨h1,h2⟩:=Av.1 hup;rw [Cd h1,h2]
    obtain ⟨q1,q2⟩:=Al9 hu hk;have q3:¬jn ((lbl n).drop k)=z.origin:=fun h=>by have:=(T3 hu (Nat.le_of_lt hk)).1 h;omega
    have q4:=um v1 k;have k1:=Pz (jn ((lbl n).drop k)) (by omega);rw [q1,q2] at k1;have k3:=k2 (jn ((lbl n).drop k));rw [hd];generalize jn ((lbl n).drop (k+1))=nx at*;generalize jn ((lbl n).drop k)=cu at*;rcases Aq (exB z cu) with h5|h5
    ·right;rw [h5] at k3;rw [List.find?_cons_of_pos h5];refine ⟨?_,rfl⟩;simp (disch:=omega) only [f4,k3,EVM,EVC,xe,EVP,EV,simprocAttr];rfl
    ·left;rw [h5] at k3;rw [List.find?_cons_of_neg (by simp [h5])];refine ⟨?_,rfl⟩;simp (disch:=omega) only [f4,k1,k3,q3,EVM,EVC,xe,EVP,EV,simprocAttr]
   ·have hup:(upN z.origin n)[(lbl n).length - (lbl z.origin).length]? =some (jn ((lbl n).drop ((lbl n).length - (lbl z.origin).length))):=Ol (Af _);have hd:(upN z.origin n).drop ((lbl n).length - (lbl z.origin).length)=[jn ((lbl n).drop ((lbl n).length - (lbl z.origin).length))]:=by obtain ⟨h1,h2⟩:=Av.1 hup;have h9:(upN z.origin n).drop ((lbl n).length - (lbl z.origin).length+1)=[]:=Jg (by simp [upN]);rw [Cd h1,h2,h9]
    have q3:=(T3 hu (Af _)).2 rfl;rw [hd,q3];have k3:=k2 z.origin;rcases Aq (exB z z.origin) with h5|h5
    ·rw [h5] at k3;rw [List.find?_cons_of_pos h5];refine ⟨?_,rfl⟩;simp (disch:=omega) only [f4,k3,EVM,EVC,xe,EVP,EV,simprocAttr];rfl
    ·rw [h5] at k3;rw [List.find?_cons_of_neg (by simp [h5]),List.find?_nil];refine ⟨?_,rfl⟩;simp (disch:=omega) only [f4,k3,EVM,EVC,xe,EVP,EV,simprocAttr];rfl
  cases he:Ad9 z n with
  |none=>
   rw [he] at key;simp only [res] at key;simp (disch:=omega) only [f4,k0,k1,key,EVM,EVC,xe,EVP,EV,simprocAttr];simp
  |some e=>
   rw [he] at key;simp only [res] at key;have h6:=oz (Bs.1 (Lj hu he).1).2.1;simp (disch:=omega) only [f4,k0,k1,key,EVM,EVC,xe,EVP,EV,simprocAttr];simp [h6]
 ·rw [if_neg (by simp [hu])];rw [hu] at k0;simp (disch:=omega) only [f4,k0,EVM,EVC,xe,EVP,EV,simprocAttr]
  try simp
def bestF (n:List UInt8):List UInt8→List (List UInt8)→List UInt8
 |b,[]=>b
 |b,x::r=>bestF n (if under n x && (decide (b=[])||decide ((lbl b).length<(lbl x).length)) then x else b) r
theorem Q2 (n:List UInt8):∀(l:List (List UInt8)) (b:List UInt8),(b=[]∨under n b=true)→
  (bestF n b l=[]→b=[]∧∀x∈l,under n x=false)∧
  (bestF n b l≠[]→under n (bestF n b l)=true∧(bestF n b l=b∨bestF n b l∈l)∧(b≠[]→(lbl b).length≤(lbl (bestF n b l)).length)∧∀x∈l,under n x=true→(lbl x).length≤(lbl (bestF n b l)).length)
 |[],b,hb=>by simp only [bestF];refine ⟨fun h=>⟨h,fun r hr=>by simp at hr⟩,fun h=>⟨hb.resolve_left h, .inl trivial,fun _=>Af _,fun r hr=>by simp at hr⟩⟩
 |x::rs,b,hb=>by
  simp only [bestF];have hne:under n x=true→x≠[]:=fun h=>oz (Bs.1 h).2.1;by_cases hc:(under n x && (decide (b=[])||decide ((lbl b).length<(lbl x).length)))=true
  ·rw [if_pos hc];simp only [Aw,Ap,decide_eq_true_eq] at hc;obtain ⟨c2,c3⟩:=hc;obtain ⟨h1,h2⟩:=Q2 n rs x (.inr c2);refine ⟨fun h=>absurd (h1 h).1 (hne c2),fun h=> ?_⟩;obtain ⟨g1,g2,g3,g4⟩:=h2 h;refine ⟨g1, .inr ?_,fun hb0=> ?_,fun y hy hy2=> ?_⟩
   ·rcases g2 with g2|g2
    ·rw [g2];exact .head _
    ·exact .tail _ g2
   ·have:=g3 (hne c2);rcases c3 with c3|c3
    ·exact absurd c3 hb0
    ·omega
   ·rcases Am.1 hy with rfl|hy
    ·exact g3 (hne c2)
    ·exact g4 y hy hy2
  ·rw [if_neg hc];obtain ⟨h1,h2⟩:=Q2 n rs b hb;have hr:under n x=true→b≠[]∧(lbl x).length≤(lbl b).length:=by intro c2;simp only [c2,Gg2,Ap,decide_eq_true_eq,not_or,Nat.not_lt] at hc;exact hc
   refine ⟨fun h=> ?_,fun h=> ?_⟩
   ·obtain ⟨g1,g2⟩:=h1 h;refine ⟨g1,fun y hy=> ?_⟩;rcases Am.1 hy with rfl|hy
    ·rcases Aq (under n y) with h3|h3
     ·exact absurd g1 (hr h3).1
     ·exact h3
    ·exact g2 y hy
   ·obtain ⟨g1,g2,g3,g4⟩:=h2 h;refine ⟨g1,?_,g3,fun y hy hy2=> ?_⟩
    ·rcases g2 with g2|g2
     ·exact .inl g2
     ·exact .inr (.tail _ g2)
    ·rcases Am.1 hy with rfl|hy
     ·obtain ⟨q1,q2⟩:=hr hy2;have:=g3 q1;omega
     ·exact g4 y hy hy2
theorem Nk {a b c:List UInt8} (h1:under a b=true) (h2:under b c=true):under a c=true:=by obtain ⟨v1,_,s1⟩:=Bs.1 h1;obtain ⟨_,v3,s2⟩:=Bs.1 h2;exact Bs.2 ⟨v1,v3,s2.trans s1⟩
theorem Dw1 (z:Zone) (n:List UInt8):bestF n [] (namesN z)=encN z n:=by
 obtain ⟨h1,h2⟩:=Q2 n (namesN z) [] (.inl rfl);have hin:∀x,x∈namesN z↔exB z x=true:=fun x=>by rw [←Xw];simp
 have hor:∀x,exB z x=true→under x z.origin=true:=fun x hx=>by obtain ⟨_,_,_,_,_,h⟩:=(P2 z x).1 hx;exact h
 unfold encN;by_cases hb:bestF n [] (namesN z)=[]
 ·have:=(h1 hb).2;rw [hb];rcases Aq (under n z.origin) with hu|hu
  ·rw [if_pos hu];cases he:Ad9 z n with
   |none=>rfl
   |some e=>
    obtain ⟨g1,g2⟩:=Lj hu he;have:=this e ((hin e).2 g2);rw [g1] at this;cases this
  ·rw [if_neg (by simp [hu])]
 ·obtain ⟨g1,g2,_,g4⟩:=h2 hb;have g3:exB z (bestF n [] (namesN z))=true:=(hin _).1 (g2.resolve_left hb);have hu:under n z.origin=true:=Nk g1 (hor _ g3);rw [if_pos hu];generalize bestF n [] (namesN z)=b at*;have hm:b∈upN z.origin n:=(Mg hu).2 ⟨g1,hor _ g3⟩;cases he:Ad9 z n with
  |none=>
   unfold Ad9 at he;rw [List.find?_eq_none] at he;exact absurd g3 (he b hm)
  |some e=>
   obtain ⟨q1,q2⟩:=Lj hu he;have q3:=g4 e ((hin e).2 q2) q1;have q4:(lbl b).length≤(lbl e).length:=by
    unfold Ad9 at he;obtain ⟨_,pa,pb,he2,he3⟩:=List.find?_eq_some_iff_append.1 he;obtain ⟨v1,v2,vs⟩:=Bs.1 hu;have hbm:=hm;rw [he2] at hbm;rcases B0.1 hbm with hbm|hbm
    ·have:=he3 b hbm;rw [g3] at this;cases this
    ·rcases Am.1 hbm with rfl|hbm
     ·exact Af _
     ·obtain ⟨j,hj⟩:=C4 hbm;have e1:(upN z.origin n)[pa.length]? =some e:=by rw [he2,A0 (Af _)];simp
      have e2:(upN z.origin n)[pa.length+1+j]? =some b:=by rw [he2,A0 (by omega),show pa.length+1+j - pa.length=j+1 by omega];simpa using hj
      have l2:=(Av.1 e2).1;rw [show (upN z.origin n).length=(lbl n).length - (lbl z.origin).length+1 by simp [upN]] at l2;rw [Ol (by omega)] at e1 e2;injection e1 with e1;injection e2 with e2;rw [←e1,←e2,(Lf v1 _).2,(Lf v1 _).2,B3,B3];omega
   obtain ⟨_,vb,sb⟩:=Bs.1 g1;obtain ⟨_,ve,se⟩:=Bs.1 q1;rw [En] at sb se;show b=e;refine K5 vb ve ?_;rw [sb,se,Nat.le_antisymm q4 q3]
end Go.X.G
/- Names with another end; redirections; what records of a name say. -/
namespace Go.X
structure Res where
 kind:Int
 owner:List UInt8
 wild:Bool
 target:List UInt8
 recs:List Rec
 deriving DecidableEq
def Res.cells (x:Res):List PV:=[.i .i64 x.kind, .s x.owner, .b x.wild, .s x.target,Ah x.recs]
def Res.pv (x:Res):PV:= .a x.cells
theorem Bk8 (x:Res):Br 0 x.pv=some (.i .i64 x.kind):=rfl
theorem Bk7 (x:Res):Br 1 x.pv=some (.s x.owner):=rfl
theorem Bk6 (x:Res):Br 2 x.pv=some (.b x.wild):=rfl
theorem Bk5 (x:Res):Br 3 x.pv=some (.s x.target):=rfl
theorem Bk4 (x:Res):Br 4 x.pv=some (Ah x.recs):=rfl
theorem Fh7 (x:Res):Jj 0 5 x.pv=some x.pv:=rfl
theorem Ft6 (x:Res):Qw 5 x.pv=some x.pv:=rfl
theorem Ek9 (k:Int) (o:List UInt8) (w:Bool) (t:List UInt8) (l:List Rec):PV.a [.i .i64 k, .s o, .b w, .s t,Ah l]=Res.pv ⟨k,o,w,t,l⟩:=rfl
theorem Ap2 (l:List Rec) (k:IntKind) (z:Int) (n:List UInt8) (x:Rec) (h0:0≤z) (h3:l[z.toNat]? =some x):
  Qk 16 0 [.s n] (Ah l) (.i k z)=some (Ah (l.set z.toNat {x with name:=n})):=by
 have h4:(l.map Rec.pv)[z.toNat]? =some x.pv:=by rw [Bf,h3];rfl
 simp only [Qk,Ah,h0,h4,and_self,if_true,Ay];have h5:O5 x.pv 0 [.s n]=some (Rec.pv {x with name:=n}):=rfl;rw [h5];simp [List.map_set]
set_option linter.defProp false in
def EVR:=(And.intro @Bk8 (And.intro @Bk7 (And.intro @Bk6 (And.intro @Bk5 (And.intro @Bk4 (And.intro @Fh7 (And.intro @Ft6 @Ek9)))))))
end Go.X
namespace Go.X.G
open Go Go.X
def Zm (n top to:List UInt8):List (List UInt8):=(lbl n).take ((lbl n).length - (lbl top).length)++lbl to
def replN (n top to:List UInt8):List UInt8×Int:=
 if vld n=true∧vld top=true∧vld to=true∧(lbl to)[0]? ≠some [42] then
  if under n top=true∧n≠top then
   if (flat (Zm n top to)).length≤254 then (flat (Zm n top to),0) else ([],9)
  else ([],1)
 else ([],2)
theorem dx {l:List (List UInt8)} (h:Fg true l=true) (h2:l[0]? ≠some [42]):Fg false l=true:=by
 cases l with
 |nil=>rfl
 |cons p r=>
  simp only [Fg,Aw] at h ⊢;refine ⟨⟨h.1.1,?_⟩,h.2⟩;have:p≠[42]:=fun e=>h2 (by rw [e];rfl);simp [this]
theorem Ak1 {n top to:List UInt8} (hu:under n top=true) (hne:n≠top) (ht:vld to=true) (hs:(lbl to)[0]? ≠some [42]):Fg true (Zm n top to)=true∧Zm n top to≠[]∧(lbl n).take ((lbl n).length - (lbl top).length)≠[]:=by
 obtain ⟨vn,vt,sf⟩:=Bs.1 hu;have hlt:(lbl top).length<(lbl n).length:=by
  have:=sf.length_le;rcases Nat.lt_or_ge (lbl top).length (lbl n).length with h|h
  ·exact h
  ·exact absurd (Jw hu h) hne
 have h1:(lbl n).take ((lbl n).length - (lbl top).length)≠[]:=by intro e;have:=congrArg List.length e;rw [An,Bd] at this;omega
 have h2:Fg true ((lbl n).take ((lbl n).length - (lbl top).length))=true:=by have:=Qg vn;rw [←Bl ((lbl n).length - (lbl top).length) (lbl n),N1,Aw] at this;exact this.1
 refine ⟨?_,by unfold Zm;simp [h1],h1⟩;unfold Zm;rw [N1,h2,List.isEmpty_eq_false_iff.2 h1];simp [dx (Qg ht) hs]
theorem X9 (s t:List UInt8) (hs:s.length≤9223372036854775807) (h:t.isSuffixOf s=true):S b8 2 [.s s, .s t]=some [.s (s.take (s.length - t.length))]:=by
 have hle:t.length≤s.length:=(E2.1 h).length_le;have k1:=Oy s t hs;rw [h] at k1;have k2:S bq 2 [.s s, .s t]=some [.s (s.take (s.length - t.length))]:=by
  refine Hj1 (N:=1) rfl ?_;have h6:Aj7 (.s s) (.i .i64 0) (.i .i64 ((s.length:Int) - (t.length:Int)))=some (.s (s.take (s.length - t.length))):=by
   rw [Gp2 _ _ _ _ _ (by omega) (by omega) (by omega)];have:((s.length:Int) - (t.length:Int)).toNat=s.length - t.length:=by omega
   rw [this];simp
  simp (disch:=omega) only [Gh2,k1,h6,EVM,EVC,xe,EVP,EV,simprocAttr]
 refine Hq6 (N:=1) rfl ?_;simp (disch:=omega) only [Gl0,k2,EVM,EVC,xe,EVP,EV,simprocAttr]
theorem fm (n top to:List UInt8) (hn:n.length≤9223372036854775807) (ht:top.length≤9223372036854775807) (hto:to.length≤9223372036854775807):S Bz5 3 [.s n, .s top, .s to]=some [.s (replN n top to).1, .i .i64 (replN n top to).2]:=by
 refine Iz4 (N:=1) rfl ?_;have k1:=B4 n hn;have k2:=B4 top ht;have k3:=B4 to hto;unfold replN;rcases Aq (vld n) with v1|v1
 ·rcases Aq (vld top) with v2|v2
  ·rcases Aq (vld to) with v3|v3
   ·rw [v1] at k1;rw [v2] at k2;rw [v3] at k3;have hp:=M9 v3;have hsf:=O4 v3;obtain ⟨c,hc⟩:∃c,to[0]? =some c:=⟨_,Az hp⟩;rw [hc] at hsf;by_cases hs:c=42
    ·rw [if_neg (by rw [hs] at hsf;simp [hsf.1 rfl])];subst hs;simp (disch:=omega) only [Q6,k1,k2,k3,hc,EVM,EVC,xe,EVP,EV,simprocAttr]
     try simp
    ·have hs':(lbl to)[0]? ≠some [42]:=fun e=>hs (by have:=hsf.2 e;simpa using this);have hcc:¬(c.toNat:Int)=42:=fun e=>hs (by apply UInt8.toNat.inj;have:(42:UInt8).toNat=42:=rfl;omega)
     rw [if_pos ⟨v1,v2,v3,hs'⟩];have tl:=Iw v2;have k4:=Bn7 n top hn (by omega);rw [T5 v1 v2] at k4;by_cases he:n=top
     ·rw [if_neg (by simp [he])];simp (disch:=omega) only [Q6,k1,k2,k3,hc,hcc,he,EVM,EVC,xe,EVP,EV,simprocAttr]
     ·rcases Aq (under n top) with hu|hu
      ·rw [hu] at k4;rw [if_pos ⟨hu,he⟩];obtain ⟨q1,q2,q3⟩:=Ak1 hu he v3 hs';have nl:=Iw v1;have tol:=Iw v3;have hnr:n≠[46]:=by rintro rfl;have:=(Bs.1 hu).2.2.length_le;rw [H3] at this;exact he (K5 v1 v2 (by rw [H3];exact (List.length_eq_zero_iff.1 (by simpa using this)).symm))
       have hnf:n=flat (lbl n):=by have:=Mj v1;unfold jn at this;rwa [if_neg (fun h=>hnr ((W5 v1).1 h))] at this
       have hsp:lbl n=(lbl n).take ((lbl n).length - (lbl top).length)++lbl top:=by
        have:=(Bs.1 hu).2.2;rw [En] at this
        conv=>lhs;rw [←Bl ((lbl n).length - (lbl top).length) (lbl n)]
        rw [←this]
       have hhead:∃hd,hd=flat ((lbl n).take ((lbl n).length - (lbl top).length))∧hd.length≤254∧∀p3 p4 p5 p6,Cz3.ev S 1 [.s n, .s top, .s to,p3,p4,p5,p6]=some (.yld 0 [.s hd]):=by
        refine ⟨_,rfl,?_,fun p3 p4 p5 p6=> ?_⟩
        ·have:(flat (lbl n)).length≤254:=by rw [←hnf];exact nl
         rw [hsp,L3,Ac] at this;omega
        ·by_cases hr:top=[46]
         ·subst hr;rw [H3,Dm] at hsp;rw [H3,←hsp,←hnf];simp (disch:=omega) only [Q6,EVM,EVC,xe,EVP,EV,simprocAttr]
         ·have htf:top=flat (lbl top):=by have:=Mj v2;unfold jn at this;rwa [if_neg (fun h=>hr ((W5 v2).1 h))] at this
          have hna:n=flat ((lbl n).take ((lbl n).length - (lbl top).length))++top:=by
           conv=>lhs;rw [hnf,hsp,L3]
           rw [←htf]
          have hsuf:top.isSuffixOf n=true:=E2.2 ⟨_,hna.symm⟩;have k5:=X9 n top hn hsuf;have htk:n.take (n.length - top.length)=flat ((lbl n).take ((lbl n).length - (lbl top).length)):=by
           conv=>lhs;rw [hna]
           rw [Ac,Kl,Af9]
          rw [htk] at k5;generalize flat ((lbl n).take ((lbl n).length - (lbl top).length))=hd at*;simp (disch:=omega) only [Q6,k5,hr,EVM,EVC,xe,EVP,EV,simprocAttr]
       obtain ⟨hd,hd1,hd2,hd3⟩:=hhead;have hfin:flat (Zm n top to)=if to=[46] then hd else hd++to:=by
        unfold Zm;rw [L3,←hd1];by_cases hr:to=[46]
        ·rw [if_pos hr,hr,H3];simp [flat]
        ·rw [if_neg hr];have:=Mj v3;unfold jn at this;rw [if_neg (fun h=>hr ((W5 v3).1 h))] at this;rw [←this]
       rw [hfin];by_cases hr:to=[46]
       ·rw [if_pos hr];subst hr;have h1:¬(255:Int)≤(hd.length:Int):=by omega
        rw [if_pos hd2];simp (disch:=omega) only [Q6,k1,k2,k3,k4,hc,hcc,he,hd3,h1,EVM,EVC,xe,EVP,EV,simprocAttr]
       ·rw [if_neg hr];by_cases hlen:(hd++to).length≤254
        ·rw [if_pos hlen];have h1:¬(255:Int)≤((hd++to).length:Int):=by omega
         simp (disch:=first|omega|(rw [Ac] at*;omega)) only [Q6,k1,k2,k3,k4,hc,hcc,he,hd3,hr,h1,EVM,EVC,xe,EVP,EV,simprocAttr]
        ·rw [if_neg hlen];have h1:(255:Int)≤((hd++to).length:Int):=by omega
         simp (disch:=first|omega|(rw [Ac] at*;omega)) only [Q6,k1,k2,k3,k4,hc,hcc,he,hd3,hr,h1,EVM,EVC,xe,EVP,EV,simprocAttr]
      ·rw [hu] at k4;rw [if_neg (by simp [hu])];simp (disch:=omega) only [Q6,k1,k2,k3,k4,hc,hcc,he,EVM,EVC,xe,EVP,EV,simprocAttr]
   ·rw [if_neg (by simp [v3])];rw [v1] at k1;rw [v2] at k2;rw [v3] at k3;simp (disch:=omega) only [Q6,k1,k2,k3,EVM,EVC,xe,EVP,EV,simprocAttr]
  ·rw [if_neg (by simp [v2])];rw [v1] at k1;rw [v2] at k2;simp (disch:=omega) only [Q6,k1,k2,EVM,EVC,xe,EVP,EV,simprocAttr]
 ·rw [if_neg (by simp [v1])];rw [v1] at k1;simp (disch:=omega) only [Q6,k1,EVM,EVC,xe,EVP,EV,simprocAttr]
end Go.X.G
/- What a zone says about a question: the program and the reference. -/
namespace Go.X.G
open Go Go.X
theorem nt (z:Zone) (n:List UInt8) (t:Int) (hl:z.recs.length≤1000000):S Ay6 3 [z.pv, .s n, .i .i64 t]=some [Ah (findR z.recs n t)]:=by refine Ic4 (N:=1) rfl ?_;have k1:=Ey8 z.recs n t hl;simp (disch:=omega) only [Iv1,k1,EVM,EVC,xe,EVP,EV,simprocAttr]
abbrev Ik8:Res:=⟨0,[],false,[],[]⟩
def gp (s:List UInt8):List UInt8:=if s[0]? =some 42 then [] else s
def dnB (z:Zone) (u:List UInt8):Bool:=decide (0<(findR z.recs u 39).length)
def Ij2 (z:Zone) (n:List UInt8):Option (List UInt8):=((upN z.origin n).drop 1).find? (dnB z)
def tw (z:Zone) (n u:List UInt8):Res:=
 match findR z.recs u 39 with
 |r::_=>⟨3,u,false,gp (replN n u r.data.host).1,[r]⟩
 |[]=>Ik8
def Fm7 (z:Zone) (n:List UInt8):Option Res:=(Ij2 z n).map (tw z n)
def Kv:Option Res→List PV
 |some x=>[x.pv, .b true]
 |none=>[Ik8.pv, .b false]
theorem Eq8 {z:Zone} (hz:z.wf) {n:List UInt8} {t:Int} {r:Rec} (h:r∈findR z.recs n t):r.wf:=hz.recs.2 r (Bp.1 h).1
theorem Az7 (z:Zone) (n:List UInt8) (t:Int):(findR z.recs n t).length≤z.recs.length:=Ec _ _
theorem c42 (c:UInt8):(c.toNat:Int)=42↔c=42:=by
 constructor
 ·intro h;apply UInt8.toNat.inj;have:(42:UInt8).toNat=42:=rfl;omega
 ·rintro rfl;rfl
theorem Ff5 (z:Zone) (n:List UInt8) (hz:z.wf) (hl:z.recs.length≤1000000) (hu:under n z.origin=true) (N:Nat) (hN:1000<N):
  Eg1.ev S N [z.pv, .s n]=some (match Fm7 z n with|some x=> .ret [x.pv, .b true]|none=> .yld 0 [.i .i64 0, .s [], .b false, .s [],Ah []]):=by
 obtain ⟨v1,v2,_⟩:=Bs.1 hu;have hlb:=K4 n;have nl:=Iw v1;have h0:jn ((lbl n).drop 0)=n:=jc v1;let res:Option (List UInt8)→Out:=fun o=>match o.map (tw z n) with|some x=> .ret [x.pv, .b true]|none=> .yld 0 [.i .i64 0, .s [], .b false, .s [],Ah []]
 have:=F5 (fn:=S) (N:=N) (η:=[z.pv, .s n]) (id:=1) (init:=[(.v 1),(.c (.i .i64 (0))),(.c (.s [])),(.c (.b false)),(.c (.s [])),(.c (.l 16 []))]) (body:=Dw7) ((lbl n).length - (lbl z.origin).length)
  (fun k=>[.s (jn ((lbl n).drop k)), .i .i64 0, .s [], .b false, .s [],Ah []]) (fun k=>res (((upN z.origin n).drop (k+1)).find? (dnB z))) ?_ (by omega) (fun k hk=> ?_) ?_
 ·exact this
 ·rw [h0];simp (disch:=omega) only [EVM,EVC,xe,EVP,EV,simprocAttr]
 ·have hup:(upN z.origin n)[k+1]? =some (jn ((lbl n).drop (k+1))):=Ol hk;have hd:(upN z.origin n).drop (k+1)=jn ((lbl n).drop (k+1))::(upN z.origin n).drop (k+1+1):=by obtain ⟨h1,h2⟩:=Av.1 hup;rw [Cd h1,h2]
  obtain ⟨q1,q2⟩:=Al9 hu hk;have q3:¬jn ((lbl n).drop k)=z.origin:=fun h=>by have:=(T3 hu (Nat.le_of_lt hk)).1 h;omega
  have q4:=um v1 k;have q5:=um v1 (k+1);have k1:=Pz (jn ((lbl n).drop k)) (by omega);rw [q1,q2] at k1;have k2:=nt z (jn ((lbl n).drop (k+1))) 39 hl;rw [hd];generalize jn ((lbl n).drop (k+1))=nx at*;generalize jn ((lbl n).drop k)=cu at*;cases hf:findR z.recs nx 39 with
  |nil=>
   left;have h5:dnB z nx=false:=by unfold dnB;rw [hf];rfl
   rw [hf] at k2;rw [List.find?_cons_of_neg (by simp [h5])];refine ⟨?_,rfl⟩;simp (disch:=omega) only [f8,k1,k2,q3,EVM,EVC,EVR,xe,EVP,EV,simprocAttr]
   try rfl
  |cons r rest=>
   right;have h5:dnB z nx=true:=by unfold dnB;rw [hf];simp
   have hrw:=Eq8 hz (n:=nx) (t:=39) (r:=r) (by rw [hf];exact .head _);have hll:=Az7 z nx 39;have hh:=hrw.data.host;unfold Yx at hh;have k3:=fm n nx r.data.host (by omega) (by omega) hh;rw [hf] at k2 hll;rw [List.find?_cons_of_pos h5];have e:res (some nx)= .ret [(Res.mk 3 nx false (gp (replN n nx r.data.host).1) [r]).pv, .b true]:=by simp only [res,A4,tw,hf]
   rw [e];refine ⟨?_,rfl⟩;have hpos:(0:Int)<((r::rest).length:Int):=by simp only [A3];omega
   have hls:G0 16 (Ah (r::rest)) (.i .i64 0) (.i .i64 1)=some (Ah [r]):=by rw [Gt _ _ _ _ _ (by omega) (by omega) (by omega)];rfl
   have hix:Hj 16 (Ah (r::rest)) (.i .i64 0)=some r.pv:=by rw [J3 _ _ _ (by omega)];rfl
   unfold gp;generalize replN n nx r.data.host=rp at*;obtain ⟨to,er⟩:=rp;generalize (r::rest)=ll at*;cases to with
   |nil=>
    simp (disch:=omega) only [f8,k1,k2,k3,q3,hpos,hls,hix,EVM,EVC,EVR,xe,EVP,EV,simprocAttr]
    try simp
   |cons c tr=>
    by_cases hc:c=42
    ·subst hc;simp (disch:=omega) only [f8,k1,k2,k3,q3,hpos,hls,hix,EVM,EVC,EVR,xe,EVP,EV,simprocAttr]
     try simp
    ·have hc2:¬(c.toNat:Int)=42:=fun h=>hc ((c42 c).1 h);simp (disch:=omega) only [f8,k1,k2,k3,q3,hpos,hls,hix,hc2,EVM,EVC,EVR,xe,EVP,EV,simprocAttr]
     try simp [hc]
 ·have q3:=(T3 hu (Af _)).2 rfl;have h9:(upN z.origin n).drop ((lbl n).length - (lbl z.origin).length+1)=[]:=Jg (by simp [upN]);rw [h9,q3,List.find?_nil];refine ⟨?_,rfl⟩;simp (disch:=omega) only [f8,EVM,EVC,EVR,xe,EVP,EV,simprocAttr]
  try rfl
theorem Yg (z:Zone) (n:List UInt8) (hz:z.wf) (hl:z.recs.length≤1000000) (hu:under n z.origin=true):S Bb6 2 [z.pv, .s n]=some (Kv (Fm7 z n)):=by
 refine Ic3 (N:=1001) rfl ?_;have key:=Ff5 z n hz hl hu 1001 (by omega);cases h:Fm7 z n with
 |none=>
  rw [h] at key;simp (disch:=omega) only [f8,key,Kv,EVM,EVC,EVR,xe,EVP,EV,simprocAttr]
 |some x=>
  rw [h] at key;simp (disch:=omega) only [f8,key,Kv,EVM,EVC,EVR,xe,EVP,EV,simprocAttr]
def allR (z:Zone) (n:List UInt8):List Rec:=z.recs.filter fun r=>decide (r.name=n)
def Hr1 (t:Int):Bool:=decide (t=5)||decide (t=47)||decide (t=46)||decide (t=255)
def typedR (l:List Rec) (t:Int):List Rec:=if t=255 then l else l.filter fun r=>decide (r.typ=t)
def It1 (l:List Rec) (t:Int):Option Rec:=if Hr1 t=true then none else l.find? fun r=>decide (r.typ=5)
def saysM (l:List Rec) (t:Int):Res:=
 match It1 l t with
 |some c=>⟨2,[],false,c.data.host,[c]⟩
 |none=>if typedR l t=[] then ⟨5,[],false,[],[]⟩ else ⟨1,[],false,[],typedR l t⟩
theorem tp (z:Zone) (n:List UInt8) (hl:z.recs.length≤1000000):S Ay4 2 [z.pv, .s n]=some [Ah (allR z n)]:=by
 refine Ic0 (N:=z.recs.length+1) rfl ?_;have key:Eg0.ev S (z.recs.length+1) [z.pv, .s n]=some (.yld 0 [Ah ([]++allR z n)]):=by
  refine F6 z.recs (fun i (b:List Rec)=>[Ah b, .i .i64 (i:Int)]) (fun i b r=> .yld 0 [Ah (b++r.filter fun r=>decide (r.name=n))]) (fun i b=>b.length≤i) [] rfl (Cr _) (by omega) (fun i b c r hd hi hc hI=> ?_) (fun b hI=> ?_)
  ·left;by_cases h:c.name=n
   ·refine ⟨b++[c],?_,by simp;omega,by simp [h]⟩;simp (disch:=omega) only [Dc5,hc,h,EVM,EVC,EVR,xe,EVP,EV,simprocAttr]
    try simp [←h]
   ·refine ⟨b,?_,by omega,by simp [h]⟩;simp (disch:=omega) only [Dc5,hc,h,EVM,EVC,EVR,xe,EVP,EV,simprocAttr]
  ·simp (disch:=omega) only [Dc5,EVM,EVC,EVR,xe,EVP,EV,simprocAttr]
   try simp [Out.goes]
 rw [Cm] at key;generalize allR z n=ar at*;simp (disch:=omega) only [Dc5,key,EVM,EVC,EVR,xe,EVP,EV,simprocAttr]
theorem Am1 (r:Rec) (t:Int):S Ut 1 [r.pv, .i .i64 t]=some [.b (decide (r.typ≠t))]:=by
 refine Hk8 (N:=1) rfl ?_;simp (disch:=omega) only [Gh8,EVM,EVC,EVR,xe,EVP,EV,simprocAttr]
 try simp
theorem od (l:List Rec) (t:Int) (hl:l.length≤1000000):S Ay1 2 [Ah l, .i .i64 t]=some [Ah (typedR l t)]:=by
 refine Iz2 (N:=1) rfl ?_;unfold typedR;by_cases h:t=255
 ·rw [if_pos h];simp (disch:=omega) only [Gg5,h,EVM,EVC,EVR,xe,EVP,EV,simprocAttr]
 ·rw [if_neg h];have k1:=fj l hl;have k2:=Ad5 l Ut [.i .i64 t] _ hl (fun r _=>Am1 r t);have e:(l.filter fun x=> !decide (x.typ≠t))=l.filter fun r=>decide (r.typ=t):=by congr 1;funext x;simp
  rw [e] at k2;generalize (l.filter fun r=>decide (r.typ=t))=fl at*;simp (disch:=omega) only [Gg5,h,k1,k2,D1,Kf,EVT,EVM,EVC,EVR,xe,EVP,EV,simprocAttr]
theorem Bp7 (t:Int):S Bz4 1 [.i .i64 t]=some [.b (Hr1 t)]:=by
 refine Iz1 (N:=1) rfl ?_;unfold Hr1;by_cases h1:t=5
 ·subst h1;simp (disch:=omega) only [Ah0,EVM,EVC,EVR,xe,EVP,EV,simprocAttr];try simp
 ·by_cases h2:t=47
  ·subst h2;simp (disch:=omega) only [Ah0,EVM,EVC,EVR,xe,EVP,EV,simprocAttr];try simp
  ·by_cases h3:t=46
   ·subst h3;simp (disch:=omega) only [Ah0,EVM,EVC,EVR,xe,EVP,EV,simprocAttr];try simp
   ·by_cases h4:t=255
    ·subst h4;simp (disch:=omega) only [Ah0,EVM,EVC,EVR,xe,EVP,EV,simprocAttr];try simp
    ·simp (disch:=omega) only [Ah0,h1,h2,h3,h4,EVM,EVC,EVR,xe,EVP,EV,simprocAttr];try simp [h1,h2,h3,h4]
theorem T6 (l:List Rec) (t:Int):(typedR l t).length≤l.length:=by
 unfold typedR;split
 ·exact Af _
 ·exact Ec _ _
theorem Ap8 (l:List Rec) (t:Int) (hl:l.length≤1000000):S Ay5 2 [Ah l, .i .i64 t]=some [(saysM l t).pv]:=by
 refine Ic1 (N:=1) rfl ?_;have k1:=od l 5 hl;have k2:=od l t hl;have k3:=Bp7 t;have hh:(typedR l 5).head? =l.find? fun r=>decide (r.typ=5):=by unfold typedR;rw [if_neg (by omega),List.head?_filter]
 have hl2:=T6 l 5;have hl3:=T6 l t;have tail:∀a b,T.ev S 1 Cw4 [Ah l, .i .i64 t,a,b]=some (.ret [(if typedR l t=[] then (⟨5,[],false,[],[]⟩:Res) else ⟨1,[],false,[],typedR l t⟩).pv]):=by
  intro a b;by_cases h:typedR l t=[]
  ·rw [if_pos h];rw [h] at k2;simp (disch:=omega) only [Ah3,k2,EVM,EVC,EVR,xe,EVP,EV,simprocAttr]
   try rfl
  ·rw [if_neg h];have hp:(0:Int)<((typedR l t).length:Int):=by have:=Bv.2 h;omega
   generalize typedR l t=tl at*;simp (disch:=omega) only [Ah3,k2,hp,EVM,EVC,EVR,xe,EVP,EV,simprocAttr]
 unfold saysM It1;cases hf:typedR l 5 with
 |nil=>
  rw [hf] at k1 hh;have e:(if Hr1 t=true then none else l.find? fun r=>decide (r.typ=5))=none:=by rw [←hh];simp
  rw [e];simp (disch:=omega) only [↓tail,Ah3,k1,EVM,EVC,EVR,xe,EVP,EV,simprocAttr]
 |cons c r=>
  rw [hf] at k1 hh hl2;rw [List.head?_cons] at hh;rw [←hh];have hp:(0:Int)<((c::r).length:Int):=by simp only [A3];omega
  rcases Aq (Hr1 t) with hd|hd
  ·rw [hd] at k3;simp only [hd,if_true];simp (disch:=omega) only [↓tail,Ah3,k1,k3,hp,EVM,EVC,EVR,xe,EVP,EV,simprocAttr]
  ·rw [hd] at k3;simp only [hd,Ad,if_false];have hls:G0 16 (Ah (c::r)) (.i .i64 0) (.i .i64 1)=some (Ah [c]):=by rw [Gt _ _ _ _ _ (by omega) (by omega) (by omega)];rfl
   have hix:Hj 16 (Ah (c::r)) (.i .i64 0)=some c.pv:=by rw [J3 _ _ _ (by omega)];rfl
   generalize (c::r)=ll at*;simp (disch:=omega) only [Ah3,k1,k3,hp,hls,hix,EVM,EVC,EVR,xe,EVP,EV,simprocAttr]
end Go.X.G
/- Wildcards; what a zone says about a question. -/
namespace Go.X.G
open Go Go.X
def Tc (n:List UInt8) (r:Rec):Rec:={r with name:=n}
theorem Dn6 (l:List Rec) (n:List UInt8) (i:Nat) (c:Rec) (r g:List Rec) (hd:l.drop i=c::r) (hi:i<l.length) (hc:l[i]? =some c) (hg:g=(l.take i).map (Tc n)++l.drop i):
  g[i]? =some c∧g.length=l.length∧g.set i {c with name:=n}=(l.take (i+1)).map (Tc n)++l.drop (i+1):=by
 have hA:((l.take i).map (Tc n)).length=i:=by rw [E8,An];omega
 have hd1:l.drop (i+1)=r:=by rw [←Ch (i:=1) (j:=i),hd];rfl
 have ht:(l.take (i+1)).map (Tc n)=(l.take i).map (Tc n)++[Tc n c]:=by rw [Ck,hc,List.map_append];rfl
 rw [ht,hd1];rw [hd] at hg;have hlen:l.length=i+(r.length+1):=by have:=congrArg List.length hd;rw [B3,A3] at this;omega
 generalize (l.take i).map (Tc n)=A at*;subst hg;refine ⟨?_,?_,?_⟩
 ·rw [A0 (by omega),hA];simp
 ·rw [Ac,A3,hA];omega
 ·rw [Lc _ _ (by omega),hA];simp [Tc]
theorem Fg3 (z:Zone) (q:Ques) (l:List Rec) (p2 p3 p4 p5:PV) (N:Nat) (hN:l.length<N) (hl:l.length≤1000000):
  Ef9.ev S N [z.pv,q.pv,p2,p3,p4,p5,Ah l]=some (.yld 0 [Ah (l.map (Tc q.name))]):=by
 refine F6 l (fun i (g:List Rec)=>[Ah g, .i .i64 (i:Int)]) (fun i g r=> .yld 0 [Ah (l.map (Tc q.name))]) (fun i g=>g=(l.take i).map (Tc q.name)++l.drop i) l (by simp (disch:=omega) only [EVM,EVC,xe,EVP,EV,simprocAttr]) (by simp) hN (fun i g c r hd hi hc hI=> ?_) (fun g hI=> ?_)
 ·left;obtain ⟨h1,h2,h3⟩:=Dn6 l q.name i c r g hd hi hc hI;refine ⟨g.set i {c with name:=q.name},?_,h3,rfl⟩;have hs:Qk 16 0 [.s q.name] (Ah g) (.i .i64 (i:Int))=some (Ah (g.set i {c with name:=q.name})):=by have:=Ap2 g .i64 (i:Int) q.name c (by omega) (by rw [Gr];exact h1);rwa [Gr] at this
  generalize g.set i {c with name:=q.name}=g' at*;simp (disch:=omega) only [z7,h1,hs,EVM,EVC,EVR,xe,EVP,EV,simprocAttr]
 ·have e:g=l.map (Tc q.name):=by rw [hI];simp
  rw [←e];simp (disch:=omega) only [z7,EVM,EVC,EVR,xe,EVP,EV,simprocAttr]
  try simp [Out.goes]
def Al7 (z:Zone) (q:Ques):Option Res:=
 if Nx (encN z q.name)=true∧allR z (starN (encN z q.name))≠[] then
  some {saysM ((allR z (starN (encN z q.name))).map (Tc q.name)) q.typ with owner:=starN (encN z q.name),wild:=true}
 else none
theorem zc (z:Zone) (n:List UInt8):(allR z n).length≤z.recs.length:=Ec _ _
theorem Ev3 (z:Zone) (n:List UInt8):(encN z n).length≤254:=by
 unfold encN;rcases Aq (under n z.origin) with hu|hu
 ·rw [if_pos hu];cases h:Ad9 z n with
  |none=>simp
  |some e=>exact Iw (Bs.1 (Lj hu h).1).2.1
 ·rw [if_neg (by simp [hu])];simp
theorem Aj5:Nx []=false:=by decide
theorem Fg2 (z:Zone) (q:Ques) (hz:z.wf) (hl:z.recs.length≤1000) (hq:q.name.length≤9223372036854775807):S Bb4 2 [z.pv,q.pv]=some (Kv (Al7 z q)):=by
 refine Ib9 (N:=2000) rfl ?_;have k1:=Yl z q.name hz hl hq;have el:=Ev3 z q.name;have k2:=Ey4 (encN z q.name) (by omega);have k3:=tp z (starN (encN z q.name)) (by omega);have al:=zc z (starN (encN z q.name));unfold Al7;by_cases h1:encN z q.name=[]
 ·rw [h1] at k1 ⊢;rw [Aj5,if_neg (by simp)];simp (disch:=omega) only [z7,k1,Kv,EVM,EVC,EVR,xe,EVP,EV,simprocAttr]
  try simp
 ·have h2:decide (encN z q.name≠[])=true:=by simp [h1]
  rw [h2] at k1;rcases Aq (Nx (encN z q.name)) with h3|h3
  ·rw [h3] at k2;by_cases h4:allR z (starN (encN z q.name))=[]
   ·rw [if_neg (by simp [h4])];rw [h4] at k3;simp (disch:=omega) only [z7,k1,k2,k3,Kv,EVM,EVC,EVR,xe,EVP,EV,simprocAttr]
    try simp
   ·rw [if_pos ⟨h3,h4⟩];have h5:¬((allR z (starN (encN z q.name))).length:Int)=0:=by have:=Bv.2 h4;omega
    have k4:=fun p2 p3 p4 p5=>Fg3 z q (allR z (starN (encN z q.name))) p2 p3 p4 p5 2000 (by omega) (by omega);have k5:=Ap8 ((allR z (starN (encN z q.name))).map (Tc q.name)) q.typ (by rw [E8];omega);generalize (allR z (starN (encN z q.name))).map (Tc q.name)=ml at*;generalize allR z (starN (encN z q.name))=al at*;simp (disch:=omega) only [z7,k1,k2,k3,k4,k5,h5,Kv,EVM,EVC,EVR,xe,EVP,EV,simprocAttr]
  ·rw [h3] at k2;rw [if_neg (by simp [h3])];generalize allR z (starN (encN z q.name))=al at*;simp (disch:=omega) only [z7,k1,k2,k3,Kv,EVM,EVC,EVR,xe,EVP,EV,simprocAttr]
   try simp
def Ek5 (z:Zone) (q:Ques):Res:=
 match Fm7 z q.name with
 |some x=>x
 |none=>if exB z q.name=true then {saysM (allR z q.name) q.typ with owner:=q.name} else (Al7 z q).getD ⟨6,q.name,false,[],[]⟩
def findM (z:Zone) (q:Ques):Res:=
 if under q.name z.origin=true then
  if cutN z q.name≠[]∧(cutN z q.name≠q.name∨q.typ≠43) then ⟨4,cutN z q.name,false,[],findR z.recs (cutN z q.name) 2⟩ else Ek5 z q
 else Ik8
theorem jt (z:Zone) (q:Ques) (hz:z.wf) (hl:z.recs.length≤1000) (hq:q.name.length≤9223372036854775807):S i8 2 [z.pv,q.pv]=some [(findM z q).pv]:=by
 refine Id0 (N:=1) rfl ?_;have g1:=hz.origin;unfold Yx at g1;have k0:=E7 q.name z.origin hq g1;have k1:=Ff6 z q.name hz (by omega) hq;have k2:=nt z (cutN z q.name) 2 (by omega);have k4:=zn z q.name hz hl;have k5:=tp z q.name (by omega);have al:=zc z q.name;have k6:=Ap8 (allR z q.name) q.typ (by omega);have k7:=Fg2 z q hz hl hq;unfold findM;rcases Aq (under q.name z.origin) with hu|hu
 ·rw [if_pos hu];rw [hu] at k0;have k3:=Yg z q.name hz (by omega) hu;have tail:∀p3 p4,T.ev S 1 l7 [z.pv,q.pv, .b true,p3,p4]=some (.ret [(Ek5 z q).pv]):=by
   intro p3 p4;unfold Ek5;cases hr:Fm7 z q.name with
   |some x=>
    rw [hr] at k3;simp only [Kv] at k3;simp (disch:=omega) only [V5,k3,EVM,EVC,EVR,xe,EVP,EV,simprocAttr]
   |none=>
    rw [hr] at k3;simp only [Kv] at k3;rcases Aq (exB z q.name) with he|he
    ·rw [he] at k4;simp only [he,if_true];generalize saysM (allR z q.name) q.typ=sm at*;generalize allR z q.name=ar at*;simp (disch:=omega) only [V5,k3,k4,k5,k6,EVM,EVC,EVR,xe,EVP,EV,simprocAttr]
    ·rw [he] at k4;simp only [he,Ad,if_false];cases hw:Al7 z q with
     |some x=>
      rw [hw] at k7;simp only [Kv] at k7;simp (disch:=omega) only [V5,k3,k4,k7,EVM,EVC,EVR,xe,EVP,EV,simprocAttr]
      try rfl
     |none=>
      rw [hw] at k7;simp only [Kv] at k7;simp (disch:=omega) only [V5,k3,k4,k7,EVM,EVC,EVR,xe,EVP,EV,simprocAttr]
      try rfl
  by_cases h1:cutN z q.name=[]
  ·rw [h1] at k1;rw [if_neg (by simp [h1])];simp (disch:=omega) only [↓tail,V5,k0,k1,ne_eq,not_true,decide_false,EVM,EVC,EVR,xe,EVP,EV,simprocAttr]
  ·have h2:decide (cutN z q.name≠[])=true:=by simp [h1]
   rw [h2] at k1;by_cases h3:cutN z q.name=q.name
   ·by_cases h4:q.typ=43
    ·rw [if_neg (by simp [h3,h4])];rw [h3] at k1;simp (disch:=omega) only [↓tail,V5,k0,k1,h4,EVM,EVC,EVR,xe,EVP,EV,simprocAttr]
    ·rw [if_pos ⟨h1, .inr h4⟩];rw [h3] at k1 k2 ⊢;generalize findR z.recs q.name 2=fr at*;simp (disch:=omega) only [V5,k0,k1,k2,h4,EVM,EVC,EVR,xe,EVP,EV,simprocAttr]
   ·rw [if_pos ⟨h1, .inl h3⟩];generalize findR z.recs (cutN z q.name) 2=fr at*;simp (disch:=omega) only [V5,k0,k1,k2,h3,EVM,EVC,EVR,xe,EVP,EV,simprocAttr]
 ·rw [if_neg (by simp [hu])];rw [hu] at k0;simp (disch:=omega) only [V5,k0,EVM,EVC,EVR,xe,EVP,EV,simprocAttr]
theorem Fm8 {z:Zone} {n u:List UInt8} (h:Ij2 z n=some u):∃r rest,findR z.recs u 39=r::rest:=by
 unfold Ij2 at h;have:=List.find?_some h;unfold dnB at this;cases hf:findR z.recs u 39 with
 |nil=>rw [hf] at this;simp at this
 |cons r rest=>exact ⟨r,rest,rfl⟩
end Go.X.G
/- The order of records; what a checked zone is like. -/
namespace Go.X.G
open Go Go.X
theorem TO.prod {α β:Type} {l1:α→α→Prop} {l2:β→β→Prop} (h1:TO l1) (h2:TO l2):TO (fun p q:α×β=>l1 p.1 q.1∨(p.1=q.1∧l2 p.2 q.2)) where
 irr:=fun p h=>by
  rcases h with h|⟨_,h⟩
  ·exact h1.irr _ h
  ·exact h2.irr _ h
 tr:=fun p q r a b=>by
  rcases a with a|⟨a,a'⟩<;>rcases b with b|⟨b,b'⟩
  ·exact .inl (h1.tr _ _ _ a b)
  ·exact .inl (b▸a)
  ·exact .inl (a▸b)
  ·exact .inr ⟨a.trans b,h2.tr _ _ _ a' b'⟩
 tri:=fun p q=>by
  rcases h1.tri p.1 q.1 with a|a|a
  ·exact .inl (.inl a)
  ·rcases h2.tri p.2 q.2 with b|b|b
   ·exact .inl (.inr ⟨a,b⟩)
   ·exact .inr (.inl (Prod.ext a b))
   ·exact .inr (.inr (.inr ⟨a.symm,b⟩))
  ·exact .inr (.inr (.inl a))
theorem Gn3:TO (fun a b:Int=>a<b):=⟨fun a h=>by omega,fun a b c h1 h2=>by omega,fun a b=>by omega⟩
theorem Xp (a b:Int):v8 a b<0↔a<b:=by unfold v8;split<;>(try split)<;>omega
theorem Hl (a b:Int):v8 a b=0↔a=b:=by unfold v8;split<;>(try split)<;>omega
abbrev Key:=List UInt8×Int×List UInt8
abbrev ltK:Key→Key→Prop:=fun p q=>ltN p.1 q.1∨(p.1=q.1∧(p.2.1<q.2.1∨(p.2.1=q.2.1∧ltB p.2.2 q.2.2)))
theorem to_K:TO ltK:=to_N.prod (Gn3.prod Dz9)
def Db0 (r:Rec):Key:=(r.name,r.typ,Jl r.typ r.data)
abbrev ltR (a b:Rec):Prop:=ltK (Db0 a) (Db0 b)
theorem Nj {r:Rec} (h:Oh r=true):Ej r.typ r.data=true:=by unfold Oh at h;simp only [Aw] at h;exact h.2
theorem Y1 {r:Rec} (h:Oh r=true):vld r.name=true:=by unfold Oh at h;simp only [Aw] at h;exact h.1.1.1.1
theorem Eh2 {t:Int} {a b:Dat} (ha:Ej t a=true) (hb:Ej t b=true):Ew7 t a b=cmpS (Jl t a) (Jl t b):=by unfold Ew7;rw [ha,hb];rfl
theorem wj {a b:Rec} (ha:Oh a=true) (hb:Oh b=true):Tx a b<0↔ltR a b:=by
 unfold Tx ltR ltK Db0;simp only;by_cases h1:Jv a.name b.name=0
 ·rw [if_neg (by simp [h1])];have e1:=Hh.1 h1;have n1:¬ltN a.name b.name:=by rw [e1];exact to_N.irr _
  by_cases h2:v8 a.typ b.typ=0
  ·rw [if_neg (by simp [h2])];have e2:=(Hl _ _).1 h2;have ha':=Nj ha;have hb':=Nj hb;rw [e2] at ha' ⊢;rw [Eh2 ha' hb',Q1];constructor
   ·intro h;exact .inr ⟨e1, .inr ⟨rfl,h⟩⟩
   ·rintro (h|⟨_,h|⟨_,h⟩⟩)
    ·exact absurd h n1
    ·omega
    ·exact h
  ·rw [if_pos h2,Xp];have e2:a.typ≠b.typ:=fun e=>h2 ((Hl _ _).2 e);constructor
   ·intro h;exact .inr ⟨e1, .inl h⟩
   ·rintro (h|⟨_,h|⟨h,_⟩⟩)
    ·exact absurd h n1
    ·exact h
    ·exact absurd h e2
 ·rw [if_pos h1,Fx];have e1:a.name≠b.name:=fun e=>h1 (Hh.2 e);constructor
  ·intro h;exact .inl h
  ·rintro (h|⟨h,_⟩)
   ·exact h
   ·exact absurd h e1
theorem d4 {a b:Rec} (ha:Oh a=true) (hb:Oh b=true):Tx a b=0↔Db0 a=Db0 b:=by
 unfold Tx Db0;by_cases h1:Jv a.name b.name=0
 ·rw [if_neg (by simp [h1])];have e1:=Hh.1 h1;by_cases h2:v8 a.typ b.typ=0
  ·rw [if_neg (by simp [h2])];have e2:=(Hl _ _).1 h2;have ha':=Nj ha;have hb':=Nj hb;rw [e2] at ha' ⊢;rw [Eh2 ha' hb',Ic];simp [e1]
  ·rw [if_pos h2];have e2:a.typ≠b.typ:=fun e=>h2 ((Hl _ _).2 e);constructor
   ·intro h;exact absurd h h2
   ·intro h;injection h with _ h;injection h with h _;exact absurd h e2
 ·rw [if_pos h1];have e1:a.name≠b.name:=fun e=>h1 (Hh.2 e);constructor
  ·intro h;exact absurd h h1
  ·intro h;injection h with h _;exact absurd h e1
theorem Sz {x:Rec} (hx:Oh x=true):∀(l:List Rec),(∀r∈l,Oh r=true)→l.Pairwise ltR→(fw x l).Pairwise ltR
 |[],_,_=>by simp [fw]
 |y::r,hv,h=>by
  obtain ⟨h1,h2⟩:=A5.1 h;have hy:=hv y (.head _);have ih:=Sz hx r (fun w hw=>hv w (.tail _ hw)) h2;simp only [fw];by_cases c:Tx y x<0
  ·rw [if_pos c];refine A5.2 ⟨fun w hw=> ?_,ih⟩;rcases insR_mem x r w hw with rfl|hw
   ·exact (wj hy hx).1 c
   ·exact h1 w hw
  ·rw [if_neg c];by_cases e:Tx y x=0
   ·rw [if_pos e];split
    ·have ke:=(d4 hy hx).1 e;refine A5.2 ⟨fun w hw=> ?_,h2⟩;have:=h1 w hw;show ltK (Db0 x) (Db0 w);rw [←ke];exact this
    ·exact h
   ·rw [if_neg e];have hxy:ltR x y:=by
     rcases to_K.tri (Db0 x) (Db0 y) with q|q|q
     ·exact q
     ·exact absurd ((d4 hy hx).2 q.symm) e
     ·exact absurd ((wj hy hx).2 q) c
    refine A5.2 ⟨fun w hw=> ?_,h⟩;rcases Am.1 hw with rfl|hw
    ·exact hxy
    ·exact to_K.tr _ _ _ hxy (h1 w hw)
theorem Ph (l:List Rec) (hv:∀r∈l,Oh r=true):(sortR l).Pairwise ltR∧∀r∈sortR l,r∈l:=by
 have:∀(l a:List Rec),(∀r∈l,Oh r=true)→(∀r∈a,Oh r=true)→a.Pairwise ltR→(l.foldl (fun acc x=>fw x acc) a).Pairwise ltR∧∀r∈l.foldl (fun acc x=>fw x acc) a,r∈a∨r∈l:=by
  intro l
  induction l with
  |nil=>intro a _ _ h;exact ⟨h,fun r hr=> .inl hr⟩
  |cons x r ih=>
   intro a h1 h2 h3;have hx:=h1 x (.head _);obtain ⟨g1,g2⟩:=ih (fw x a) (fun w hw=>h1 w (.tail _ hw)) (fun w hw=>by
    rcases insR_mem x a w hw with rfl|hw
    ·exact hx
    ·exact h2 w hw) (Sz hx a h2 h3)
   refine ⟨g1,fun w hw=> ?_⟩;rcases g2 w hw with hw|hw
   ·rcases insR_mem x a w hw with rfl|hw
    ·exact .inr (.head _)
    ·exact .inl hw
   ·exact .inr (.tail _ hw)
 obtain ⟨h1,h2⟩:=this l [] hv (fun r hr=>by cases hr) .nil;exact ⟨h1,fun r hr=>(h2 r hr).resolve_left (by simp)⟩
structure ZOk (z:Zone):Prop where
 origin:vld z.origin=true
 small:z.recs.length≤2048
 valid:∀r∈z.recs,Oh r=true
 rising:z.recs.Pairwise ltR
 soa:(findR z.recs z.origin 6).length=1
 ns:dv z.recs z.origin 2=true
 recs:∀r∈z.recs,Rs z r=true
theorem Br5 {z:Zone} (h:Vf z=0):ZOk z:=by
 unfold Vf at h;split at h
 ·cases h
 ·rename_i h1;split at h
  ·cases h
  ·rename_i h2;split at h
   ·cases h
   ·split at h
    ·cases h
    ·rename_i h4;split at h
     ·cases h
     ·rename_i h5;split at h
      ·cases h
      ·rename_i h6;split at h
       ·cases h
       ·rename_i h7;simp only [Fc,Bc] at h1 h4 h7;simp only [not_or,ne_eq,Is,Fc] at h5 h6;refine ⟨h1,by omega,h4,?_,h6.1,h6.2,h7⟩;rw [h5];exact (Ph z.recs h4).1
theorem ZOk.beside {z:Zone} (h:ZOk z) {r x:Rec} (hr:r∈z.recs) (hx:x∈z.recs):Oq r x=true:=by have:=h.recs r hr;unfold Rs at this;simp only [Aw] at this;have h2:=this.1.2;unfold X4 at h2;exact Bc.1 h2 x hx
theorem ZOk.under {z:Zone} (h:ZOk z) {r:Rec} (hr:r∈z.recs):under r.name z.origin=true:=by have:=h.recs r hr;unfold Rs at this;simp only [Aw] at this;exact this.1.1.1
theorem ZOk.single {z:Zone} (h:ZOk z) (n:List UInt8) (t:Int) (ht:t=6∨t=5∨t=39):(findR z.recs n t).length≤1:=by
 have hp:(findR z.recs n t).Pairwise ltR:=h.rising.filter _;have hm:∀x∈findR z.recs n t,x∈z.recs∧x.name=n∧x.typ=t:=fun x hx=>by obtain ⟨h1,h2⟩:=Bp.1 hx;simp only [isK,Aw,decide_eq_true_eq] at h2;exact ⟨h1,h2.1,h2.2⟩
 generalize findR z.recs n t=l at*
 match l,hp,hm with
 |[],_,_=>simp
 |[_],_,_=>simp
 |a::b::r,hp,hm=>
  exfalso;have hab:ltR a b:=(A5.1 hp).1 b (.head _);obtain ⟨a1,a2,a3⟩:=hm a (.head _);obtain ⟨b1,b2,b3⟩:=hm b (.tail _ (.head _));have hb:=h.beside a1 b1;have e:b=a:=by
   unfold Oq at hb;rw [a2,a3,b2,b3] at hb;have ht':(decide (t=6)||decide (t=5)||decide (t=39))=true:=by rcases ht with h|h|h<;>simp [h]
   rw [ht'] at hb;simp only [decide_true,J9,Kj,Of,Gg2,Aw,A8,decide_eq_false_iff_not,ne_eq,Is] at hb;exact hb.1.2
  rw [e] at hab;exact to_K.irr _ hab
end Go.X.G
/- What a checked zone says of its names. -/
namespace Go.X.G
open Go Go.X
theorem Om {n:List UInt8} (h:vld n=true):under n n=true:=Bs.2 ⟨h,h,List.suffix_refl _⟩
theorem Aj0 {a b:List UInt8} (h1:under a b=true) (h2:under b a=true):a=b:=by refine Jw h1 ?_;exact (Bs.1 h2).2.2.length_le
theorem c9 {z:Zone} {r:Rec}:Dk z r=true↔r.typ=2∧r.name≠z.origin∧under r.name z.origin=true:=by unfold Dk D9;simp only [Aw,decide_eq_true_eq,ne_eq]
theorem N6 {l:List Rec} {n:List UInt8} {t:Int} {r:Rec}:r∈findR l n t↔r∈l∧r.name=n∧r.typ=t:=by unfold findR;rw [Bp];simp only [isK,Aw,decide_eq_true_eq]
theorem ZOk.soaR {z:Zone} (h:ZOk z):∃r∈z.recs,r.name=z.origin∧r.typ=6:=by
 have:=h.soa;cases e:findR z.recs z.origin 6 with
 |nil=>rw [e] at this;cases this
 |cons r l=>
  have:r∈findR z.recs z.origin 6:=by rw [e];exact .head _
  exact ⟨r,(N6.1 this).1,(N6.1 this).2⟩
theorem Az2 (z:Zone):Ob z z.origin=false:=by
 cases h:Ob z z.origin with
 |false=>rfl
 |true=>
  unfold Ob at h;simp only [B5,Aw,decide_eq_true_eq] at h;obtain ⟨r,_,⟨h1,_⟩,h3⟩:=h;obtain ⟨_,h4,h5⟩:=c9.1 h1;exact absurd (Aj0 h5 h3) h4
theorem ZOk.exO {z:Zone} (h:ZOk z):exB z z.origin=true:=by obtain ⟨r,hr,e,_⟩:=h.soaR;have u:=Om h.origin;exact (P2 z _).2 ⟨r,hr,by rw [e];exact u,by rw [e];exact Az2 z,by rw [e];exact u,u⟩
theorem It2 {z:Zone} (h:ZOk z) {n:List UInt8} (hu:under n z.origin=true):encN z n≠[]∧under n (encN z n)=true∧exB z (encN z n)=true:=by
 unfold encN;rw [if_pos hu];cases e:Ad9 z n with
 |none=>
  unfold Ad9 at e;rw [List.find?_eq_none] at e;exact absurd h.exO (e _ ((Mg hu).2 ⟨hu,Om h.origin⟩))
 |some x=>
  obtain ⟨h1,h2⟩:=Lj hu e;exact ⟨oz (Bs.1 h1).2.1,h1,h2⟩
theorem Gk6 {z:Zone} {n x:List UInt8} (hu:under n x=true) (hx:exB z x=true):(lbl x).length≤(lbl (encN z n)).length:=by
 have hne:=oz (Bs.1 hu).2.1;have h0:=Dw1 z n;obtain ⟨h1,h2⟩:=Q2 n (namesN z) [] (.inl rfl);rw [h0] at h1 h2;have hm:x∈namesN z:=by have:=Xw z x;rw [hx] at this;simpa using this
 by_cases hb:encN z n=[]
 ·have:=(h1 hb).2 x hm;rw [hu] at this;cases this
 ·exact (h2 hb).2.2.2 x hm hu
theorem gz {a b c:List (List UInt8)} (h1:a<:+c) (h2:b<:+c) (h:a.length≤b.length):a<:+b:=by exact List.suffix_of_suffix_length_le h1 h2 h
theorem dt {z:Zone} {n:List UInt8} (ho:ZOk z) (h:cutN z n≠[]):
  under n (cutN z n)=true∧cutN z n≠z.origin∧(findR z.recs (cutN z n) 2).length≠0∧encN z n=cutN z n∧under n z.origin=true∧exB z (cutN z n)=true:=by
 obtain ⟨_,h2⟩:=Px z n z.recs [] (.inl rfl);obtain ⟨g1,g2,_,g4⟩:=h2 h;change under n (cutN z n)=true at g1;change cutN z n=[]∨∃r∈z.recs,Dk z r=true∧r.name=cutN z n at g2;change∀r∈z.recs,Dk z r=true→under n r.name=true→(lbl (cutN z n)).length≤(lbl r.name).length at g4;obtain ⟨r,hr,hc,hn⟩:=g2.resolve_left h;generalize cutN z n=c at*;obtain ⟨c1,c2,c3⟩:=c9.1 hc;rw [hn] at c2 c3;have hu:=Nk g1 c3;have hh:Ob z c=false:=by
  cases e:Ob z c with
  |false=>rfl
  |true=>
   unfold Ob at e;simp only [B5,Aw,decide_eq_true_eq] at e;obtain ⟨x,hx,⟨x1,x2⟩,x3⟩:=e;have:=g4 x hx x1 (Nk g1 x3);exact absurd (Jw x3 this).symm x2
 have hv:=(Bs.1 c3).1;have hex:exB z c=true:=(P2 z c).2 ⟨r,hr,by rw [hn];exact c3,by rw [hn];exact hh,by rw [hn];exact Om hv,c3⟩;refine ⟨g1,c2,?_,?_,hu,hex⟩
 ·have:r∈findR z.recs c 2:=N6.2 ⟨hr,hn,c1⟩;intro e;rw [List.length_eq_zero_iff.1 e] at this;cases this
 ·obtain ⟨_,e1,e2⟩:=(It2 ho hu);have hm:=Gk6 g1 hex;generalize encN z n=e at*;obtain ⟨_,_,s1⟩:=Bs.1 g1;obtain ⟨_,ve,s2⟩:=Bs.1 e1;have s3:=gz s1 s2 hm;have ec:under e c=true:=Bs.2 ⟨ve,hv,s3⟩;by_cases hl:(lbl e).length≤(lbl c).length
  ·exact Jw ec hl
  ·exfalso;obtain ⟨x,hx,x1,x2,x3,_⟩:=(P2 z e).1 e2;have hxc:=Nk x3 ec;have:Ob z x.name=true:=by unfold Ob;simp only [B5,Aw,decide_eq_true_eq];refine ⟨r,hr,⟨hc,fun q=> ?_⟩,by rw [hn];exact hxc⟩;have:=(Bs.1 x3).2.2.length_le;rw [←q,hn] at this;exact hl this
   rw [x2] at this;cases this
end Go.X.G
/- What a checked zone says about a question, in plain words. -/
namespace Go.X.G
open Go Go.X
theorem Ax4 {z:Zone} {n:List UInt8} (ho:ZOk z) (hu:under n z.origin=true) (hx:exB z n=false) (hc:cutN z n=[]∨cutN z n=n):∀r∈z.recs,under r.name n=false:=by
 intro r hr;rcases Aq (under r.name n) with h|h
 ·exfalso;have h1:=ho.under hr;have hh:Ob z r.name=true:=by
   rcases Aq (Ob z r.name) with e|e
   ·exact e
   ·have:=(P2 z n).2 ⟨r,hr,h1,e,h,hu⟩;rw [hx] at this;cases this
  rw [Ft2] at hh;simp only [Aw,decide_eq_true_eq] at hh;obtain ⟨c1,_,_,_,_,c2⟩:=dt ho hh.1;obtain ⟨_,g2⟩:=Px z r.name z.recs [] (.inl rfl);obtain ⟨_,g3,_,_⟩:=g2 hh.1;obtain ⟨x,hxm,x1,x2⟩:=g3.resolve_left hh.1;change x.name=cutN z r.name at x2;generalize cutN z r.name=c at*;obtain ⟨_,_,s1⟩:=Bs.1 c1;obtain ⟨_,vn,s2⟩:=Bs.1 h;obtain ⟨_,vc,_⟩:=Bs.1 c1;by_cases hl:(lbl n).length≤(lbl c).length
  ·have hcn:under c n=true:=Bs.2 ⟨vc,vn,gz s2 s1 hl⟩;obtain ⟨y,y1,y2,y3,y4,_⟩:=(P2 z c).1 c2;have:=(P2 z n).2 ⟨y,y1,y2,y3,Nk y4 hcn,hu⟩;rw [hx] at this;cases this
  ·have hnc:under n c=true:=Bs.2 ⟨vn,vc,gz s1 s2 (by omega)⟩;obtain ⟨k1,k2⟩:=Px z n z.recs [] (.inl rfl);rcases hc with hc|hc
   ·have:=(k1 hc).2 x hxm x1;rw [x2,hnc] at this;cases this
   ·by_cases hc0:cutN z n=[]
    ·have:=(k1 hc0).2 x hxm x1;rw [x2,hnc] at this;cases this
    ·obtain ⟨_,_,_,k3⟩:=k2 hc0;have:=k3 x hxm x1 (by rw [x2];exact hnc);change (lbl (cutN z n)).length≤_ at this;rw [hc,x2] at this;omega
 ·exact h
def Jc (z:Zone) (n:List UInt8) (t:Int):Nat:=(z.recs.filter fun r=>decide (r.name=n) && (decide (t=255)||decide (r.typ=t))).length
theorem J7 (z:Zone) (n:List UInt8) (t:Int):Jc z n t=(typedR (allR z n) t).length:=by
 unfold Jc typedR allR;split
 ·rename_i h;subst h;simp
 ·rename_i h;rw [List.filter_filter];congr 1;refine List.filter_congr fun r _=> ?_;simp [h,Bool.and_comm]
theorem Ab9 (z:Zone) (n:List UInt8):Jc z n 2=(findR z.recs n 2).length:=by unfold Jc findR;congr 1
theorem Y4 {l:List Rec} {t:Int} {x:Rec} (h:x∈typedR l t):x∈l∧(x.typ=t∨t=255):=by
 unfold typedR at h;split at h
 ·rename_i e;exact ⟨h, .inr e⟩
 ·obtain ⟨h1,h2⟩:=Bp.1 h;exact ⟨h1, .inl (by simpa using h2)⟩
theorem Y3 (l:List Rec) (n:List UInt8) (t:Int):(typedR (l.map (Tc n)) t).length=(typedR l t).length:=by
 unfold typedR;split
 ·simp
 ·rw [List.filter_map,E8];rfl
structure FindOk (z:Zone) (q:Ques) (r:Res):Prop where
 ans:r.kind=1→r.recs≠[]∧r.recs.length=Jc z r.owner q.typ∧(r.wild=false→r.owner=q.name)∧∀x∈r.recs,x.name=q.name∧(x.typ=q.typ∨q.typ=255)∧{x with name:=r.owner}∈z.recs
 nothing:r.kind=6∨r.wild=true→∀x∈z.recs,under x.name q.name=false
 out:r.kind=0→under q.name z.origin=false
 nodata:r.kind=5→Jc z r.owner q.typ=0
 nx:r.kind=6→r.recs=[]∧r.wild=false
 ref:r.kind=4→under q.name r.owner=true∧r.owner≠z.origin∧r.recs.length=Jc z r.owner 2∧r.recs≠[]∧∀x∈r.recs,x.typ=2
 kinds:r.kind=0∨r.kind=1∨(r.kind=2∧r.recs≠[])∨(r.kind=3∧r.recs≠[])∨r.kind=4∨r.kind=5∨r.kind=6
theorem says_kind (l:List Rec) (t:Int):((saysM l t).kind=2∧(saysM l t).recs≠[])∨((saysM l t).kind=5∧typedR l t=[])∨((saysM l t).kind=1∧typedR l t≠[]∧(saysM l t).recs=typedR l t):=by
 unfold saysM;split
 ·exact .inl ⟨rfl,by simp⟩
 ·split
  ·rename_i h;exact .inr (.inl ⟨rfl,h⟩)
  ·rename_i h;exact .inr (.inr ⟨rfl,h,rfl⟩)
theorem Rc (l:List Rec) (t:Int):(saysM l t).wild=false:=by
 unfold saysM;split
 ·rfl
 ·split<;>rfl
theorem Bn0 (z:Zone) (q:Ques) (ho:ZOk z):FindOk z q (findM z q):=by
 unfold findM;split
 ·rename_i hu;split
  ·rename_i hc;obtain ⟨f1,f2,f3,_⟩:=dt ho hc.1;refine ⟨fun h=>by simp at h,fun h=>by simp at h,fun h=>by simp at h,fun h=>by simp at h,fun h=>by simp at h,fun _=>⟨f1,f2,(Ab9 z _).symm,fun e=>f3 (by have e':findR z.recs (cutN z q.name) 2=[]:=e;rw [e'];rfl),fun x hx=>(N6.1 hx).2.2⟩,by simp⟩
  ·rename_i hc;have hc':cutN z q.name=[]∨cutN z q.name=q.name:=by
    by_cases h0:cutN z q.name=[]
    ·exact .inl h0
    ·refine .inr (Classical.byContradiction fun h1=>hc ⟨h0, .inl h1⟩)
   unfold Ek5;cases hr:Fm7 z q.name with
   |some x=>
    simp only;unfold Fm7 at hr;cases hr2:Ij2 z q.name with
    |none=>rw [hr2] at hr;cases hr
    |some u=>
     rw [hr2] at hr;simp only [A4,Ak] at hr;obtain ⟨r0,rest,hf⟩:=Fm8 hr2;unfold tw at hr;rw [hf] at hr;subst hr;exact ⟨fun h=>by simp at h,fun h=>by simp at h,fun h=>by simp at h,fun h=>by simp at h,fun h=>by simp at h,fun h=>by simp at h,by simp⟩
   |none=>
    simp only;split
    ·rename_i hex;rcases says_kind (allR z q.name) q.typ with ⟨k,k'⟩|⟨k,kt⟩|⟨k,kt,kr⟩
     ·refine ⟨fun h=> ?_,fun h=> ?_,fun h=> ?_,fun h=> ?_,fun h=> ?_,fun h=> ?_, .inr (.inr (.inl ⟨k,k'⟩))⟩<;>simp [k,Rc] at h
     ·refine ⟨fun h=> ?_,fun h=> ?_,fun h=> ?_,fun _=> ?_,fun h=> ?_,fun h=> ?_,by simp [k]⟩
      ·simp [k] at h
      ·simp [k,Rc] at h
      ·simp [k] at h
      ·show Jc z q.name q.typ=0;rw [J7,kt];rfl
      ·simp [k] at h
      ·simp [k] at h
     ·refine ⟨fun _=>⟨?_,?_,fun _=>rfl,?_⟩,fun h=> ?_,fun h=> ?_,fun h=> ?_,fun h=> ?_,fun h=> ?_,by simp [k]⟩
      ·show (saysM (allR z q.name) q.typ).recs≠[];rw [kr];exact kt
      ·show (saysM (allR z q.name) q.typ).recs.length=Jc z q.name q.typ;rw [kr,J7]
      ·intro x hx;change x∈(saysM (allR z q.name) q.typ).recs at hx;rw [kr] at hx;obtain ⟨h1,h2⟩:=Y4 hx;obtain ⟨h3,h4⟩:=Bp.1 h1;have h5:x.name=q.name:=by simpa using h4
       refine ⟨h5,h2,?_⟩;show {x with name:=q.name}∈z.recs;rw [←h5];exact h3
      ·simp [k,Rc] at h
      ·simp [k] at h
      ·simp [k] at h
      ·simp [k] at h
      ·simp [k] at h
    ·rename_i hex;have hex':exB z q.name=false:=by simpa using hex
     have hno:=Ax4 ho hu hex' hc';unfold Al7;split
     ·simp only [Cf];generalize starN (encN z q.name)=s;rcases says_kind ((allR z s).map (Tc q.name)) q.typ with ⟨k,k'⟩|⟨k,kt⟩|⟨k,kt,kr⟩
      ·refine ⟨fun h=> ?_,fun _=>hno,fun h=> ?_,fun h=> ?_,fun h=> ?_,fun h=> ?_, .inr (.inr (.inl ⟨k,k'⟩))⟩<;>simp [k] at h
      ·refine ⟨fun h=> ?_,fun _=>hno,fun h=> ?_,fun _=> ?_,fun h=> ?_,fun h=> ?_,by simp [k]⟩
       ·simp [k] at h
       ·simp [k] at h
       ·show Jc z s q.typ=0;rw [J7,←Y3 (allR z s) q.name q.typ,kt];rfl
       ·simp [k] at h
       ·simp [k] at h
      ·refine ⟨fun _=>⟨?_,?_,fun h=> ?_,?_⟩,fun _=>hno,fun h=> ?_,fun h=> ?_,fun h=> ?_,fun h=> ?_,by simp [k]⟩
       ·show (saysM ((allR z s).map (Tc q.name)) q.typ).recs≠[];rw [kr];exact kt
       ·show (saysM ((allR z s).map (Tc q.name)) q.typ).recs.length=Jc z s q.typ;rw [kr,J7,Y3]
       ·simp at h
       ·intro x hx;change x∈(saysM ((allR z s).map (Tc q.name)) q.typ).recs at hx;rw [kr] at hx;obtain ⟨h1,h2⟩:=Y4 hx;obtain ⟨y,h3,rfl⟩:=D3.1 h1;obtain ⟨h4,h5⟩:=Bp.1 h3;have h6:y.name=s:=by simpa using h5
        refine ⟨rfl,h2,?_⟩;show {Tc q.name y with name:=s}∈z.recs;rw [←h6];exact h4
       ·simp [k] at h
       ·simp [k] at h
       ·simp [k] at h
       ·simp [k] at h
     ·simp only [Option.getD_none];refine ⟨fun h=>by simp at h,fun _=>hno,fun h=>by simp at h,fun h=>by simp at h,fun _=>⟨rfl,rfl⟩,fun h=>by simp at h,by simp⟩
 ·rename_i hu;have hu':under q.name z.origin=false:=by simpa using hu
  refine ⟨fun h=>by simp at h,fun h=>by simp at h,fun _=>hu',fun h=>by simp at h,fun h=>by simp at h,fun h=>by simp at h,by simp⟩
end Go.X.G
/- The law LookupSoas. -/
namespace Go.X.G
open Go Go.X
def soaR (z:Zone):List Rec:=match findR z.recs z.origin 6 with
 |[]=>[]
 |r::_=>[{r with ttl:=if r.data.e<r.ttl then r.data.e else r.ttl}]
def zero:Dat:=⟨false,0,0,[],[],[],0,0,0,0,0,0,0⟩
def sample11:Zone:=⟨[120,46],[⟨[120,46],2,9,{zero with host:=[110,46,120,46]}⟩,⟨[120,46],6,9,{zero with host:=[110,46,120,46],mail:=[109,46,120,46],e:=5}⟩,
 ⟨[42,46,120,46],1,9,{zero with lo:=1}⟩,⟨[100,46,120,46],2,9,{zero with host:=[110,46,100,46,120,46]}⟩]⟩
theorem Ap9:S Bc9 0 []=some [sample11.pv]:=(Mh ext_mono).2 ⟨3,by kernel_rfl⟩
end Go.X.G
/- The law LookupFinds. -/
namespace Go.X.G
open Go Go.X
theorem Rf:sample11.wf:=by
 have hz:zero.wf:=by constructor<;>simp [zero,Gd7,fx,Yx]
 refine ⟨by simp [sample11,Yx],by simp [sample11],fun r hr=> ?_⟩;simp only [sample11,Am,List.mem_nil_iff,or_false] at hr;rcases hr with rfl|rfl|rfl|rfl<;>(constructor<;>(try constructor))<;>simp [zero,Gd7,fx,Yx]
abbrev Is0:Ques:=⟨[97,46,120,46],1⟩
abbrev Ir9:Ques:=⟨[97,46,100,46,120,46],1⟩
def awR1:Res:=⟨1,[42,46,120,46],true,[],[⟨[97,46,120,46],1,9,{zero with lo:=1}⟩]⟩
def awR2:Res:=⟨4,[100,46,120,46],false,[],[⟨[100,46,120,46],2,9,{zero with host:=[110,46,100,46,120,46]}⟩]⟩
theorem Ey1:findM sample11 Is0=awR1:=by kernel_rfl
theorem Ey0:findM sample11 Ir9=awR2:=by kernel_rfl
theorem Ac9:S Hy7 0 []=some [.b true]:=by refine It5 (N:=1) rfl ?_;have h1:=jt sample11 Is0 Rf (by decide) (by decide);have h2:=jt sample11 Ir9 Rf (by decide) (by decide);rw [Ey1] at h1;rw [Ey0] at h2;have e1:PV.a [.s [97,46,120,46], .i .i64 1]=Is0.pv:=rfl;have e2:PV.a [.s [97,46,100,46,120,46], .i .i64 1]=Ir9.pv:=rfl;have s1:=Ap9;have r1:awR1.recs.length=1:=rfl;have r2:awR1.recs[0]? =some ⟨[97,46,120,46],1,9,{zero with lo:=1}⟩:=rfl;have r3:awR1.kind=1:=rfl;have r4:awR1.wild=true:=rfl;have r5:awR2.kind=4:=rfl;have r6:awR2.owner=[100,46,120,46]:=rfl;generalize awR1=a1 at*;generalize awR2=a2 at*;generalize sample11=sm at*;simp (disch:=first|omega|(simp;omega)) only [It3,s1,h1,h2,r1,r2,r3,r4,r5,r6,EVM,EVC,EVR,xe,EVP,EV,simprocAttr]
end Go.X.G
/- Zones by the names of their records: groups of a sorted list, in plain words. -/
namespace Go.X.G
open Go Go.X
theorem Bd8 {α:Type} {lt:α→α→Prop}:∀(p q:List α),p<+:q→p≠q→lex lt p q
 |[],[],_,h=>absurd rfl h
 |[],_::_,_,_=>trivial
 |a::p,[],h,_=>by simp at h
 |a::p,b::q,h,hne=>by obtain ⟨rfl,hpq⟩:=Ld.1 h;exact .inr ⟨rfl,Bd8 p q hpq fun e=>hne (by rw [e])⟩
theorem Bd9 {α:Type} {lt:α→α→Prop} (ht:TO lt):∀(p q x:List α),p<+:q→¬lex lt x p→¬lex lt q x→p<+:x
 |[],_,_,_,_,_=>List.nil_prefix
 |a::p,[],_,h,_,_=>by simp at h
 |a::p,b::q,[],_,h,_=>absurd trivial h
 |a::p,b::q,c::x,h,h1,h2=>by
  obtain ⟨rfl,hpq⟩:=Ld.1 h;simp only [lex,not_or,not_and] at h1 h2;have e:a=c:=by
   rcases ht.tri a c with k|k|k
   ·exact absurd k h2.1
   ·exact k
   ·exact absurd k h1.1
  subst e;exact Ld.2 ⟨rfl,Bd9 ht p q x hpq (h1.2 rfl) (h2.2 rfl)⟩
theorem Fr7 {a b:List UInt8} (ha:vld a=true) (hb:vld b=true):ltN a b↔ltL (lbl a).reverse (lbl b).reverse:=by unfold ltN;rw [if_pos ha,if_pos hb]
theorem Y2 {n top:List UInt8} (h:under n top=true):(lbl top).reverse<+:(lbl n).reverse:=List.reverse_prefix.2 (Bs.1 h).2.2
theorem Dd2 {n top:List UInt8} (h:under n top=true) (hne:n≠top):ltN top n:=by obtain ⟨h1,h2,h3⟩:=Bs.1 h;rw [Fr7 h2 h1];refine Bd8 _ _ (Y2 h) fun e=>hne ?_;exact (K5 h2 h1 (List.reverse_inj.1 e)).symm
theorem Am0 {d x n:List UInt8} (hx:vld x=true) (h:under n d=true) (h1:¬ltN x d) (h2:¬ltN n x):under x d=true:=by obtain ⟨k1,k2,k3⟩:=Bs.1 h;rw [Fr7 hx k2] at h1;rw [Fr7 k1 hx] at h2;exact Bs.2 ⟨hx,k2,List.reverse_prefix.1 (Bd9 Dz9 _ _ _ (Y2 h) h1 h2)⟩
theorem Ag2 {a b c:List UInt8} (h1:under a b=true) (h2:under b c=true):under a c=true:=by obtain ⟨a1,a2,a3⟩:=Bs.1 h1;obtain ⟨b1,b2,b3⟩:=Bs.1 h2;exact Bs.2 ⟨a1,b2,b3.trans a3⟩
def Tn (p:List Rec):List Rec→List (List Rec)
 |[]=>[]
 |x::r=>if (match r with|[]=>true|y::_=> !decide (y.name=x.name))=true then (p++[x])::Tn [] r else Tn (p++[x]) r
def grp (l:List Rec):List (List Rec):=Tn [] l
def nmG (g:List Rec):List UInt8:=match g with|[]=>[]|x::_=>x.name
theorem dw (n:List UInt8):∀(r p:List Rec) (x:Rec),x.name=n→(∀y∈p,y.name=n)→∃g l',x::r=g++l'∧g≠[]∧(∀y∈g,y.name=n)∧(∀y,l'.head? =some y→y.name≠n)∧Tn p (x::r)=(p++g)::grp l'
 |[],p,x,hx,hp=>⟨[x],[],rfl,by simp,by simpa using hx,by simp,rfl⟩
 |y::r,p,x,hx,hp=>by
  by_cases h:y.name=x.name
  ·obtain ⟨g,l',h1,h2,h3,h4,h5⟩:=dw n r (p++[x]) y (by rw [h,hx]) (fun w hw=>by
    rcases B0.1 hw with hw|hw
    ·exact hp w hw
    ·have:w=x:=by simpa using hw
     rw [this,hx])
   refine ⟨x::g,l',by rw [h1];rfl,by simp,fun w hw=> ?_,h4,?_⟩
   ·rcases Am.1 hw with rfl|hw
    ·exact hx
    ·exact h3 w hw
   ·rw [Tn,if_neg (by simp [h]),h5];simp
  ·refine ⟨[x],y::r,rfl,by simp,by simpa using hx,fun w hw=> ?_,?_⟩
   ·simp at hw;subst hw;rw [←hx];exact h
   ·rw [Tn,if_pos (by simp [h])];rfl
theorem Qr (x:Rec) (r:List Rec):∃g l',x::r=g++l'∧g≠[]∧(∀y∈g,y.name=x.name)∧(∀y,l'.head? =some y→y.name≠x.name)∧grp (x::r)=g::grp l':=by obtain ⟨g,l',h1,h2,h3,h4,h5⟩:=dw x.name r [] x rfl (by simp);exact ⟨g,l',h1,h2,h3,h4,by rw [grp,h5];rfl⟩
theorem Ed3 {g:List Rec} {n:List UInt8} (h:g≠[]) (h2:∀y∈g,y.name=n):nmG g=n:=by
 cases g with
 |nil=>exact absurd rfl h
 |cons x r=>exact h2 x (.head _)
abbrev Hv5 (l:List Rec):Prop:=l.Pairwise fun a b=>¬ltN b.name a.name
def F2 (g:List Rec) (t:Int):Bool:=g.any fun r=>decide (r.typ=t)
def Ih (g:List Rec) (ts:List Int):Bool:=g.all fun r=>decide (r.typ∈ts)
def T4 (p:Rec):List Rec→Bool
 |[]=>true
 |x::r=>(!decide (x.typ=p.typ)||(!(decide (x.typ=6)||decide (x.typ=5)||decide (x.typ=39)) && (decide (x.typ=46)||decide (x.ttl=p.ttl)))) && T4 x r
def Dz8 (g:List Rec):Bool:=match g with|[]=>true|x::r=>T4 x r
def propG (o:List UInt8) (g:List Rec) (cut red:Bool):Bool:=
 under (nmG g) o && (decide (F2 g 6=decide (nmG g=o))) && Dz8 g && (!decide (nmG g=o)||F2 g 2) && (!F2 g 5||Ih g [5,46,47]) && !red && (!cut||Ih g [1,28]) &&
  (if (!decide (nmG g=o) && F2 g 2)=true then Ih g [2,43,47,46,1,28] else !F2 g 43) && (!decide ((nmG g)[0]? =some 42)||(!F2 g 2 && !F2 g 39))
def Dh (n c:List UInt8):List UInt8:=if c≠[]∧under n c=false then [] else c
def kx (o:List UInt8):List (List Rec)→List UInt8→List UInt8→Bool→Bool
 |[],_,_,soa=>soa
 |g::gs,cut,red,soa=>
  if propG o g (decide (Dh (nmG g) cut≠[])) (decide (Dh (nmG g) red≠[]))=true then
   kx o gs (if Dh (nmG g) cut=[]∧nmG g≠o∧F2 g 2=true then nmG g else Dh (nmG g) cut) (if F2 g 39=true then nmG g else Dh (nmG g) red) (soa||decide (nmG g=o))
  else false
def Fm9 (z:Zone) (n:List UInt8):Bool:=z.recs.any fun r=>decide (r.typ=39) && D9 n r.name
def Zs (z:Zone) (g:List Rec):Bool:=propG z.origin g (Ob z (nmG g)) (Fm9 z (nmG g))
theorem fg {n:List UInt8} (h:vld n=true):n≠[]:=fun e=>by
 subst e;have:vld []=false:=by decide
 rw [this] at h;cases h
structure GInv (z:Zone) (done l:List Rec) (cut red:List UInt8):Prop where
 cut1:cut≠[]→∃r∈done,Dk z r=true∧r.name=cut
 cut2:∀m∈l,∀r∈done,Dk z r=true→under m.name r.name=true→cut≠[]∧under m.name cut=true
 red1:red≠[]→∃r∈done,r.typ=39∧r.name=red
 red2:∀m∈l,∀r∈done,r.typ=39→under m.name r.name=true→red≠[]∧under m.name red=true
theorem ix {o:List UInt8} {g:List Rec} {c r:Bool} (h:propG o g c r=true):under (nmG g) o=true∧r=false:=by unfold propG at h;simp only [Aw,A8] at h;exact ⟨h.1.1.1.1.1.1.1.1,h.1.1.1.2⟩
theorem wq (z:Zone) (hv:∀r∈z.recs,vld r.name=true) (hs:Hv5 z.recs):∀(n:Nat) (done l:List Rec) (cut red:List UInt8) (soa:Bool),l.length≤n→z.recs=done++l→(∀a∈done,∀b∈l,ltN a.name b.name)→GInv z done l cut red→
  (kx z.origin (grp l) cut red soa=true↔(∀g∈grp l,Zs z g=true)∧(soa=true∨∃r∈l,r.name=z.origin))
 |n,done,[],cut,red,soa,_,_,_,_=>by simp [grp,Tn,kx]
 |0,done,x::r,cut,red,soa,hn,_,_,_=>by simp at hn
 |n+1,done,x::r,cut,red,soa,hn,hz,hlt,hI=>by
  obtain ⟨g,l',h1,h2,h3,h4,h5⟩:=Qr x r;have hnm:nmG g=x.name:=Ed3 h2 h3;have hmem:∀y∈g,y∈x::r:=fun y hy=>by rw [h1];exact Cv _ hy
  have hmem':∀y∈l',y∈x::r:=fun y hy=>by rw [h1];exact Bm _ hy
  have hzx:∀y∈x::r,y∈z.recs:=fun y hy=>by rw [hz];exact Bm _ hy
  have hvx:vld x.name=true:=hv x (hzx x (.head _));have hgl:∀b∈l',ltN x.name b.name:=by
   have hs2:Hv5 (g++l'):=by rw [←h1];have:=hs;rw [hz] at this;exact (Et.1 this).2.1
   have hs3:=Et.1 hs2;cases l' with
   |nil=>intro b hb;cases hb
   |cons y l''=>
    have hy:ltN x.name y.name:=by
     obtain ⟨w,hw⟩:=Fy g h2;have k:=hs3.2.2 w hw y (.head _);rw [h3 w hw] at k;rcases to_N.tri x.name y.name with q|q|q
     ·exact q
     ·exact absurd q.symm (h4 y rfl)
     ·exact absurd q k
    intro b hb;rcases Am.1 hb with rfl|hb
    ·exact hy
    ·have k:=(A5.1 hs3.2.1).1 b hb;rcases to_N.tri y.name b.name with q|q|q
     ·exact to_N.tr _ _ _ hy q
     ·rw [←q];exact hy
     ·exact absurd q k
  have habove:∀w∈z.recs,under x.name w.name=true→x.name≠w.name→w∈done:=fun w hw hu hne=>by
   rw [hz] at hw;rcases B0.1 hw with hw|hw
   ·exact hw
   ·exfalso;have k:=Dd2 hu hne;rw [h1] at hw;rcases B0.1 hw with hw|hw
    ·exact hne (h3 w hw).symm
    ·exact to_N.asym k (hgl w hw)
  have hcut:decide (Dh x.name cut≠[])=Ob z x.name:=by
   rw [Cn,decide_eq_true_eq];unfold Ob Dh;rw [B5];constructor
   ·intro k;have c0:cut≠[]:=fun e=>by rw [e] at k;simp at k
    have c1:under x.name cut=true:=by
     rcases Aq (under x.name cut) with q|q
     ·exact q
     ·rw [if_pos ⟨c0,q⟩] at k;exact absurd rfl k
    obtain ⟨w,w1,w2,w3⟩:=hI.cut1 c0;refine ⟨w,by rw [hz];exact Cv _ w1,?_⟩;have:w.name≠x.name:=fun e=>to_N.irr _ (by have:=hlt w w1 x (.head _);rw [e] at this;exact this);rw [w2,w3];rw [w3] at this;simp [this,c1]
   ·rintro ⟨w,w1,w2⟩;simp only [Aw,decide_eq_true_eq] at w2;have wd:=habove w w1 w2.2 (fun e=>w2.1.2 e.symm);obtain ⟨c0,c1⟩:=hI.cut2 x (.head _) w wd w2.1.1 w2.2;rw [if_neg (by simp [c1])];exact c0
  have hred:decide (Dh x.name red≠[])=Fm9 z x.name:=by
   rw [Cn,decide_eq_true_eq];unfold Fm9 Dh D9;rw [B5];constructor
   ·intro k;have c0:red≠[]:=fun e=>by rw [e] at k;simp at k
    have c1:under x.name red=true:=by
     rcases Aq (under x.name red) with q|q
     ·exact q
     ·rw [if_pos ⟨c0,q⟩] at k;exact absurd rfl k
    obtain ⟨w,w1,w2,w3⟩:=hI.red1 c0;refine ⟨w,by rw [hz];exact Cv _ w1,?_⟩;have:x.name≠w.name:=fun e=>to_N.irr _ (by have:=hlt w w1 x (.head _);rw [e] at this;exact this);rw [w3] at this ⊢;simp [this,c1,w2]
   ·rintro ⟨w,w1,w2⟩;simp only [Aw,decide_eq_true_eq] at w2;have wd:=habove w w1 w2.2.2 w2.2.1;obtain ⟨c0,c1⟩:=hI.red2 x (.head _) w wd w2.1 w2.2.2;rw [if_neg (by simp [c1])];exact c0
  have hex:(∃w∈x::r,w.name=z.origin)↔(x.name=z.origin∨∃w∈l',w.name=z.origin):=by
   rw [h1];constructor
   ·rintro ⟨w,w1,w2⟩;rcases B0.1 w1 with w1|w1
    ·exact .inl (by rw [←h3 w w1];exact w2)
    ·exact .inr ⟨w,w1,w2⟩
   ·rintro (k|⟨w,w1,w2⟩)
    ·obtain ⟨w,hw⟩:=Fy g h2;exact ⟨w,Cv _ hw,by rw [h3 w hw];exact k⟩
    ·exact ⟨w,Bm _ w1,w2⟩
  rw [h5,hex];simp only [kx,hnm,Am,forall_eq_or_imp];have hp0:Zs z g=propG z.origin g (Ob z x.name) (Fm9 z x.name):=by unfold Zs;rw [hnm]
  rw [hp0];rw [hcut,hred];by_cases hp:propG z.origin g (Ob z x.name) (Fm9 z x.name)=true
  ·rw [if_pos hp];obtain ⟨pu,pr⟩:=ix hp;rw [hnm] at pu;have hlen:=congrArg List.length h1;have hg0:0<g.length:=Bv.2 h2;simp only [Ac,A3] at hlen hn;have hmid:∀m∈l',∀w∈done,under m.name w.name=true→under x.name w.name=true:=fun m hm w hw hu=>
    Am0 hvx hu (fun k=>to_N.asym (hlt w hw x (.head _)) k) (fun k=>to_N.asym (hgl m hm) k)
   have hredE:Dh x.name red=[]:=by have:=hred;rw [pr] at this;simpa using this
   have ih:=wq z hv hs n (done++g) l' (if Dh x.name cut=[]∧x.name≠z.origin∧F2 g 2=true then x.name else Dh x.name cut) (if F2 g 39=true then x.name else Dh x.name red) (soa||decide (x.name=z.origin)) (by omega) (by rw [hz,h1,As])
    (fun a ha b hb=>by
     rcases B0.1 ha with ha|ha
     ·exact hlt a ha b (hmem' b hb)
     ·rw [h3 a ha];exact hgl b hb)
    ⟨?_,?_,?_,?_⟩
   ·rw [ih];simp only [Ap,decide_eq_true_eq,hp,true_and];constructor
    ·rintro ⟨k1,(k2|k2)|k2⟩
     ·exact ⟨k1, .inl k2⟩
     ·exact ⟨k1, .inr (.inl k2)⟩
     ·exact ⟨k1, .inr (.inr k2)⟩
    ·rintro ⟨k1,k2|k2|k2⟩
     ·exact ⟨k1, .inl (.inl k2)⟩
     ·exact ⟨k1, .inl (.inr k2)⟩
     ·exact ⟨k1, .inr k2⟩
   ·-- the cut is one
    intro k;by_cases c:Dh x.name cut=[]∧x.name≠z.origin∧F2 g 2=true
    ·rw [if_pos c];obtain ⟨w,w1,w2⟩:=B5.1 c.2.2;simp only [decide_eq_true_eq] at w2;refine ⟨w,Bm _ w1,?_,h3 w w1⟩;unfold Dk D9;rw [h3 w w1];simp [w2,pu,c.2.1]
    ·rw [if_neg c] at k ⊢;have c0:cut≠[]:=fun e=>by rw [e] at k;simp [Dh] at k
     have c1:Dh x.name cut=cut:=by
      unfold Dh at k ⊢;by_cases q:cut≠[]∧under x.name cut=false
      ·rw [if_pos q] at k;exact absurd rfl k
      ·rw [if_neg q]
     rw [c1];obtain ⟨w,w1,w2⟩:=hI.cut1 c0;exact ⟨w,Cv _ w1,w2⟩
   ·intro m hm w hw hc hu;rcases B0.1 hw with hw|hw
    ·have hxu:=hmid m hm w hw hu;obtain ⟨c0,c1⟩:=hI.cut2 x (.head _) w hw hc hxu;obtain ⟨_,c2⟩:=hI.cut2 m (hmem' m hm) w hw hc hu;have c3:Dh x.name cut=cut:=by unfold Dh;rw [if_neg (by simp [c1])]
     rw [c3,if_neg (by simp [c0])];exact ⟨c0,c2⟩
    ·rw [h3 w hw] at hu;have hc':=hc;unfold Dk D9 at hc';rw [h3 w hw] at hc';simp only [Aw,decide_eq_true_eq] at hc';have hns:F2 g 2=true:=B5.2 ⟨w,hw,by simp [hc'.1]⟩;by_cases c:Dh x.name cut=[]
     ·rw [if_pos ⟨c,hc'.2.1,hns⟩];exact ⟨fg hvx,hu⟩
     ·rw [if_neg (by simp [c])];have q:¬(cut≠[]∧under x.name cut=false):=fun q=>c (by unfold Dh;rw [if_pos q]);have c1:Dh x.name cut=cut:=by unfold Dh;rw [if_neg q]
      rw [c1] at c ⊢;have c2:under x.name cut=true:=by
       rcases Aq (under x.name cut) with k|k
       ·exact k
       ·exact absurd ⟨c,k⟩ q
      exact ⟨c,Ag2 hu c2⟩
   ·intro k;rw [hredE] at k ⊢;by_cases c:F2 g 39=true
    ·rw [if_pos c];obtain ⟨w,w1,w2⟩:=B5.1 c;simp only [decide_eq_true_eq] at w2;exact ⟨w,Bm _ w1,w2,h3 w w1⟩
    ·rw [if_neg c] at k;exact absurd rfl k
   ·intro m hm w hw hc hu;rcases B0.1 hw with hw|hw
    ·exfalso;have hxu:=hmid m hm w hw hu;obtain ⟨c0,c1⟩:=hI.red2 x (.head _) w hw hc hxu;have:Dh x.name red=red:=by unfold Dh;rw [if_neg (by simp [c1])]
     rw [this] at hredE;exact c0 hredE
    ·rw [h3 w hw] at hu;have hd:F2 g 39=true:=B5.2 ⟨w,hw,by simp [hc]⟩;rw [if_pos hd];exact ⟨fg hvx,hu⟩
  ·rw [if_neg hp];simp [hp]
end Go.X.G
