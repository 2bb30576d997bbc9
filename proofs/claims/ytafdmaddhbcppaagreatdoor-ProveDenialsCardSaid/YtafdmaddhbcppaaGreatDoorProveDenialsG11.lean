/- Questions and messages. -/
import Derived.Test.YtafdmaddhbcppaaGreatDoorProveDenialsG10
import Derived.Test.YtafdmaddhbcppaaGreatDoorProveDenialsG9
open Bool renaming eq_false_or_eq_true→Bm,and_eq_true→Br,false_eq_true→B5,or_eq_true→Cy,not_eq_true'→Cm,eq_iff_iff→D5,not_eq_false→H1,false_or→K1,not_true→Nm,true_and→Uz,and_true→Ub
open Classical renaming not_not→H0
open Int renaming lt_irrefl→Gn
open List renaming getElem?_eq_some_iff→Bp,getElem?_eq_getElem→Bs,length_append→B0,length_cons→Cj,mem_cons→Ck,mem_of_getElem?→Cq,append_assoc→Cv,length_take→Cw,pairwise_cons→Cf,length_pos_iff→Ch,getElem?_drop→Cl,all_eq_true→C0,length_nil→C2,getElem?_map→C3,mem_filter→C5,mem_append→C8,length_drop→Dj,take_append_drop→Dq,mem_append_right→Dv,nil_append→Dw,any_eq_true→Dd,drop_eq_getElem_cons→Df,length_filter_le→Dh,cons_append→Dl,take_add_one→Dm,getElem?_cons_zero→Dn,getElem?_range→D1,length_map→D2,mem_append_left→D6,drop_drop→Ew,take_length→E3,getElem_mem→E4,getElem?_cons_succ→E6,mem_map→Fl,flatMap_cons→F3,drop_zero→F4,filter_append→F5,suffix_iff_eq_drop→G5,pairwise_append→G8,mem_range→G9,drop_eq_nil_of_le→Hh,exists_mem_of_ne_nil→Hp,map_cons→Ij,getLast_eq_getElem→L1,getElem?_set_self→M1,findIdx?_cons→Ov,cons_prefix_cons→Pm,getElem?_eq_none_iff→Rj,drop_set_of_lt→W8,length_mergeSort→Ak4,getElem_take→Ar3,map_append→Jk9,map_mergeSort→Jw4
open Nat renaming le_refl→B7,zero_le→Dy,le_trans→Dt,add_zero→Fj,zero_add→F9,min_eq_left→Mw,lt_succ_self→X0
open Option renaming map_eq_some_iff→Bt,bind_some→B3,map_some→Cd,isSome_none→jk
open Option.some renaming injEq→Bn
set_option maxHeartbeats 1000000
set_option linter.defProp false
set_option linter.unusedVariables false
set_option linter.unusedSimpArgs false
namespace Go.X
open Go
structure Ques where
 name:List UInt8
 typ:Int
 deriving DecidableEq
structure Msg where
 id:Int
 op:Int
 code:Int
 resp:Bool
 aa:Bool
 tc:Bool
 rd:Bool
 ra:Bool
 ad:Bool
 cd:Bool
 dok:Bool
 size:Int
 q:Ques
 ans:List Rec
 auth:List Rec
 ext:List Rec
 deriving DecidableEq
structure Ques.wf (x:Ques):Prop where
 name:My x.name
 typ:Xz x.typ
structure Msg.wf (m:Msg):Prop where
 id:Xz m.id
 op:Xz m.op
 code:Xz m.code
 size:Xz m.size
 q:m.q.wf
 ans:Dk0 m.ans
 auth:Dk0 m.auth
 ext:Dk0 m.ext
def Ques.cells (x:Ques):List PV:=[.s x.name,.i .i64 x.typ]
def Ques.pv (x:Ques):PV:= .a x.cells
def Msg.cells (m:Msg):List PV:= .i .i64 m.id:: .i .i64 m.op:: .i .i64 m.code:: .b m.resp:: .b m.aa:: .b m.tc:: .b m.rd:: .b m.ra:: .b m.ad:: .b m.cd:: .b m.dok:: .i .i64 m.size:: .s m.q.name:: .i .i64 m.q.typ::B6 m.ans::B6 m.auth::B6 m.ext::[]
def Msg.pv (m:Msg):PV:= .a m.cells
def shQ:Sh:= .st [.s,.i .i64]
def Gp5 {cs:List PV} (h:shQ.okC cs):∃q:Ques,q.wf∧cs=q.cells:=by obtain⟨a0,r0,rfl,h0,h⟩:=Fy (tn h);obtain⟨a1,r1,rfl,h1,h⟩:=Fy h;obtain rfl:=S6 h;obtain⟨x0,rfl,k0⟩:=Cv7 h0;obtain⟨x1,rfl,k1⟩:=Nk h1;exact⟨⟨x0,x1⟩,⟨k0,k1⟩,rfl⟩
def Js4 {p:PV} (h:shQ.ok p):∃q:Ques,q.wf∧p=q.pv:=by obtain⟨ds,rfl,h⟩:∃ds,p= .a ds∧shQ.okC ds:=h;obtain⟨r,hr,rfl⟩:=Gp5 h;exact⟨r,hr,rfl⟩
def Dz5 (m:Msg):Dk 0 m.pv=some (.i .i64 m.id):=rfl
def Dz4 (m:Msg):Dk 1 m.pv=some (.i .i64 m.op):=rfl
def Dz3 (m:Msg):Dk 2 m.pv=some (.i .i64 m.code):=rfl
def Dz2 (m:Msg):Dk 3 m.pv=some (.b m.resp):=rfl
def Dz1 (m:Msg):Dk 4 m.pv=some (.b m.aa):=rfl
def Dz0 (m:Msg):Dk 5 m.pv=some (.b m.tc):=rfl
def Dy9 (m:Msg):Dk 6 m.pv=some (.b m.rd):=rfl
def Dy8 (m:Msg):Dk 7 m.pv=some (.b m.ra):=rfl
def Dy7 (m:Msg):Dk 8 m.pv=some (.b m.ad):=rfl
def Dy6 (m:Msg):Dk 9 m.pv=some (.b m.cd):=rfl
def Cq6 (m:Msg):Dk 10 m.pv=some (.b m.dok):=rfl
def Cq5 (m:Msg):Dk 11 m.pv=some (.i .i64 m.size):=rfl
def Cq4 (m:Msg):Dk 12 m.pv=some (.s m.q.name):=rfl
def Cq3 (m:Msg):Dk 13 m.pv=some (.i .i64 m.q.typ):=rfl
def Cq2 (m:Msg):Dk 14 m.pv=some (B6 m.ans):=rfl
def Cq1 (m:Msg):Dk 15 m.pv=some (B6 m.auth):=rfl
def Cq0 (m:Msg):Dk 16 m.pv=some (B6 m.ext):=rfl
def Gl2 (m:Msg):Lp 0 17 m.pv=some m.pv:=rfl
def Hj0 (m:Msg):Vv 17 m.pv=some m.pv:=rfl
def Cr9 (m:Msg):Lp 12 2 m.pv=some m.q.pv:=rfl
def Jb5 (x:Ques):Lp 0 2 x.pv=some x.pv:=rfl
def Kb6 (x:Ques):Vv 2 x.pv=some x.pv:=rfl
def Gn5 (x:Ques):Dk 0 x.pv=some (.s x.name):=rfl
def Gn4 (x:Ques):Dk 1 x.pv=some (.i .i64 x.typ):=rfl
def K0 (n:List UInt8) (t:Int):PV.a [.s n,.i .i64 t]=Ques.pv ⟨n,t⟩:=rfl
def Kc2 (x:Ques):(⟨x.name,x.typ⟩:Ques)=x:=rfl
def Fm1 (x0 x1 x2:Int) (b0 b1 b2 b3 b4 b5 b6 b7:Bool) (x3:Int) (n:List UInt8) (t:Int) (l0 l1 l2:List Rec):PV.a [.i .i64 x0,.i .i64 x1,.i .i64 x2,.b b0,.b b1,.b b2,.b b3,.b b4,.b b5,.b b6,.b b7,.i .i64 x3,.s n,.i .i64 t,B6 l0,B6 l1,B6 l2]=Msg.pv ⟨x0,x1,x2,b0,b1,b2,b3,b4,b5,b6,b7,x3,⟨n,t⟩,l0,l1,l2⟩:=rfl
def Kf5 (neg:Bool) (x y:Ques):N7 neg true [.s,(.i .i64)] x.pv y.pv=some (.b (if neg then decide (x≠y) else decide (x=y))):=by
 have:Ir [.s,(.i .i64)] x.cells y.cells=some (decide (x=y)):=by simp only[Ques.cells,Ir,El9,if_true,Bn];rw[D5];cases x;cases y;simp
 simp only[N7,Ques.pv,this,Cd];cases neg<;>simp
set_option linter.defProp false in
def EVM:=(And.intro @Dz5 (And.intro @Dz4 (And.intro @Dz3 (And.intro @Dz2 (And.intro @Dz1 (And.intro @Dz0 (And.intro @Dy9 (And.intro @Dy8 (And.intro @Dy7 (And.intro @Dy6 (And.intro @Cq6 (And.intro @Cq5 (And.intro @Cq4 (And.intro @Cq3 (And.intro @Cq2 (And.intro @Cq1 (And.intro @Cq0 (And.intro @Gl2 (And.intro @Hj0 (And.intro @Cr9 (And.intro @Jb5 (And.intro @Kb6 (And.intro @Gn5 (And.intro @Gn4 (And.intro @K0 (And.intro @Kc2 (And.intro @Fm1 @Kf5)))))))))))))))))))))))))))
end Go.X
/- Closures and sets of strings, evaluated. -/
namespace Go.X
open Go
def Jv9 (fn:Fns) (η:List PV) (fl:Bool) (ar:List E) (m:Nat):PV→Option (List PV)
 | .f f caps=>(E.evs η ar).bind fun vs=>results fl m η (fn f vs.length (vs++caps))
 |_=>none
def As4 {fn:Fns} {η:List PV} (fl:Bool) (c:E) (ar:List E) (m:Nat):W.ev fn η (.clo none fl c ar m)=(c.ev η).bind (Jv9 fn η fl ar m):=by
 rw[Gg4];congr 1;funext q;cases q with
 |f f caps=>rfl
 |_=>cases h:E.evs η ar<;>rfl
def Jj7 {fn:Fns} {η:List PV} (fl:Bool) (ar:List E) (m:Nat) (f:Nat) (caps:List PV):Jv9 fn η fl ar m (.f f caps)=(E.evs η ar).bind fun vs=>results fl m η (fn f vs.length (vs++caps)):=rfl
def Iw5 (f:Nat) (caps:List PV):Dk 0 (.f f caps)=some (.f f caps):=rfl
def Hm0 (f:Nat) (caps:List PV):Kj (.f f caps)=some (.f f caps):=rfl
def Qs (ks:List (List UInt8)):PV:= .m (ks.map fun k=>(.s k,.b true))
def Gm5:PV.m []=Qs []:=rfl
def Fc4 (ks:List (List UInt8)):Dk 0 (Qs ks)=some (Qs ks):=rfl
def Fz4 (ks:List (List UInt8)):Kj (Qs ks)=some (Qs ks):=rfl
def xq (k:List UInt8):∀ks:List (List UInt8),l8 (.s k) (ks.map fun k=>(.s k,.b true))=some (if k∈ks then some (.b true) else none)
 |[]=>by simp[l8]
 |x::ks=>by
  simp only[Ij,l8,xh];by_cases h:k=x
  ·subst h;simp
  ·have h2:(k==x)=false:=by simpa using h
   rw[h2];simp only[xq k ks,Ck,h,false_or]
def Bd5 (k:List UInt8):∀ks:List (List UInt8),Gq3 (.s k) (.b true) (ks.map fun k=>(.s k,.b true))=some ((if k∈ks then ks else ks++[k]).map fun k=>(.s k,.b true))
 |[]=>by simp[Gq3]
 |x::ks=>by
  simp only[Ij,Gq3,xh];by_cases h:k=x
  ·subst h;simp
  ·have h2:(k==x)=false:=by simpa using h
   rw[h2];simp only[Bd5 k ks,Ck,h,false_or,Cd];by_cases h3:k∈ks<;>simp[h3]
def Ff9 (k:List UInt8) (ks:List (List UInt8)):xk (Qs ks) (.s k) (.b false)=some (.b (decide (k∈ks))):=by simp only[xk,Qs,Ej2,if_true,xq,Cd];by_cases h:k∈ks<;>simp[h]
def Ff6 (k:List UInt8) (ks:List (List UInt8)):w7 (Qs ks) (.s k) (.b true)=some (Qs (if k∈ks then ks else ks++[k])):=by simp only[w7,Qs,Ej2,if_true,Bd5,Cd]
def Dn1 (a b:List Rec):K4 1 [B6 a,B6 b]=some (.l 1 ([a,b].map B6)):=rfl
def Jj6 (fn:Fns) (η:List PV) (fl:Bool) (c:E) (ar:List E) (m:Nat):PV→Option (List PV)
 | .b true=>(c.ev η).bind (Jv9 fn η fl ar m)
 | .b false=>some (η++List.replicate m .u)
 |_=>none
def L3 {fn:Fns} {η:List PV} (g:E) (fl:Bool) (c:E) (ar:List E) (m:Nat):W.ev fn η (.clo (some g) fl c ar m)=(g.ev η).bind (Jj6 fn η fl c ar m):=by
 have h:=As4 (fn:=fn) (η:=η) fl c ar m;simp only[W.ev,G3] at h ⊢;congr 1;funext q;cases q with
 |b x=>cases x with
  |true=>exact h
  |false=>rfl
 |_=>rfl
def Pw (fn:Fns) (η:List PV) (fl:Bool) (c:E) (ar:List E) (m:Nat) (x:Bool):Jj6 fn η fl c ar m (.b x)=if x=true then(c.ev η).bind (Jv9 fn η fl ar m) else some (η++List.replicate m .u):=by cases x<;>rfl
set_option linter.defProp false in
def EVC:=(And.intro @As4 (And.intro @Jj7 (And.intro @Iw5 (And.intro @Hm0 (And.intro @Gm5 (And.intro @Fc4 (And.intro @Fz4 (And.intro @Ff9 (And.intro @Ff6 @Dn1)))))))))
end Go.X
/- Addresses and tasks. -/
namespace Go.X
structure Adr where
 v6:Bool
 hi:Int
 lo:Int
 deriving DecidableEq
structure Tk where
 q:Ques
 name:List UInt8
 zone:List UInt8
 hosts:List (List UInt8)
 addrs:List Adr
 tried:List Adr
 state:Int
 more:Int
 dst:Adr
 asked:Ques
 sent:Int
 chain:List Rec
 last:Msg
 err:Int
def Adr.pv (x:Adr):PV:= .a [.b x.v6,.i .u64 x.hi,.i .u64 x.lo]
def Hz (l:List Adr):PV:= .l 3 (l.map Adr.pv)
def Dat.adr (d:Dat):Adr:=⟨d.v6,d.hi,d.lo⟩
def Tk.cells (t:Tk):List PV:=[.s t.q.name,.i .i64 t.q.typ,.s t.name,.s t.zone,Cn t.hosts,Hz t.addrs,Hz t.tried,.i .i64 t.state,.i .i64 t.more,.b t.dst.v6,.i .u64 t.dst.hi,.i .u64 t.dst.lo,.s t.asked.name,.i .i64 t.asked.typ,.i .i64 t.sent,B6 t.chain,.i .i64 t.last.id,.i .i64 t.last.op,.i .i64 t.last.code,.b t.last.resp,.b t.last.aa,.b t.last.tc,.b t.last.rd,.b t.last.ra,.b t.last.ad,.b t.last.cd,.b t.last.dok,.i .i64 t.last.size,.s t.last.q.name,.i .i64 t.last.q.typ,B6 t.last.ans,B6 t.last.auth,B6 t.last.ext,.i .i64 t.err]
def Tk.pv (t:Tk):PV:= .a t.cells
def Fc3 (t:Tk):Dk 0 t.pv=some (.s t.q.name):=rfl
def Fc2 (t:Tk):Dk 1 t.pv=some (.i .i64 t.q.typ):=rfl
def Fc1 (t:Tk):Dk 2 t.pv=some (.s t.name):=rfl
def Fc0 (t:Tk):Dk 3 t.pv=some (.s t.zone):=rfl
def Fb9 (t:Tk):Dk 4 t.pv=some (Cn t.hosts):=rfl
def Fb8 (t:Tk):Dk 5 t.pv=some (Hz t.addrs):=rfl
def Fb7 (t:Tk):Dk 6 t.pv=some (Hz t.tried):=rfl
def Fb6 (t:Tk):Dk 7 t.pv=some (.i .i64 t.state):=rfl
def Fb5 (t:Tk):Dk 8 t.pv=some (.i .i64 t.more):=rfl
def Fb4 (t:Tk):Dk 9 t.pv=some (.b t.dst.v6):=rfl
def Dw4 (t:Tk):Dk 10 t.pv=some (.i .u64 t.dst.hi):=rfl
def Dw3 (t:Tk):Dk 11 t.pv=some (.i .u64 t.dst.lo):=rfl
def Dw2 (t:Tk):Dk 12 t.pv=some (.s t.asked.name):=rfl
def Dw1 (t:Tk):Dk 13 t.pv=some (.i .i64 t.asked.typ):=rfl
def Dw0 (t:Tk):Dk 14 t.pv=some (.i .i64 t.sent):=rfl
def Dv9 (t:Tk):Dk 15 t.pv=some (B6 t.chain):=rfl
def Dv8 (t:Tk):Dk 16 t.pv=some (.i .i64 t.last.id):=rfl
def Dv7 (t:Tk):Dk 17 t.pv=some (.i .i64 t.last.op):=rfl
def Dv6 (t:Tk):Dk 18 t.pv=some (.i .i64 t.last.code):=rfl
def Dv5 (t:Tk):Dk 19 t.pv=some (.b t.last.resp):=rfl
def Dv4 (t:Tk):Dk 20 t.pv=some (.b t.last.aa):=rfl
def Dv3 (t:Tk):Dk 21 t.pv=some (.b t.last.tc):=rfl
def Dv2 (t:Tk):Dk 22 t.pv=some (.b t.last.rd):=rfl
def Dv1 (t:Tk):Dk 23 t.pv=some (.b t.last.ra):=rfl
def Dv0 (t:Tk):Dk 24 t.pv=some (.b t.last.ad):=rfl
def Dq9 (t:Tk):Dk 25 t.pv=some (.b t.last.cd):=rfl
def Dq8 (t:Tk):Dk 26 t.pv=some (.b t.last.dok):=rfl
def Dq7 (t:Tk):Dk 27 t.pv=some (.i .i64 t.last.size):=rfl
def Dq6 (t:Tk):Dk 28 t.pv=some (.s t.last.q.name):=rfl
def Dq5 (t:Tk):Dk 29 t.pv=some (.i .i64 t.last.q.typ):=rfl
def Dq4 (t:Tk):Dk 30 t.pv=some (B6 t.last.ans):=rfl
def Dq3 (t:Tk):Dk 31 t.pv=some (B6 t.last.auth):=rfl
def Dq2 (t:Tk):Dk 32 t.pv=some (B6 t.last.ext):=rfl
def Dq1 (t:Tk):Dk 33 t.pv=some (.i .i64 t.err):=rfl
def Hh6 (t:Tk):Lp 0 34 t.pv=some t.pv:=rfl
def Ir1 (t:Tk):Vv 34 t.pv=some t.pv:=rfl
def Bs3 (t:Tk):Lp 9 3 t.pv=some t.dst.pv:=rfl
def qt (t:Tk):Lp 12 2 t.pv=some t.asked.pv:=rfl
def Fx5 (t:Tk):Lp 0 2 t.pv=some t.q.pv:=rfl
def Av5 (t:Tk):Lp 16 17 t.pv=some t.last.pv:=rfl
def Gt5 (x0:List UInt8) (x1:Int) (x2:List UInt8) (x3:List UInt8) (x4:List (List UInt8)) (x5:List Adr) (x6:List Adr) (x7:Int) (x8:Int) (x9:Bool) (x10:Int) (x11:Int) (x12:List UInt8) (x13:Int) (x14:Int) (x15:List Rec) (x16:Int) (x17:Int) (x18:Int) (x19:Bool) (x20:Bool) (x21:Bool) (x22:Bool) (x23:Bool) (x24:Bool) (x25:Bool) (x26:Bool) (x27:Int) (x28:List UInt8) (x29:Int) (x30:List Rec) (x31:List Rec) (x32:List Rec) (x33:Int):PV.a [.s x0,.i .i64 x1,.s x2,.s x3,Cn x4,Hz x5,Hz x6,.i .i64 x7,.i .i64 x8,.b x9,.i .u64 x10,.i .u64 x11,.s x12,.i .i64 x13,.i .i64 x14,B6 x15,.i .i64 x16,.i .i64 x17,.i .i64 x18,.b x19,.b x20,.b x21,.b x22,.b x23,.b x24,.b x25,.b x26,.i .i64 x27,.s x28,.i .i64 x29,B6 x30,B6 x31,B6 x32,.i .i64 x33]=Tk.pv ⟨⟨x0,x1⟩,x2,x3,x4,x5,x6,x7,x8,⟨x9,x10,x11⟩,⟨x12,x13⟩,x14,x15,⟨x16,x17,x18,x19,x20,x21,x22,x23,x24,x25,x26,x27,⟨x28,x29⟩,x30,x31,x32⟩,x33⟩:=rfl
def It0 (t:Tk):(⟨t.q,t.name,t.zone,t.hosts,t.addrs,t.tried,t.state,t.more,t.dst,t.asked,t.sent,t.chain,t.last,t.err⟩:Tk)=t:=rfl
def Hk6 (m:Msg):(⟨m.id,m.op,m.code,m.resp,m.aa,m.tc,m.rd,m.ra,m.ad,m.cd,m.dok,m.size,m.q,m.ans,m.auth,m.ext⟩:Msg)=m:=rfl
def Hk7 (x:Adr):(⟨x.v6,x.hi,x.lo⟩:Adr)=x:=rfl
def Jk4 (d:Dat):Ll d=d.adr.pv:=rfl
def Fm2 (v:Bool) (h l:Int):PV.a [.b v,.i .u64 h,.i .u64 l]=Adr.pv ⟨v,h,l⟩:=rfl
def Hx9 (d:Dat):(⟨d.v6,d.hi,d.lo⟩:Adr)=d.adr:=rfl
def Gl4 (x:Adr):Lp 0 3 x.pv=some x.pv:=rfl
def Hj2 (x:Adr):Vv 3 x.pv=some x.pv:=rfl
def Db9 (x:Adr):Dk 0 x.pv=some (.b x.v6):=rfl
def Db8 (x:Adr):Dk 1 x.pv=some (.i .u64 x.hi):=rfl
def Db7 (x:Adr):Dk 2 x.pv=some (.i .u64 x.lo):=rfl
def Fm5 (x:Adr):PV.flat x.pv=true:=rfl
def Fs1:PV.l 3 []=Hz []:=rfl
def Gs8 (x:Adr):K4 3 [x.pv]=some (Hz [x]):=rfl
def Ct8 (l:List Adr):Kj (Hz l)=some (Hz l):=rfl
def Db6 (l:List Adr):Dk 0 (Hz l)=some (Hz l):=rfl
def Ip8 (x:Ques):PV.flat x.pv=true:=rfl
def Hl6 (n:Int):Kj (.i .u64 n)=some (.i .u64 n):=rfl
def Iw2 (n:Int):Dk 0 (.i .u64 n)=some (.i .u64 n):=rfl
def Fg9 (l:List Adr):Hc (Hz l)=some (.i .i64 (l.length:Int)):=by simp[Hz,Hc]
def Fl4 (l:List Adr) (k:IntKind) (z:Int) (h:0≤z):I7 3 (Hz l) (.i k z)=(l[z.toNat]?).map Adr.pv:=by simp[Hz,Zp _ _ _ _ h]
def Ef6 (l:List Adr) (x:Adr) (h:l.length+1≤1073741824):Jn 3 (Hz l) (Hz [x])=some (Hz (l++[x])):=by have:=Vr 3 (l.map Adr.pv) ([x].map Adr.pv) (by simpa using h);simpa [Hz] using this
def Fr8 (l m:List Adr) (h:l.length+m.length≤1073741824):Jn 3 (Hz l) (Hz m)=some (Hz (l++m)):=by have:=Vr 3 (l.map Adr.pv) (m.map Adr.pv) (by simpa using h);simpa [Hz] using this
def Fg1 (l:List Adr) (k k':IntKind) (a b:Int) (h1:0≤a) (h2:a≤b) (h3:b≤(l.length:Int)):Jv 3 (Hz l) (.i k a) (.i k' b)=some (Hz ((l.take b.toNat).drop a.toNat)):=by have:=Dm7 3 (l.map Adr.pv) k k' a b h1 h2 (by simpa using h3);simpa [Hz,List.map_take,List.map_drop] using this
def It4 (neg:Bool) (x y:Adr):N7 neg true [.b,(.i .u64),(.i .u64)] x.pv y.pv=some (.b (if neg then decide (x≠y) else decide (x=y))):=by
 have:Ir [.b,(.i .u64),(.i .u64)] [.b x.v6,.i .u64 x.hi,.i .u64 x.lo] [.b y.v6,.i .u64 y.hi,.i .u64 y.lo]=some (decide (x=y)):=by simp only[Ir,El9,if_true,Bn];rw[D5];cases x;cases y;simp
 simp only[N7,Adr.pv,this,Cd];cases neg<;>simp
set_option linter.defProp false in
def EVT:=(And.intro @Fc3 (And.intro @Fc2 (And.intro @Fc1 (And.intro @Fc0 (And.intro @Fb9 (And.intro @Fb8 (And.intro @Fb7 (And.intro @Fb6 (And.intro @Fb5 (And.intro @Fb4 (And.intro @Dw4 (And.intro @Dw3 (And.intro @Dw2 (And.intro @Dw1 (And.intro @Dw0 (And.intro @Dv9 (And.intro @Dv8 (And.intro @Dv7 (And.intro @Dv6 (And.intro @Dv5 (And.intro @Dv4 (And.intro @Dv3 (And.intro @Dv2 (And.intro @Dv1 (And.intro @Dv0 (And.intro @Dq9 (And.intro @Dq8 (And.intro @Dq7 (And.intro @Dq6 (And.intro @Dq5 (And.intro @Dq4 (And.intro @Dq3 (And.intro @Dq2 (And.intro @Dq1 (And.intro @Hh6 (And.intro @Ir1 (And.intro @Bs3 (And.intro @qt (And.intro @Fx5 (And.intro @Av5 (And.intro @Gt5 (And.intro @It0 (And.intro @Hk6 (And.intro @Hk7 (And.intro @Jk4 (And.intro @Fm2 (And.intro @Hx9 (And.intro @Gl4 (And.intro @Hj2 (And.intro @Db9 (And.intro @Db8 (And.intro @Db7 (And.intro @Fm5 (And.intro @Fs1 (And.intro @Gs8 (And.intro @Ct8 (And.intro @Db6 (And.intro @Ip8 (And.intro @Hl6 (And.intro @Iw2 (And.intro @Fg9 (And.intro @Fl4 (And.intro @Ef6 (And.intro @Fr8 (And.intro @Fg1 @It4)))))))))))))))))))))))))))))))))))))))))))))))))))))))))))))))))
end Go.X
/- Functions of the package slices, for texts, records and addresses. -/
namespace Go.X.G
open Go Go.X
def Av:=And.intro xe<|And.intro EVP EV
def Aq:=And.intro EVC<|And.intro xe<|And.intro EVP EV
def Ak:=And.intro EVM<|And.intro EVC<|And.intro xe<|And.intro EVP EV
def Eh3 (l:List (List UInt8)) (x:List UInt8) (hl:l.length≤1000000):∃k:Int,(0≤k↔x∈l)∧S gy 2 [Cn l,.s x]=some [.i .i64 k]:=by
 have go:∀(i:Nat) (l:List (List UInt8)),∃k:Int,k=(match l.findIdx? (·=x) with|some j=>((i+j:Nat):Int)|none=> -1)∧(0≤k↔x∈l):=by
  intro i l;refine⟨_,rfl,?_⟩;cases h:l.findIdx? (·=x) with
  |none=>
   rw[List.findIdx?_eq_none_iff] at h;simp only;constructor
   ·intro h2;omega
   ·intro h2;have:=h x h2;simp at this
  |some j=>
   simp only;constructor
   ·intro _;rw[List.findIdx?_eq_some_iff_getElem] at h;obtain⟨h1,h2,_⟩:=h;simp at h2;rw[←h2];exact E4 _
   ·intro _;omega
 obtain⟨k,hk,hk2⟩:=go 0 l;refine⟨k,hk2,?_⟩;refine Gk5 (N:=l.length+1) rfl ?_;have key:Ac0.ev S (l.length+1) [Cn l,.s x]=some (match l.findIdx? (·=x) with|some j=> .ret [.i .i64 ((0+j:Nat):Int)]|none=> .yld 0 []):=by
  refine Es l (fun i=>[.i .i64 (i:Int)]) (fun i r=>match r.findIdx? (·=x) with|some j=> .ret [.i .i64 ((i+j:Nat):Int)]|none=> .yld 0 []) rfl (by omega) (fun i c r hd hi hc=> ?_) ?_
  ·by_cases h:x=c
   ·right;simp(disch:=omega)only[Qp,hc,h,Ak,simprocAttr];simp[Ov,Out.goes]
   ·left;have h':¬c=x:=fun e=>h e.symm;simp(disch:=omega)only[Qp,hc,h,Ak,simprocAttr];refine⟨trivial,?_⟩;simp only[Ov,h',decide_false,B5,if_false];cases r.findIdx? (·=x) with
    |none=>rfl
    |some j=>simp;omega
  ·simp(disch:=omega)only[Qp,Ak,simprocAttr];simp[Out.goes]
 rw[hk];cases h:l.findIdx? (·=x) with
 |none=>
  rw[h] at key;simp(disch:=omega)only[Qp,key,Ak,simprocAttr]
 |some j=>
  rw[h] at key;simp(disch:=omega)only[Qp,key,Ak,simprocAttr]
def Wm (l:List (List UInt8)) (x:List UInt8) (hl:l.length≤1000000):S l6 2 [Cn l,.s x]=some [.b (decide (x∈l))]:=by refine Hm2 (N:=1) rfl ?_;obtain⟨k,h1,h2⟩:=Eh3 l x hl;simp(disch:=omega)only[Hz8,h2,Ak,simprocAttr];simp[h1]
def ixG {α:Type} (p:α→Bool) (k:Nat):List α→Int
 |[]=> -1
 |r::rs=>if p r=true then(k:Int) else ixG p (k+1) rs
def Ac2 {α:Type} (p:α→Bool):∀(l:List α) (k:Nat),(0≤ixG p k l↔l.any p=true)∧ixG p k l≤k+l.length∧ -1≤ixG p k l
 |[],k=>by simp[ixG]
 |r::rs,k=>by
  have ih:=Ac2 p rs (k+1);rcases Bm (p r) with h|h
  ·simp[ixG,h];omega
  ·simp only[ixG,h,List.any_cons,K1,Cj];refine⟨by simpa using ih.1,?_,by simpa using ih.2.2⟩;have:=ih.2.1;simp only[B5,if_false] at this ⊢;omega
def o3 (l:List (List UInt8)) (g:Nat) (caps:List PV) (p:List UInt8→Bool) (hl:l.length≤1000000) (h:∀r∈l,S g 1 (.s r::caps)=some [.b (p r)]):S vh 2 [Cn l,.f g caps]=some [.i .i64 (ixG p 0 l)]:=by
 refine Ht2 (N:=l.length+1) rfl ?_;have key:Dt0.ev S (l.length+1) [Cn l,.f g caps]=some (if ixG p 0 l= -1 then .yld 0 [] else .ret [.i .i64 (ixG p 0 l)]):=by
  refine Es l (fun i=>[.i .i64 (i:Int)]) (fun i r=>if ixG p i r= -1 then .yld 0 [] else .ret [.i .i64 (ixG p i r)]) rfl (by omega) (fun i c r hd hi hc=> ?_) ?_
  ·have hp:=h c (Cq hc);rcases Bm (p c) with h1|h1
   ·rw[h1] at hp;right;have h2:¬((i:Int)= -1):=by omega
    simp(disch:=omega)only[qv,hc,hp,EVT,Aq,simprocAttr];simp[ixG,h1,h2,Out.goes]
   ·rw[h1] at hp;left;simp(disch:=omega)only[qv,hc,hp,EVT,Aq,simprocAttr];simp[ixG,h1]
  ·simp(disch:=omega)only[qv,EVT,Aq,simprocAttr];simp[ixG,Out.goes]
 by_cases h1:ixG p 0 l= -1
 ·rw[if_pos h1] at key;simp(disch:=omega)only[qv,key,h1,EVT,Aq,simprocAttr]
 ·rw[if_neg h1] at key;simp(disch:=omega)only[qv,key,EVT,Aq,simprocAttr]
def W6 (l:List (List UInt8)) (g:Nat) (caps:List PV) (p:List UInt8→Bool) (hl:l.length≤1000000) (h:∀r∈l,S g 1 (.s r::caps)=some [.b (p r)]):S wt 2 [Cn l,.f g caps]=some [.b (l.any p)]:=by
 refine Iv2 (N:=1) rfl ?_;simp(disch:=omega)only[Hf2,o3 l g caps p hl h,Aq,simprocAttr];have:=(Ac2 p l 0).1;rcases Bm (l.any p) with h1|h1
 ·rw[h1] at this ⊢;simp[this.2 rfl]
 ·rw[h1] at this ⊢;have h2:¬(0≤ixG p 0 l):=fun h=>by simpa using this.1 h
  simp[h2]
def bq (l:List Rec) (hl:l.length≤1000000):S Zj 1 [B6 l]=some [B6 l]:=by
 refine Ik9 (N:=1) rfl ?_;have h0:Jn 16 (B6 []) (B6 l)=some (B6 l):=by simpa using Xr [] l (by simp;omega)
 simp(disch:=omega)only[Hd6,h0,EVT,Aq,simprocAttr]
def xl {α:Type} (p:α→Bool):∀(l:List α) (k:Nat),0≤ixG p k l→∃j,ixG p k l=((k+j:Nat):Int)∧j<l.length∧(∀x∈l.take j,p x=false)∧∃x,l[j]? =some x∧p x=true
 |[],k,h=>by simp[ixG] at h
 |r::rs,k,h=>by
  rcases Bm (p r) with h1|h1
  ·exact⟨0,by simp[ixG,h1],by simp,by simp,r,rfl,h1⟩
  ·have e:ixG p k (r::rs)=ixG p (k+1) rs:=by simp[ixG,h1]
   rw[e] at h ⊢;obtain⟨j,g1,g2,g3,x,g4,g5⟩:=xl p rs (k+1) h;refine⟨j+1,by rw[g1];congr 1;omega,by simp;omega,fun y hy=> ?_,x,by simpa using g4,g5⟩;simp only[List.take_succ_cons,Ck] at hy;rcases hy with rfl|hy
   ·exact h1
   ·exact g3 y hy
def Mp {α:Type} (p:α→Bool) {l:List α} (h:∀x∈l,p x=false):l.filter (fun x=> !p x)=l:=by rw[List.filter_eq_self];intro x hx;simp[h x hx]
def ixF (p:Rec→Bool) (k:Nat):List Rec→Int
 |[]=> -1
 |r::rs=>if p r=true then(k:Int) else ixF p (k+1) rs
def Ej3 (p:Rec→Bool):∀(l:List Rec) (k:Nat),(0≤ixF p k l↔l.any p=true)∧ixF p k l≤k+l.length∧ -1≤ixF p k l
 |[],k=>by simp[ixF]
 |r::rs,k=>by
  have ih:=Ej3 p rs (k+1);rcases Bm (p r) with h|h
  ·simp[ixF,h];omega
  ·simp only[ixF,h,List.any_cons,K1,Cj];refine⟨by simpa using ih.1,?_,by simpa using ih.2.2⟩;have:=ih.2.1;simp only[B5,if_false] at this ⊢;omega
def T9 (l:List Rec) (g:Nat) (caps:List PV) (p:Rec→Bool) (hl:l.length≤1000000) (h:∀r∈l,S g 1 (r.pv::caps)=some [.b (p r)]):S Az0 2 [B6 l,.f g caps]=some [.i .i64 (ixF p 0 l)]:=by
 refine Jh7 (N:=l.length+1) rfl ?_;have key:Gx0.ev S (l.length+1) [B6 l,.f g caps]=some (if ixF p 0 l= -1 then .yld 0 [] else .ret [.i .i64 (ixF p 0 l)]):=by
  refine Es l (fun i=>[.i .i64 (i:Int)]) (fun i r=>if ixF p i r= -1 then .yld 0 [] else .ret [.i .i64 (ixF p i r)]) rfl (by omega) (fun i c r hd hi hc=> ?_) ?_
  ·have hp:=h c (Cq hc);rcases Bm (p c) with h1|h1
   ·rw[h1] at hp;right;have h2:¬((i:Int)= -1):=by omega
    simp(disch:=omega)only[Cm2,hc,hp,Aq,simprocAttr];simp[ixF,h1,h2,Out.goes]
   ·rw[h1] at hp;left;simp(disch:=omega)only[Cm2,hc,hp,Aq,simprocAttr];simp[ixF,h1]
  ·simp(disch:=omega)only[Cm2,Aq,simprocAttr];simp[ixF,Out.goes]
 by_cases h1:ixF p 0 l= -1
 ·rw[if_pos h1] at key;simp(disch:=omega)only[Cm2,key,h1,Aq,simprocAttr]
 ·rw[if_neg h1] at key;simp(disch:=omega)only[Cm2,key,Aq,simprocAttr]
def Kr (l:List Rec) (g:Nat) (caps:List PV) (p:Rec→Bool) (hl:l.length≤1000000) (h:∀r∈l,S g 1 (r.pv::caps)=some [.b (p r)]):S Ay5 2 [B6 l,.f g caps]=some [.b (l.any p)]:=by
 refine Jd8 (N:=1) rfl ?_;simp(disch:=omega)only[Jx0,T9 l g caps p hl h,Aq,simprocAttr];have:=(Ej3 p l 0).1;rcases Bm (l.any p) with h1|h1
 ·rw[h1] at this ⊢;simp[this.2 rfl]
 ·rw[h1] at this ⊢;have h2:¬(0≤ixF p 0 l):=fun h=>by simpa using this.1 h
  simp[h2]
end Go.X.G
/- nsec: Absent, Empty, on both sides. -/
namespace Go.X.G
open Go Go.X
end Go.X.G
/- Data of records: bytes. -/
namespace Go.X.G
open Go Go.X
def Bp4 (set:Int) (i:Nat):Nat→Bool
 |0=>true
 |k+1=>(!decide (bit set i=1)||knw (i:Int)) && Bp4 set (i+1) k
def Jk3 (set:Int) (N:Nat) (hN:64<N):
  Dt5.ev S N [.i .u64 set]=some (if Bp4 set 0 64=true then .yld 0 [] else .ret [.b false]):=by
 refine Gk 64 (fun i=>[.i .i64 (i:Int)]) (fun i=>if Bp4 set i (64 - i)=true then .yld 0 [] else .ret [.b false]) rfl hN (fun i hi=> ?_) ?_
 ·obtain⟨k,hk⟩:∃k,64 - i=k+1:=⟨63 - i,by omega⟩;have hk':64 - (i+1)=k:=by omega
  have hb:IntKind.u64.bits=64:=rfl;have hi':i<IntKind.u64.bits:=by rw[hb];exact hi
  have h0:X.bin .shr (.i .u64 set) (.i .u64 (i:Int))=some (.i .u64 (set / 2 ^ i)):=Aw3 _ _ _ _ hi';have h1:set / 2 ^ i % 2=bit set i:=rfl;rw[hk,hk'];simp only[Bp4];by_cases h2:bit set i=1<;>rcases Bm (knw (i:Int)) with h3|h3<;>simp(disch:=omega)only[Cp0,D3,Py,Hz3,h0,h1,h2,h3,Av,simprocAttr]
  all_goals simp[Out.goes]
 ·simp(disch:=omega) [Cp0,xe,EVP,EV,simprocAttr,Out.goes,Bp4]
def Jk2 (set:Int):S wq 1 [.i .u64 set]=some [.b (Bp4 set 0 64)]:=by refine Ij4 (N:=65) rfl ?_;simp(disch:=omega)only[Cp0,Jk3,Av,simprocAttr];cases Bp4 set 0 64<;>rfl
def be (v:Int):Nat→List UInt8
 |0=>[]
 |n+1=>UInt8.ofNat (v / 256 ^ n % 256).toNat::be v n
def Fp (v:Int):∀n,(be v n).length=n
 |0=>rfl
 |n+1=>by simp[be,Fp v n]
def Y0 (z:Int) (h1:0≤z) (h2:z<256):((UInt8.ofNat z.toNat).toNat:Int)=z:=by simp;omega
def Af5 (v:Int) (j:Nat):v / 256 ^ j / 256=v / 256 ^ (j+1):=by rw[Int.pow_succ,Int.ediv_ediv_of_nonneg (Int.le_of_lt (Int.pow_pos (by decide)))]
def zj (v:Int) (j:Nat) (h:0≤v):0≤v / 256 ^ j:=Int.ediv_nonneg h (Int.le_of_lt (Int.pow_pos (by decide)))
def zk (v:Int) (j:Nat) (h:0≤v):v / 256 ^ j≤v:=Int.ediv_le_self _ h
def Dd9 (v:Int) (n i:Nat) (p q:PV) (N:Nat) (hN:i<N) (hi:i≤1000) (h0:0≤v) (h1:v≤18446744073709551615):
  Dp7.ev S N [.i .u64 v,p,q,.i .i64 (i:Int)]=some (.yld 2 [.i .u64 (v / 256 ^ i)]):=by
 refine Gk i (fun j=>[.i .u64 (v / 256 ^ j),.i .i64 (j:Int)]) (fun j=> .yld 2 [.i .u64 (v / 256 ^ i)]) (by simp[mr,Ad2,Kb7,Kc1]) hN (fun j hj=> ?_) ?_
 ·left;have h2:=zj v j h0;have h3:=zk v j h0;have h4:=Af5 v j;simp(disch:=omega)only[pn,h4,Av,simprocAttr];simp
 ·simp(disch:=omega)only[pn,Av,simprocAttr];simp[Out.goes]
def Df0 (v:Int) (n:Nat) (N:Nat) (hN:n+1<N) (hn:n≤1000) (h0:0≤v) (h1:v≤18446744073709551615):
  Ab4.ev S N [.i .u64 v,.i .i64 (n:Int)]=some (.yld 0 [.l 1 (Db (be v n))]):=by
 have key:=Kq (fn:=S) (N:=N) (η:=[.i .u64 v,.i .i64 (n:Int)]) (id:=1) (init:=[(.c (.l 1 [])),(.bin .sub (.v 1) (.c (.i .i64 (1))))]) (body:=Am7) (α:=Nat×List UInt8) (fun a=>[.l 1 (Db a.2),.i .i64 ((a.1:Int) - 1)]) (fun a=> .yld 0 [.l 1 (Db (a.2++be v a.1))]) (fun a=>a.1+a.2.length=n) (fun a=>a.1) (n,[]) (by simp(disch:=omega)only[Av,simprocAttr];rfl) rfl (by simp only;omega) ?_
 ·simpa [Ab4] using key
 ·rintro⟨m,acc⟩ hm;simp only at hm ⊢;cases m with
  |zero=>
   right;simp(disch:=omega)only[pn,Av,simprocAttr];simp[be,Out.goes]
  |succ m=>
   left;have h2:=zj v m h0;have h3:=zk v m h0;have e:((m+1:Nat):Int) - 1=(m:Int):=by omega
   have e2:=Y0 (v / 256 ^ m % 256) (by omega) (by omega);have e3:=Px acc;refine⟨(m,acc++[UInt8.ofNat (v / 256 ^ m % 256).toNat]),?_,by simp;omega,by simp,by simp[be]⟩;rw[e];have hin:=Dd9 v n m (.i .i64 (n:Int)) (.l 1 (Db acc)) N (by omega) (by omega) h0 h1;simp(disch:=omega)only[pn,hin,Av,simprocAttr];rw[←Vn,e2]
def Y1 (v:Int) (n:Nat) (hn:n≤1000) (h0:0≤v) (h1:v≤18446744073709551615):S Y6 2 [.i .u64 v,.i .i64 (n:Int)]=some [.s (be v n)]:=by refine Hm9 (N:=n+2) rfl ?_;simp(disch:=omega)only[pn,Df0,Av,simprocAttr]
def Eg7 (v:Int) (n i:Nat) (p q:PV) (N:Nat) (hN:i<N) (hi:i≤1000) (h0:0≤v) (h1:v≤9223372036854775807):
  Dp9.ev S N [.i .i64 v,p,q,.i .i64 (i:Int)]=some (.yld 2 [.i .i64 (v / 256 ^ i)]):=by
 refine Gk i (fun j=>[.i .i64 (v / 256 ^ j),.i .i64 (j:Int)]) (fun j=> .yld 2 [.i .i64 (v / 256 ^ i)]) (by simp[mr,Ad2,Kb7,Kc1]) hN (fun j hj=> ?_) ?_
 ·left;have h2:=zj v j h0;have h3:=zk v j h0;have h4:=Af5 v j;simp(disch:=omega)only[qj,h4,Av,simprocAttr];simp
 ·simp(disch:=omega)only[qj,Av,simprocAttr];simp[Out.goes]
def Eg8 (v:Int) (n:Nat) (N:Nat) (hN:n+1<N) (hn:n≤1000) (h0:0≤v) (h1:v≤9223372036854775807):
  Ab5.ev S N [.i .i64 v,.i .i64 (n:Int)]=some (.yld 0 [.l 1 (Db (be v n))]):=by
 have key:=Kq (fn:=S) (N:=N) (η:=[.i .i64 v,.i .i64 (n:Int)]) (id:=1) (init:=[(.c (.l 1 [])),(.bin .sub (.v 1) (.c (.i .i64 (1))))]) (body:=Am9) (α:=Nat×List UInt8) (fun a=>[.l 1 (Db a.2),.i .i64 ((a.1:Int) - 1)]) (fun a=> .yld 0 [.l 1 (Db (a.2++be v a.1))]) (fun a=>a.1+a.2.length=n) (fun a=>a.1) (n,[]) (by simp(disch:=omega)only[Av,simprocAttr];rfl) rfl (by simp only;omega) ?_
 ·simpa [Ab5] using key
 ·rintro⟨m,acc⟩ hm;simp only at hm ⊢;cases m with
  |zero=>
   right;simp(disch:=omega)only[qj,Av,simprocAttr];simp[be,Out.goes]
  |succ m=>
   left;have h2:=zj v m h0;have h3:=zk v m h0;have e:((m+1:Nat):Int) - 1=(m:Int):=by omega
   have e2:=Y0 (v / 256 ^ m % 256) (by omega) (by omega);have e3:=Px acc;refine⟨(m,acc++[UInt8.ofNat (v / 256 ^ m % 256).toNat]),?_,by simp;omega,by simp,by simp[be]⟩;rw[e];have hin:=Eg7 v n m (.i .i64 (n:Int)) (.l 1 (Db acc)) N (by omega) (by omega) h0 h1;simp(disch:=omega)only[qj,hin,Av,simprocAttr];rw[←Vn,e2]
def Pg (v:Int) (n:Nat) (hn:n≤1000) (h0:0≤v) (h1:v≤9223372036854775807):S Gh 2 [.i .i64 v,.i .i64 (n:Int)]=some [.s (be v n)]:=by refine Hp0 (N:=n+2) rfl ?_;simp(disch:=omega)only[qj,Eg8,Av,simprocAttr]
end Go.X.G
/- Data of records: the wire form. -/
namespace Go.X.G
open Go Go.X
def Zh {s:List UInt8} (h:K8 s=true):s.length≤63:=by
 unfold K8 at h;simp at h;rcases h with h|h
 ·simp[h]
 ·omega
def j9:∀(r:List UInt8) (f:Bool) (cur:List UInt8) (l:List (List UInt8)),spl f cur r=some l→∀x∈l,K8 x=true
 |[],f,cur,l,h=>by simp[spl] at h;subst h;simp
 |c::r,f,cur,l,h=>by
  simp only[spl] at h;split at h
  ·split at h
   ·rename_i h2;obtain⟨m,hm,rfl⟩:=Bt.1 h;intro x hx;simp at hx;rcases hx with rfl|hx
    ·exact h2.1
    ·exact j9 r _ _ _ hm x hx
   ·cases h
  ·exact j9 r _ _ _ h
def Ty (n:List UInt8):∀x∈lbl n,K8 x=true:=by
 unfold lbl nm;split
 ·simp
 ·split
  ·cases h:spl true [] n with
   |none=>simp
   |some l=>simpa using j9 _ _ _ _ h
  ·simp
def wireL (l:List (List UInt8)):List UInt8:=l.flatMap fun x=>be (x.length:Int) 1++x
def K2 (n:List UInt8):List UInt8:=wireL (lbl n)++be 0 1
def Sx:∀(l:List (List UInt8)),(∀x∈l,K8 x=true)→(wireL l).length≤64*l.length
 |[],_=>by simp[wireL]
 |x::l,h=>by have h1:=Zh (h x (by simp));have h2:=Sx l (fun y hy=>h y (by simp[hy]));simp only[wireL,F3,B0,Fp,Cj] at h2 ⊢;omega
def Sw (n:List UInt8):(K2 n).length≤20000:=by have h1:=Sx (lbl n) (Ty n);have h2:=G2 n;simp only[K2,B0,Fp];omega
def An9 (n:List UInt8) (N:Nat) (hN:254<N):
  Ab6.ev S N [.s n,Cn (lbl n)]=some (.yld 0 [.s (wireL (lbl n))]):=by
 have hl:=G2 n;have key:=D7 (fn:=S) (N:=N) (η:=[.s n,Cn (lbl n)]) (id:=1) (init:=[(.c (.s [])),(.c (.i .i64 (0)))]) (body:=An0) (lbl n) (fun i (g:List UInt8)=>[.s g,.i .i64 (i:Int)]) (fun i g r=> .yld 0 [.s (g++wireL r)]) (fun i g=>g.length≤64*i) [] rfl (B7 _) (by omega) (fun i g c r hd hi hc hI=> ?_) (fun g hI=> ?_)
 ·simpa [Ab6] using key
 ·left;have h1:=Zh (Ty n c (Cq hc));have h2:=Pg (c.length:Int) 1 (by omega) (by omega) (by omega);have h3:=Fp (c.length:Int) 1;have h4:(be (c.length:Int) 1++c).length=1+c.length:=by rw[B0,h3]
  refine⟨g++(be (c.length:Int) 1++c),?_,?_,?_⟩
  ·simp only[Int.natCast_one] at h2;simp(disch:=omega)only[Cn4,hc,h2,Av,simprocAttr]
  ·rw[B0,h4];omega
  ·simp[wireL]
 ·simp(disch:=omega)only[Cn4,Av,simprocAttr];simp[Out.goes,wireL]
def Gz (n:List UInt8) (hn:n.length≤9223372036854775807):S Or 1 [.s n]=some [.s (K2 n)]:=by refine Hp1 (N:=255) rfl ?_;have h1:=Sx (lbl n) (Ty n);have h2:=G2 n;have h3:=Fp 0 1;have h4:=Pg 0 1 (by omega) (by omega) (by omega);simp only[Int.natCast_one] at h4;simp(disch:=omega)only[Cn4,J2,An9,h4,Av,simprocAttr];rfl
def bmV (set:Int) (i:Nat):Nat→Int
 |0=>0
 |j+1=>bmV set i j*2+bit set (i*8+j)
def Ec3 (set:Int) (t:Nat):0≤bit set t∧bit set t≤1:=by unfold bit;omega
def il (set:Int) (i:Nat):∀j,0≤bmV set i j∧bmV set i j<2 ^ j
 |0=>by simp[bmV]
 |j+1=>by have h1:=il set i j;have h2:=Ec3 set (i*8+j);simp only[bmV,Int.pow_succ];omega
def bmB (set:Int) (i:Nat):UInt8:=UInt8.ofNat (bmV set i 8).toNat
def bmL (set:Int):Nat→Nat
 |0=>0
 |i+1=>if bmV set i 8≠0 then i+1 else bmL set i
def Eb6 (set:Int):∀i,bmL set i≤i
 |0=>B7 _
 |i+1=>by have:=Eb6 set i;simp only[bmL];split<;>omega
def bmap (set:Int):List UInt8:=((List.range 8).map (bmB set)).take (bmL set 8)
def Ec0 (set:Int) (p q:PV) (i:Nat) (hi:i<8) (N:Nat) (hN:8<N):
  Dp8.ev S N [.i .u64 set,p,q,.i .i64 (i:Int)]=some (.yld 2 [.i .i64 (bmV set i 8)]):=by
 refine Gk 8 (fun j=>[.i .i64 (bmV set i j),.i .i64 (j:Int)]) (fun j=> .yld 2 [.i .i64 (bmV set i 8)]) rfl hN (fun j hj=> ?_) ?_
 ·left;have hb:IntKind.u64.bits=64:=rfl;have hi':i*8+j<IntKind.u64.bits:=by rw[hb];omega
  have e:((i:Int)*8+(j:Int))=((i*8+j:Nat):Int):=by simp
  have h0:X.bin .shr (.i .u64 set) (.i .u64 ((i*8+j:Nat):Int))=some (.i .u64 (set / 2 ^ (i*8+j))):=Aw3 _ _ _ _ hi';have h1:set / 2 ^ (i*8+j) % 2=bit set (i*8+j):=rfl;have h2:=il set i j;have h3:(2:Int) ^ j≤128:=(by decide:∀j,j<8→(2:Int) ^ j≤128) j hj;have h4:=Ec3 set (i*8+j);simp(disch:=omega)only[dy,Py,Hz3,h0,h1,←e,Av,simprocAttr];refine⟨?_,trivial⟩;rw[e,h0];simp(disch:=omega)only[Py,Hz3,h0,h1,Av,simprocAttr];rfl
 ·simp(disch:=omega)only[dy,Av,simprocAttr];simp[Out.goes]
def Ec1 (set:Int) (N:Nat) (hN:8<N):
  Ds4.ev S N [.i .u64 set]=some (.yld 0 [.l 1 (Db ((List.range 8).map (bmB set))),.i .i64 (bmL set 8:Int)]):=by
 refine Gk 8 (fun i=>[.l 1 (Db ((List.range i).map (bmB set))),.i .i64 (bmL set i:Int),.i .i64 (i:Int)]) (fun _=> .yld 0 [.l 1 (Db ((List.range 8).map (bmB set))),.i .i64 (bmL set 8:Int)]) rfl hN (fun i hi=> ?_) ?_
 ·left;have h1:=Ec0 set (.l 1 (Db ((List.range i).map (bmB set)))) (.i .i64 (bmL set i:Int)) i hi N hN;have h2:=il set i 8;have h3:(2:Int) ^ 8=256:=rfl;have h4:=Y0 (bmV set i 8) (by omega) (by omega);have h5:(Db ((List.range i).map (bmB set))).length=i:=by simp[Px]
  have h6:Db ((List.range (i+1)).map (bmB set))=Db ((List.range i).map (bmB set))++[.i .u8 (bmV set i 8)]:=by rw[List.range_succ,Jk9,←h4];exact(Vn _ _).symm
  rw[h6];by_cases h7:bmV set i 8=0
  ·simp(disch:=omega)only[dy,h1,bmL,h7,Av,simprocAttr];simp
  ·simp(disch:=omega)only[dy,h1,bmL,Av,simprocAttr];simp[h7]
 ·simp(disch:=omega)only[dy,Av,simprocAttr];simp[Out.goes]
def Eb9 (set:Int):S u4 1 [.i .u64 set]=some [.s (bmap set)]:=by
 refine Hn9 (N:=9) rfl ?_;have h1:=Eb6 set 8;have h2:(Db ((List.range 8).map (bmB set))).length=8:=by simp[Px]
 have h3:List.drop 0 (List.take (bmL set 8) (Db ((List.range 8).map (bmB set))))=Db (bmap set):=by simp only[F4,bmap,Db,List.map_take]
 simp(disch:=omega)only[dy,Ec1,h3,Av,simprocAttr]
def ox (set:Int):(bmap set).length≤8:=by simp[bmap];omega
def Sy (d:Dat):List UInt8:=if d.v6 then be d.hi 8++be d.lo 8 else be d.lo 4
def Bp8 (d:Dat) (h:d.wf):S u5 1 [Ll d]=some (if F0 d=true then [.s (Sy d),.i .i64 0] else [.s [],.i .i64 3]):=by refine Hp2 (N:=1) rfl ?_;have h1:=h.hi;have h2:=h.lo;have a1:=Y1 d.hi 8 (by omega) h1.1 h1.2;have a2:=Y1 d.lo 8 (by omega) h2.1 h2.2;have a3:=Y1 d.lo 4 (by omega) h2.1 h2.2;have b1:=Fp d.hi 8;have b2:=Fp d.lo 8;simp only[Int.cast_ofNat_Int] at a1 a2 a3;unfold Sy;rcases Bm (F0 d) with h3|h3<;>rcases Bm d.v6 with h4|h4<;>simp(disch:=omega)only[Hb0,zn,h3,h4,a1,a2,a3,Av,simprocAttr]
def usd (t:Int) (d:Dat):Dat:=
 if t=1∨t=28 then ⟨d.v6,d.hi,d.lo,[],[],[],0,0,0,0,0,0,0⟩
 else if t=2∨t=5∨t=12∨t=39 then ⟨false,0,0,d.host,[],[],0,0,0,0,0,0,0⟩
 else if t=6 then ⟨false,0,0,d.host,d.mail,[],d.a,d.b,d.c,d.d,d.e,0,0⟩
 else if t=15 then ⟨false,0,0,d.host,[],[],d.a,0,0,0,0,0,0⟩
 else if t=16 then ⟨false,0,0,[],[],d.text,0,0,0,0,0,0,0⟩
 else if t=33 then ⟨false,0,0,d.host,[],[],d.a,d.b,d.c,0,0,0,0⟩
 else if t=43∨t=48 then ⟨false,0,0,[],[],d.text,d.a,d.b,d.c,0,0,0,0⟩
 else if t=46 then ⟨false,0,0,d.host,[],d.text,d.a,d.b,d.c,d.d,d.e,d.f,0⟩
 else ⟨false,0,0,d.host,[],[],0,0,0,0,0,0,d.bits⟩
def Jq (t:Int) (d:Dat):S ww 2 [.i .i64 t,d.pv]=some [(usd t d).pv]:=by
 refine Ik0 (N:=1) rfl ?_;rcases t15 t with rfl|rfl|rfl|rfl|rfl|rfl|rfl|rfl|rfl|rfl|rfl|rfl|rfl|rfl|⟨h0,h1,h2,h3,h4,h5,h6,h7,h8,h9,h10,h11,h12,h13⟩
 all_goals simp(disch:=omega)only[Hd1,Av,simprocAttr]
 all_goals first|rfl|(unfold usd;simp[*])
end Go.X.G
/- Data of records: which are valid. -/
namespace Go.X.G
open Go Go.X
def Ek (t:Int) (d:Dat):Bool:=
 if t=1 then F0 d && !d.v6
 else if t=28 then d.v6
 else if t=6 then H3 d.host && H3 d.mail && inB d.a 4294967295 && inB d.b 2147483647 && inB d.c 2147483647 && inB d.d 2147483647 && inB d.e 2147483647
 else if t=15 then H3 d.host && inB d.a 65535
 else if t=16 then decide (d.text.length≤255)
 else if t=33 then H3 d.host && inB d.a 65535 && inB d.b 65535 && inB d.c 65535
 else if t=43 then inB d.a 65535 && inB d.b 255 && inB d.c 255 && Ix d.text
 else if t=46 then knw d.a && decide (d.a≠46) && inB d.b 127 && inB d.c 2147483647 && inB d.d 4294967295 && inB d.e 4294967295 && inB d.f 65535 && H3 d.host && Ix d.text
 else if t=47 then vld d.host && decide (d.bits≠0) && Bp4 d.bits 0 64
 else if t=48 then(decide (d.a=256)||decide (d.a=257)) && decide (d.b=3) && inB d.c 255 && Ix d.text
 else H3 d.host
def Fg (t:Int) (d:Dat):Bool:=knw t && decide (usd t d=d) && Ek t d
def Gc (t:Int) (d:Dat) (h:d.wf):S Cx1 2 [.i .i64 t,d.pv]=some [.b (Fg t d)]:=by
 refine Jg9 (N:=1) rfl ?_;have g1:=h.host;have g2:=h.mail;have g3:=h.text;unfold My at g1 g2 g3;rcases Bm (knw t) with hk|hk
 ·by_cases hu:usd t d=d
  ·rcases t15 t with rfl|rfl|rfl|rfl|rfl|rfl|rfl|rfl|rfl|rfl|rfl|rfl|rfl|rfl|⟨h0,h1,h2,h3,h4,h5,h6,h7,h8,h9,h10,h11,h12,h13⟩
   ·rcases ch2 (F0 d) (d.v6) with e0|⟨e0,e1⟩|⟨e0,e1⟩
    all_goals simp(disch:=omega)only[Qd,D3,Jq,zn,xe,EVP,EV,simprocAttr,hk,hu, *]
    all_goals (unfold Fg Ek;simp[*])
   ·simp(disch:=omega)only[Qd,D3,Jq,J7,xe,EVP,EV,simprocAttr,hk,hu];unfold Fg Ek;simp[*]
   ·simp(disch:=omega)only[Qd,D3,Jq,J7,xe,EVP,EV,simprocAttr,hk,hu];unfold Fg Ek;simp[*]
   ·rcases ch7 (H3 d.host) (H3 d.mail) (inB d.a 4294967295) (inB d.b 2147483647) (inB d.c 2147483647) (inB d.d 2147483647) (inB d.e 2147483647) with e0|⟨e0,e1⟩|⟨e0,e1,e2⟩|⟨e0,e1,e2,e3⟩|⟨e0,e1,e2,e3,e4⟩|⟨e0,e1,e2,e3,e4,e5⟩|⟨e0,e1,e2,e3,e4,e5,e6⟩|⟨e0,e1,e2,e3,e4,e5,e6⟩
    all_goals simp(disch:=omega)only[Qd,D3,Jq,J7,Eg2,Cz0,xe,EVP,EV,simprocAttr,hk,hu, *]
    all_goals (unfold Fg Ek;simp[*])
   ·simp(disch:=omega)only[Qd,D3,Jq,J7,xe,EVP,EV,simprocAttr,hk,hu];unfold Fg Ek;simp[*]
   ·rcases ch2 (H3 d.host) (inB d.a 65535) with e0|⟨e0,e1⟩|⟨e0,e1⟩
    all_goals simp(disch:=omega)only[Qd,D3,Jq,J7,Cz0,xe,EVP,EV,simprocAttr,hk,hu, *]
    all_goals (unfold Fg Ek;simp[*])
   ·simp(disch:=omega)only[Qd,D3,Jq,J7,xe,EVP,EV,simprocAttr,hk,hu];unfold Fg Ek;simp[*];omega
   ·simp(disch:=omega)only[Qd,D3,Jq,J7,xe,EVP,EV,simprocAttr,hk,hu];unfold Fg Ek;simp[*]
   ·rcases ch4 (H3 d.host) (inB d.a 65535) (inB d.b 65535) (inB d.c 65535) with e0|⟨e0,e1⟩|⟨e0,e1,e2⟩|⟨e0,e1,e2,e3⟩|⟨e0,e1,e2,e3⟩
    all_goals simp(disch:=omega)only[Qd,D3,Jq,J7,Cz0,xe,EVP,EV,simprocAttr,hk,hu, *]
    all_goals (unfold Fg Ek;simp[*])
   ·simp(disch:=omega)only[Qd,D3,Jq,J7,xe,EVP,EV,simprocAttr,hk,hu];unfold Fg Ek;simp[*]
   ·rcases ch4 (inB d.a 65535) (inB d.b 255) (inB d.c 255) (Ix d.text) with e0|⟨e0,e1⟩|⟨e0,e1,e2⟩|⟨e0,e1,e2,e3⟩|⟨e0,e1,e2,e3⟩
    all_goals simp(disch:=omega)only[Qd,D3,Jq,Cz0,j7,xe,EVP,EV,simprocAttr,hk,hu, *]
    all_goals (unfold Fg Ek;simp[*])
   ·rcases ch9 (knw d.a) (decide (d.a≠46)) (inB d.b 127) (inB d.c 2147483647) (inB d.d 4294967295) (inB d.e 4294967295) (inB d.f 65535) (H3 d.host) (Ix d.text) with e0|⟨e0,e1⟩|⟨e0,e1,e2⟩|⟨e0,e1,e2,e3⟩|⟨e0,e1,e2,e3,e4⟩|⟨e0,e1,e2,e3,e4,e5⟩|⟨e0,e1,e2,e3,e4,e5,e6⟩|⟨e0,e1,e2,e3,e4,e5,e6,e7⟩|⟨e0,e1,e2,e3,e4,e5,e6,e7,e8⟩|⟨e0,e1,e2,e3,e4,e5,e6,e7,e8⟩
    all_goals simp(disch:=omega)only[Qd,D3,Jq,J7,Cz0,j7,xe,EVP,EV,simprocAttr,hk,hu, *]
    all_goals (unfold Fg Ek;simp[*])
   ·rcases ch3 (vld d.host) (decide (d.bits≠0)) (Bp4 d.bits 0 64) with e0|⟨e0,e1⟩|⟨e0,e1,e2⟩|⟨e0,e1,e2⟩
    all_goals simp(disch:=omega)only[Qd,D3,Jq,Gd,Jk2,xe,EVP,EV,simprocAttr,hk,hu, *]
    all_goals (unfold Fg Ek;simp[*])
   ·rcases ch4 (decide (d.a=256)||decide (d.a=257)) (decide (d.b=3)) (inB d.c 255) (Ix d.text) with e0|⟨e0,e1⟩|⟨e0,e1,e2⟩|⟨e0,e1,e2,e3⟩|⟨e0,e1,e2,e3⟩
    all_goals simp(disch:=omega)only[Qd,D3,Jq,Cz0,j7,xe,EVP,EV,simprocAttr,hk,hu, *]
    all_goals (unfold Fg Ek;simp[*])
   ·simp[knw, *] at hk
  ·simp(disch:=omega)only[Qd,D3,Jq,xe,EVP,EV,simprocAttr,hk,hu];unfold Fg;simp[hu]
 ·simp(disch:=omega)only[Qd,D3,xe,EVP,EV,simprocAttr,hk];unfold Fg;simp[hk]
def K3 (t:Int) (d:Dat):List UInt8:=
 if t=1∨t=28 then Sy d
 else if t=6 then K2 d.host++K2 d.mail++be d.a 4++be d.b 4++be d.c 4++be d.d 4++be d.e 4
 else if t=15 then be d.a 2++K2 d.host
 else if t=16 then be (d.text.length:Int) 1++d.text
 else if t=33 then be d.a 2++be d.b 2++be d.c 2++K2 d.host
 else if t=43∨t=48 then be d.a 2++be d.b 1++be d.c 1++d.text
 else if t=46 then be d.a 2++be 253 1++be d.b 1++be d.c 4++be d.d 4++be d.e 4++be d.f 2++K2 d.host++d.text
 else if t=47 then K2 d.host++be 0 1++be ((bmap d.bits).length:Int) 1++bmap d.bits
 else K2 d.host
def knw_cases {t:Int} (h:knw t=true):t=1∨t=2∨t=5∨t=6∨t=12∨t=15∨t=16∨t=28∨t=33∨t=39∨t=43∨t=46∨t=47∨t=48:=by simp[knw] at h;omega
def am (v:Int) (h0:0≤v) (h1:v≤9223372036854775807):S Gh 2 [.i .i64 v,.i .i64 1]=some [.s (be v 1)]:=Pg v 1 (by omega) h0 h1
def ah (v:Int) (h0:0≤v) (h1:v≤9223372036854775807):S Gh 2 [.i .i64 v,.i .i64 2]=some [.s (be v 2)]:=Pg v 2 (by omega) h0 h1
def Eg9 (v:Int) (h0:0≤v) (h1:v≤9223372036854775807):S Gh 2 [.i .i64 v,.i .i64 4]=some [.s (be v 4)]:=Pg v 4 (by omega) h0 h1
def Xt (t:Int) (d:Dat) (h:d.wf):S fz 2 [.i .i64 t,d.pv]=some (if Fg t d=true then [.s (K3 t d),.i .i64 0] else if knw t=true then [.s [],.i .i64 5] else [.s [],.i .i64 4]):=by
 refine Hs1 (N:=1) rfl ?_;have g1:=h.host;have g2:=h.mail;have g3:=h.text;unfold My at g1 g2 g3;have g4:=Sw d.host;have g5:=Sw d.mail;have g6:=ox d.bits;rcases Bm (knw t) with hk|hk
 ·rcases Bm (Fg t d) with hv|hv
  ·rw[if_pos hv];have hv':=hv;rcases knw_cases hk with rfl|rfl|rfl|rfl|rfl|rfl|rfl|rfl|rfl|rfl|rfl|rfl|rfl|rfl
   ·simp[Fg,Ek] at hv';simp(disch:=omega)only[Ks,D3,Gc _ _ h,Bp8 d h,hk,hv,hv'.2.1,Av,simprocAttr];rfl
   ·simp(disch:=omega)only[Ks,D3,Gc _ _ h,Gz,hk,hv,Av,simprocAttr];rfl
   ·simp(disch:=omega)only[Ks,D3,Gc _ _ h,Gz,hk,hv,Av,simprocAttr];rfl
   ·simp[Fg,Ek,inB,Ix] at hv';simp(disch:=first|omega|(simp only[B0,Fp];omega))only[Ks,D3,Gc _ _ h,Gz,Eg9,hk,hv,Av,simprocAttr];rfl
   ·simp(disch:=omega)only[Ks,D3,Gc _ _ h,Gz,hk,hv,Av,simprocAttr];rfl
   ·simp[Fg,Ek,inB,Ix] at hv';simp(disch:=first|omega|(simp only[B0,Fp];omega))only[Ks,D3,Gc _ _ h,Gz,ah,hk,hv,Av,simprocAttr];rfl
   ·simp[Fg,Ek,inB,Ix] at hv';simp(disch:=first|omega|(simp only[B0,Fp];omega))only[Ks,D3,Gc _ _ h,Gz,am,hk,hv,Av,simprocAttr];rfl
   ·simp[Fg,Ek] at hv';have ha:F0 d=true:=by simp[F0,hv'.2]
    simp(disch:=omega)only[Ks,D3,Gc _ _ h,Bp8 d h,hk,hv,ha,Av,simprocAttr];rfl
   ·simp[Fg,Ek,inB,Ix] at hv';simp(disch:=first|omega|(simp only[B0,Fp];omega))only[Ks,D3,Gc _ _ h,Gz,ah,hk,hv,Av,simprocAttr];rfl
   ·simp(disch:=omega)only[Ks,D3,Gc _ _ h,Gz,hk,hv,Av,simprocAttr];rfl
   ·simp[Fg,Ek,inB,Ix] at hv';simp(disch:=first|omega|(simp only[B0,Fp];omega))only[Ks,D3,Gc _ _ h,Gz,am,ah,hk,hv,Av,simprocAttr];rfl
   ·simp[Fg,Ek,inB,Ix] at hv';have k1:0≤d.a:=by have:=knw_cases hv'.2.1.1.1.1.1.1.1.1;omega
    have k2:=h.a.2;simp(disch:=first|omega|(simp only[B0,Fp];omega))only[Ks,D3,Gc _ _ h,Gz,am,ah,Eg9,hk,hv,Av,simprocAttr];rfl
   ·simp(disch:=first|omega|(simp only[B0,Fp];omega))only[Ks,D3,Gc _ _ h,Gz,Eb9,am,hk,hv,Av,simprocAttr];rfl
   ·simp[Fg,Ek,inB,Ix] at hv';simp(disch:=first|omega|(simp only[B0,Fp];omega))only[Ks,D3,Gc _ _ h,Gz,am,ah,hk,hv,Av,simprocAttr];rfl
  ·simp(disch:=omega)only[Ks,D3,Gc _ _ h,hk,hv,Av,simprocAttr]
 ·have hv:Fg t d=false:=by simp[Fg,hk]
  simp(disch:=omega)only[Ks,D3,hk,hv,Av,simprocAttr]
def Ex2 (t:Int) (a b:Dat):Int:=
 if Fg t a && Fg t b then cmpS (K3 t a) (K3 t b) else if Fg t a then -1 else if Fg t b then 1 else 0
def Ap9 (t:Int) (a b:Dat) (ha:a.wf) (hb:b.wf):S wj 3 [.i .i64 t,a.pv,b.pv]=some [.i .i64 (Ex2 t a b)]:=by
 refine Ij2 (N:=1) rfl ?_;unfold Ex2 cmpS;rcases Bm (Fg t a) with h1|h1<;>rcases Bm (Fg t b) with h2|h2
 ·simp(disch:=omega)only[Gj4,Xt _ _ ha,Xt _ _ hb,h1,h2,Av,simprocAttr];cases Op.bytesLess (K3 t a) (K3 t b)
  ·by_cases h3:K3 t a=K3 t b<;>simp[h3]
  ·simp
 all_goals rcases Bm (knw t) with h3|h3<;>simp(disch:=omega) [Gj4,Xt _ _ ha,Xt _ _ hb,h1,h2,h3,Av,simprocAttr]
end Go.X.G
/- Lists of records: what the reference's functions give. -/
namespace Go.X.G
open Go Go.X
def Qf (r:Rec):Bool:=vld r.name && knw r.typ && decide (0≤r.ttl) && decide (r.ttl≤2147483647) && Fg r.typ r.data
def zm (r:Rec) (h:r.wf):S Dl2 1 [r.pv]=some [.b (Qf r)]:=by
 refine Jn6 (N:=1) rfl ?_;have g:=h.name;unfold My at g;unfold Qf;by_cases h0:0≤r.ttl<;>by_cases h1:r.ttl≤2147483647
 all_goals rcases ch3 (vld r.name) (knw r.typ) (Fg r.typ r.data) with e0|⟨e0,e1⟩|⟨e0,e1,e2⟩|⟨e0,e1,e2⟩
 all_goals simp(disch:=omega) [Jy8,Gd,D3,Gc _ _ h.data,xe,EVP,EV,simprocAttr, *]
def zx (a b:Int):Int:=if a<b then -1 else if b<a then 1 else 0
def Cv8 (a b:Int):S wk 2 [.i .i64 a,.i .i64 b]=some [.i .i64 (zx a b)]:=by
 refine Ij3 (N:=1) rfl ?_;unfold zx;simp(disch:=omega)only[Hc6,Av,simprocAttr]
 grind
def Rs (a b:Rec):Int:=
 if Jp a.name b.name≠0 then Jp a.name b.name else if zx a.typ b.typ≠0 then zx a.typ b.typ else Ex2 a.typ a.data b.data
def yy (a b:Rec) (ha:a.wf) (hb:b.wf):S Cx0 2 [a.pv,b.pv]=some [.i .i64 (Rs a b)]:=by refine Jg8 (N:=1) rfl ?_;have g1:=ha.name;have g2:=hb.name;unfold My at g1 g2;unfold Rs;simp(disch:=omega)only[Jx6,J4,Cv8,Ap9 _ _ _ ha.data hb.data,Av,simprocAttr];by_cases h1:Jp a.name b.name=0<;>by_cases h2:zx a.typ b.typ=0<;>simp[h1,h2]
def isK (n:List UInt8) (t:Int) (r:Rec):Bool:=decide (r.name=n) && decide (r.typ=t)
def findR (l:List Rec) (n:List UInt8) (t:Int):List Rec:=l.filter (isK n t)
def Nh (l:List Rec) (n:List UInt8) (t:Int) (hl:l.length≤1000000):S uk 3 [B6 l,.s n,.i .i64 t]=some [B6 (findR l n t)]:=by
 refine Jn7 (N:=l.length+1) rfl ?_;have key:Gy9.ev S (l.length+1) [B6 l,.s n,.i .i64 t]=some (.yld 0 [B6 ([]++findR l n t)]):=by
  refine D7 l (fun i (g:List Rec)=>[B6 g,.i .i64 (i:Int)]) (fun i g r=> .yld 0 [B6 (g++findR r n t)]) (fun i g=>g.length≤i) [] rfl (Dy _) (by omega) (fun i g c r hd hi hc hI=> ?_) (fun g hI=> ?_)
  ·left;by_cases h:isK n t c=true
   ·refine⟨g++[c],?_,by simp;omega,by simp[findR,h]⟩;simp[isK] at h;simp(disch:=omega)only[Cm6,hc,h.1,h.2,Av,simprocAttr]
   ·refine⟨g,?_,by omega,by simp[findR,h]⟩;simp[isK] at h;by_cases h1:c.name=n
    ·simp(disch:=omega)only[Cm6,hc,h1,h h1,Av,simprocAttr]
    ·simp(disch:=omega)only[Cm6,hc,h1,Av,simprocAttr]
  ·simp(disch:=omega)only[Cm6,Av,simprocAttr];simp[findR,Out.goes]
 simp(disch:=omega)only[Cm6,key,Av,simprocAttr]
def Fs7 (l:List Rec) (n:List UInt8) (t:Int) (hl:l.length≤1000000):S Df6 3 [B6 l,.s n,.i .i64 t]=some [B6 (findR l n t)]:=by
 refine Jd0 (N:=l.length+1) rfl ?_;have key:Gv5.ev S (l.length+1) [B6 l,.s n,.i .i64 t]=some (.yld 0 [B6 ([]++findR l n t)]):=by
  refine D7 l (fun i (g:List Rec)=>[B6 g,.i .i64 (i:Int)]) (fun i g r=> .yld 0 [B6 (g++findR r n t)]) (fun i g=>g.length≤i) [] rfl (Dy _) (by omega) (fun i g c r hd hi hc hI=> ?_) (fun g hI=> ?_)
  ·left;by_cases h:isK n t c=true
   ·refine⟨g++[c],?_,by simp;omega,by simp[findR,h]⟩;simp[isK] at h;simp(disch:=omega)only[Cl5,hc,h.1,h.2,Av,simprocAttr]
   ·refine⟨g,?_,by omega,by simp[findR,h]⟩;simp[isK] at h;by_cases h1:c.name=n
    ·simp(disch:=omega)only[Cl5,hc,h1,h h1,Av,simprocAttr]
    ·by_cases h2:c.typ=t<;>simp(disch:=omega)only[Cl5,hc,h1,h2,Av,simprocAttr]
  ·simp(disch:=omega)only[Cl5,Av,simprocAttr];simp[findR,Out.goes]
 simp(disch:=omega)only[Cl5,key,Av,simprocAttr]
def Uq (a b:List Rec) (ha:a.length≤1000000):S Dl1 2 [B6 a,B6 b]=some [.b (decide (a=b))]:=by
 refine Jn5 (N:=a.length+1) rfl ?_;by_cases hl:a.length=b.length
 ·have key:Gy8.ev S (a.length+1) [B6 a,B6 b]=some (if a.drop 0=b.drop 0 then .yld 0 [] else .ret [.b false]):=by
   refine Es a (fun i=>[.i .i64 (i:Int)]) (fun i r=>if r=b.drop i then .yld 0 [] else .ret [.b false]) rfl (by omega) (fun i c r hd hi hc=> ?_) ?_
   ·obtain⟨y,r',hb,hd2,hd3⟩:∃y r',b[i]? =some y∧b.drop i=y::r'∧b.drop (i+1)=r':=⟨b[i]'(by omega),_,Bs (by omega),Df (by omega),rfl⟩;rw[hd2,hd3];by_cases h:c=y
    ·subst h;left;simp(disch:=omega)only[Br9,hc,hb,Av,simprocAttr];simp
    ·right;simp(disch:=omega)only[Br9,hc,hb,h,Av,simprocAttr];simp[h,Out.goes]
   ·have hd2:b.drop a.length=[]:=Hh (by omega);rw[hd2];simp(disch:=omega)only[Br9,Av,simprocAttr];simp[Out.goes]
  simp only[F4] at key;by_cases h:a=b
  ·rw[if_pos h] at key;simp(disch:=omega)only[Br9,key,Av,simprocAttr]
   try simp[h]
  ·rw[if_neg h] at key;simp(disch:=omega)only[Br9,key,Av,simprocAttr]
   try simp[h]
 ·have h:a≠b:=fun h=>hl (by rw[h]);simp(disch:=omega) [Br9,h,Av,simprocAttr]
def Wr (x:Rec):List Rec→List Rec
 |[]=>[x]
 |y::r=>if Rs y x<0 then y::Wr x r else if Rs y x=0 then(if x.ttl<y.ttl then x::r else y::r) else x::y::r
def sortR (l:List Rec):List Rec:=l.foldl (fun acc x=>Wr x acc) []
def Ny (x:Rec):List Rec→Nat
 |[]=>0
 |y::r=>if Rs y x<0 then Ny x r+1 else 0
def Bf4 (x:Rec):∀l,Ny x l≤l.length
 |[]=>B7 _
 |y::r=>by have:=Bf4 x r;simp only[Ny];split<;>simp;omega
def Ek2 (x:Rec):∀(l:List Rec),Wr x l=match l[Ny x l]? with
  |some y=>if Rs y x=0 then(if x.ttl<y.ttl then l.set (Ny x l) x else l) else l.take (Ny x l)++[x]++l.drop (Ny x l)
  |none=>l.take (Ny x l)++[x]++l.drop (Ny x l)
 |[]=>rfl
 |y::r=>by
  simp only[Wr,Ny];by_cases h:Rs y x<0
  ·simp only[if_pos h,E6];rw[Ek2 x r];cases h2:r[Ny x r]? with
   |none=>simp
   |some z=>by_cases h3:Rs z x=0<;>by_cases h4:x.ttl<z.ttl<;>simp[h3,h4]
  ·simp only[if_neg h,Dn];by_cases h3:Rs y x=0<;>by_cases h4:x.ttl<y.ttl<;>simp[h3,h4]
def my (x:Rec):∀l,(Wr x l).length≤l.length+1
 |[]=>by simp[Wr]
 |y::r=>by
  have:=my x r;simp only[Wr];split
  ·simp;omega
  ·split
   ·split<;>simp
   ·simp
def insR_mem (x:Rec):∀(l:List Rec) (y:Rec),y∈Wr x l→y=x∨y∈l
 |[],y,h=>by simp[Wr] at h;exact .inl h
 |z::r,y,h=>by
  simp only[Wr] at h;split at h
  ·simp at h;rcases h with h|h
   ·exact .inr (by simp[h])
   ·rcases insR_mem x r y h with h|h
    ·exact .inl h
    ·exact .inr (by simp[h])
  ·split at h
   ·split at h
    ·simp at h;rcases h with h|h
     ·exact .inl h
     ·exact .inr (by simp[h])
    ·exact .inr h
   ·simp at h;rcases h with h|h
    ·exact .inl h
    ·exact .inr (by simpa using h)
def Hy1 (l g:List Rec) (i:Nat) (x:Rec) (hx:l[i]? =some x) (hw:∀r∈l,r.wf) (hg:∀r∈g,r.wf) (N:Nat) (hN:g.length<N) (hl:g.length≤1000000):
  Dp6.ev S N [B6 l,B6 g,.i .i64 (i:Int)]=some (.yld 2 [.i .i64 (Ny x g:Int)]):=by
 have key:Dp6.ev S N [B6 l,B6 g,.i .i64 (i:Int)]=some (.yld 2 [.i .i64 ((0+Ny x g:Nat):Int)]):=by
  refine Es g (fun k=>[.i .i64 (k:Int)]) (fun k r=> .yld 2 [.i .i64 ((k+Ny x r:Nat):Int)]) rfl hN (fun k c r hd hk hc=> ?_) ?_
  ·have h1:=yy c x (hg c (Cq hc)) (hw x (Cq hx));by_cases h:Rs c x<0
   ·left;simp(disch:=omega)only[jp,hc,hx,h1,h,Av,simprocAttr];refine⟨trivial,?_⟩;simp only[Ny,if_pos h];congr 3;push_cast;omega
   ·right;simp(disch:=omega)only[jp,hc,hx,h1,Av,simprocAttr];simp[Ny,h,Out.goes]
  ·simp(disch:=omega)only[jp,Av,simprocAttr];simp[Ny,Out.goes]
 simpa using key
def Hy2 (l:List Rec) (hw:∀r∈l,r.wf) (N:Nat) (hN:l.length<N) (hl:l.length≤1000000):
  Gy7.ev S N [B6 l]=some (.yld 0 [B6 (sortR l)]):=by
 refine D7 l (fun i (g:List Rec)=>[B6 g,.i .i64 (i:Int)]) (fun i g r=> .yld 0 [B6 (r.foldl (fun acc x=>Wr x acc) g)]) (fun i g=>g.length≤i∧∀r∈g,r.wf) [] rfl ⟨B7 _,fun r h=>by cases h⟩ hN (fun i g c r hd hi hc hI=> ?_) (fun g hI=> ?_)
 ·left;obtain⟨h1,h2⟩:=hI;have hcw:=hw c (Cq hc);have h3:=Hy1 l g i c hc hw h2 N (by omega) (by omega);have h4:=Bf4 c g;have h5:=my c g;refine⟨Wr c g,?_,⟨by omega,fun r hr=> ?_⟩,rfl⟩
  ·rw[Ek2];cases h6:g[Ny c g]? with
   |none=>
    have h7:=Rj.1 h6;have h8:Ny c g=g.length:=by omega
    simp(disch:=first|omega|(simp;omega))only[jp,hc,h3,h8,Av,simprocAttr];simp
   |some y=>
    have h7:=(Bp.1 h6).1;have h8:=yy y c (h2 y (Cq h6)) hcw;by_cases h9:Rs y c=0
    ·by_cases h10:c.ttl<y.ttl
     ·simp(disch:=omega)only[jp,hc,h3,h6,h8,h9,h10,Av,simprocAttr]
     ·simp(disch:=omega)only[jp,hc,h3,h6,h8,h9,h10,Av,simprocAttr]
    ·simp(disch:=first|omega|(simp;omega))only[jp,hc,h3,h6,h8,h9,Av,simprocAttr];simp
  ·rcases insR_mem c g r hr with h|h
   ·subst h;exact hcw
   ·exact h2 r h
 ·simp(disch:=omega)only[jp,Av,simprocAttr];simp[Out.goes]
def T8 (l:List Rec) (hw:∀r∈l,r.wf) (hl:l.length≤1000000):S Cy0 1 [B6 l]=some [B6 (sortR l)]:=by refine Jn4 (N:=l.length+1) rfl ?_;simp(disch:=omega)only[jp,Hy2 l hw,Av,simprocAttr]
end Go.X.G
/- Zones: what the reference's check gives. -/
namespace Go.X.G
open Go Go.X
def Ft (n top:List UInt8):Bool:=decide (n≠top) && under n top
def Mr (n top:List UInt8) (hn:n.length≤9223372036854775807) (ht:top.length≤9223372036854775807):S l5 2 [.s n,.s top]=some [.b (Ft n top)]:=by
 refine Jg4 (N:=1) rfl ?_;unfold Ft;by_cases h:n=top
 ·simp(disch:=omega)only[Hz6,Gw,h,Av,simprocAttr];simp
 ·simp(disch:=omega)only[Hz6,Gw,h,Av,simprocAttr];simp
def bw (l:List Rec) (n:List UInt8) (t:Int):Bool:=decide (0<(findR l n t).length)
def Tc (l:List Rec) (n:List UInt8) (t:Int) (hl:l.length≤1000000):S Cx9 3 [B6 l,.s n,.i .i64 t]=some [.b (bw l n t)]:=by refine Jn3 (N:=1) rfl ?_;unfold bw;simp(disch:=omega)only[Jy6,Nh,Av,simprocAttr];simp
def Jl (r x:Rec):Bool:=
 !decide (x.name=r.name)||(!(decide (x.typ=r.typ) && decide (r.typ≠46) && decide (x.ttl≠r.ttl)) && !(decide (x.typ=r.typ) && (decide (r.typ=6)||decide (r.typ=5)||decide (r.typ=39)) && decide (x≠r)) &&
  !(decide (r.typ=5) && decide (x.typ≠5) && decide (x.typ≠46) && decide (x.typ≠47)))
def Pz (z:Zone) (r:Rec):Bool:=z.recs.all (Jl r)
def Ec6 (z:Zone) (r:Rec) (N:Nat) (hN:z.recs.length<N) (hz:z.recs.length≤1000000):
  Gy6.ev S N [z.pv,r.pv]=some (if Pz z r=true then .yld 0 [] else .ret [.b false]):=by
 refine Es z.recs (fun i=>[.i .i64 (i:Int)]) (fun i l=>if l.all (Jl r)=true then .yld 0 [] else .ret [.b false]) rfl hN (fun i c l hd hi hc=> ?_) ?_
 ·have key:Ed8.ev S N ([z.pv,r.pv]++[.i .i64 (i:Int)])=some (if Jl r c=true then .yld 1 [.i .i64 ((i:Int)+1)] else .ret [.b false]):=by
   by_cases h1:c.name=r.name
   ·by_cases h2:c.typ=r.typ
    ·simp(disch:=omega)only[Cm5,z6,hc,h1,h2,Av,simprocAttr];simp only[Jl,h1,h2]
     grind
    ·simp(disch:=omega)only[Cm5,z6,hc,h1,h2,Av,simprocAttr];simp only[Jl,h1,h2]
     grind
   ·simp(disch:=omega)only[Cm5,hc,h1,Av,simprocAttr];simp[Jl,h1]
  rw[key];rcases Bm (Jl r c) with h|h<;>simp[h,Out.goes]
 ·simp(disch:=omega) [Cm5,xe,EVP,EV,simprocAttr,Out.goes]
def Ec5 (z:Zone) (r:Rec) (hz:z.recs.length≤1000000):S Dl0 2 [z.pv,r.pv]=some [.b (Pz z r)]:=by refine Jn1 (N:=z.recs.length+1) rfl ?_;simp(disch:=omega)only[Cm5,Ec6,Av,simprocAttr];cases Pz z r<;>simp
def H2 (z:Zone) (r x:Rec):Bool:=
 !(decide (x.typ=39) && Ft r.name x.name) && !(decide (x.typ=2) && Ft x.name z.origin && Ft r.name x.name && decide (r.typ≠1) && decide (r.typ≠28))
def U2 (t:Int):Bool:=decide (t=2)||decide (t=43)||decide (t=47)||decide (t=46)||decide (t=1)||decide (t=28)
def Ry (z:Zone) (r:Rec):Bool:=
 if(lbl r.name)[0]? =some [42]∧(r.typ=2∨r.typ=39) then false
 else z.recs.all (H2 z r) && (if Ft r.name z.origin && bw z.recs r.name 2 then U2 r.typ else decide (r.typ≠43))
def Ym (z:Zone) (r:Rec) (hz:z.wf) (hr:r.wf) (p:PV) (N:Nat) (hN:z.recs.length<N) (hl:z.recs.length≤1000000):
  Gy5.ev S N [z.pv,r.pv,p]=some (if z.recs.all (H2 z r)=true then .yld 0 [] else .ret [.b false]):=by
 have g1:=hz.origin;have g2:=hr.name;unfold My at g1 g2;refine Es z.recs (fun i=>[.i .i64 (i:Int)]) (fun i l=>if l.all (H2 z r)=true then .yld 0 [] else .ret [.b false]) rfl hN (fun i c l hd hi hc=> ?_) ?_
 ·have g3:=(hz.recs.2 c (Cq hc)).name;unfold My at g3;have key:Ed7.ev S N ([z.pv,r.pv,p]++[.i .i64 (i:Int)])=some (if H2 z r c=true then .yld 1 [.i .i64 ((i:Int)+1)] else .ret [.b false]):=by
   by_cases h1:c.typ=39
   ·have h2:c.typ≠2:=by omega
    rcases Bm (Ft r.name c.name) with h3|h3<;>simp(disch:=omega)only[jm,Mr,hc,h1,h3,Av,simprocAttr]<;>simp[H2,h1,h3]
   ·by_cases h2:c.typ=2
    ·rcases Bm (Ft r.name c.name) with h3|h3<;>rcases Bm (Ft c.name z.origin) with h4|h4<;>simp(disch:=omega)only[jm,Mr,hc,h2,h3,h4,Av,simprocAttr]<;>simp[H2,h2,h3,h4];by_cases h5:r.typ=1<;>by_cases h6:r.typ=28<;>simp[h5,h6]
    ·simp(disch:=omega)only[jm,hc,h1,h2,Av,simprocAttr];simp[H2,h1,h2]
  rw[key];rcases Bm (H2 z r c) with h|h<;>simp[h,Out.goes]
 ·simp(disch:=omega) [jm,xe,EVP,EV,simprocAttr,Out.goes]
def Dc0 (z:Zone) (r:Rec) (hz:z.wf) (hr:r.wf) (hl:z.recs.length≤1000000):S Dh9 2 [z.pv,r.pv]=some [.b (Ry z r)]:=by
 refine Jn0 (N:=z.recs.length+1) rfl ?_;have g1:=hz.origin;have g2:=hr.name;unfold My at g1 g2;have g3:=G2 r.name;have tail:T.ev S (z.recs.length+1) Ah5 [z.pv,r.pv,Cn (lbl r.name)]=some (.ret [.b (z.recs.all (H2 z r) && (if Ft r.name z.origin && bw z.recs r.name 2 then U2 r.typ else decide (r.typ≠43)))]):=by
  rcases Bm (z.recs.all (H2 z r)) with h0|h0
  ·rcases Bm (Ft r.name z.origin) with h1|h1<;>rcases Bm (bw z.recs r.name 2) with h2|h2
   ·simp(disch:=omega)only[jm,Ym z r hz hr,Mr,Tc,h0,h1,h2,Av,simprocAttr];simp only[U2]
    grind
   all_goals simp(disch:=omega)only[jm,Ym z r hz hr,Mr,Tc,h0,h1,h2,Av,simprocAttr]
   all_goals simp
  ·simp(disch:=omega)only[jm,Ym z r hz hr,h0,Av,simprocAttr];simp
 unfold Ry;cases h:lbl r.name with
 |nil=>
  rw[h] at tail;simp(disch:=first|omega|(simp;omega))only[↓tail,jm,J2,h,Av,simprocAttr];simp
 |cons a l=>
  rw[h] at tail;have g4:0<((a::l).length:Int):=by simp only[Cj];omega
  by_cases h1:a=[42]<;>by_cases h2:r.typ=2<;>by_cases h3:r.typ=39
  all_goals first|omega|skip
  all_goals try subst h1
  all_goals simp(disch:=first|omega|(simp;omega))only[↓tail,jm,J2,h,h2,h3,Av,simprocAttr]
  all_goals simp[h2,h3, *]
def M9 (z:Zone) (r:Rec):Bool:=under r.name z.origin && !(decide (r.typ=6) && decide (r.name≠z.origin)) && Pz z r && Ry z r
def I9 (z:Zone):Int:=
 if vld z.origin=false then 2
 else if 2048<z.recs.length then 9
 else if z.recs.all (fun r=>decide ((findR z.recs r.name r.typ).length≤64))=false then 9
 else if z.recs.all Qf=false then 5
 else if z.recs≠sortR z.recs then 7
 else if(findR z.recs z.origin 6).length≠1∨bw z.recs z.origin 2=false then 13
 else if z.recs.all (M9 z)=false then 13
 else 0
def Qc (z:Zone) (N:Nat) (hN:z.recs.length<N) (hl:z.recs.length≤1000000) (p:PV):
  Gz8.ev S N [z.pv,p]=some (if z.recs.all (fun r=>decide ((findR z.recs r.name r.typ).length≤64))=true then .yld 0 [] else .ret [.i .i64 9]):=by
 refine Es z.recs (fun i=>[.i .i64 (i:Int)]) (fun i l=>if l.all (fun r=>decide ((findR z.recs r.name r.typ).length≤64))=true then .yld 0 [] else .ret [.i .i64 9]) rfl hN (fun i c l hd hi hc=> ?_) ?_
 ·by_cases h:(findR z.recs c.name c.typ).length≤64
  ·left;simp(disch:=omega)only[Ox,Nh,hc,Av,simprocAttr];simp[h]
  ·right;simp(disch:=omega)only[Ox,Nh,hc,Av,simprocAttr];simp[h,Out.goes]
 ·simp(disch:=omega) [Ox,xe,EVP,EV,simprocAttr,Out.goes]
def Uw (z:Zone) (hz:z.wf) (N:Nat) (hN:z.recs.length<N) (hl:z.recs.length≤1000000) (p:PV):
  Gv2.ev S N [z.pv,p]=some (if z.recs.all Qf=true then .yld 0 [] else .ret [.i .i64 5]):=by
 refine Es z.recs (fun i=>[.i .i64 (i:Int)]) (fun i l=>if l.all Qf=true then .yld 0 [] else .ret [.i .i64 5]) rfl hN (fun i c l hd hi hc=> ?_) ?_
 ·have hw:=hz.recs.2 c (Cq hc);rcases Bm (Qf c) with h|h
  ·left;simp(disch:=omega)only[Ox,zm c hw,hc,h,Av,simprocAttr];simp[h]
  ·right;simp(disch:=omega)only[Ox,zm c hw,hc,h,Av,simprocAttr];simp[h,Out.goes]
 ·simp(disch:=omega) [Ox,xe,EVP,EV,simprocAttr,Out.goes]
def Fs8 (z:Zone) (hz:z.wf) (N:Nat) (hN:z.recs.length<N) (hl:z.recs.length≤1000000) (p1 p2 p3 p4 p5:PV):
  Gq7.ev S N [z.pv,p1,p2,p3,p4,p5]=some (if z.recs.all (M9 z)=true then .yld 0 [] else .ret [.i .i64 13]):=by
 have g1:=hz.origin;unfold My at g1;refine Es z.recs (fun i=>[.i .i64 (i:Int)]) (fun i l=>if l.all (M9 z)=true then .yld 0 [] else .ret [.i .i64 13]) rfl hN (fun i c l hd hi hc=> ?_) ?_
 ·have hw:=hz.recs.2 c (Cq hc);have g2:=hw.name;unfold My at g2;have key:Ec7.ev S N ([z.pv,p1,p2,p3,p4,p5]++[.i .i64 (i:Int)])=some (if M9 z c=true then .yld 1 [.i .i64 ((i:Int)+1)] else .ret [.i .i64 13]):=by
   rcases Bm (under c.name z.origin) with h1|h1
   ·by_cases h2:c.typ=6<;>by_cases h3:c.name=z.origin
    all_goals try rw[h3] at h1 g2
    all_goals rcases ch2 (Pz z c) (Ry z c) with e0|⟨e0,e1⟩|⟨e0,e1⟩
    all_goals simp(disch:=omega)only[Ox,Gw,Ec5,Dc0 z c hz hw,hc,h1,h2,h3,xe,EVP,EV,simprocAttr, *]
    all_goals simp[M9,h1,h2,h3, *]
   ·simp(disch:=omega)only[Ox,Gw,hc,h1,Av,simprocAttr];simp[M9,h1]
  rw[key];rcases Bm (M9 z c) with h|h<;>simp[h,Out.goes]
 ·simp(disch:=omega) [Ox,xe,EVP,EV,simprocAttr,Out.goes]
def jj (z:Zone) (hz:z.wf):S Cy2 1 [z.pv]=some [.i .i64 (I9 z)]:=by
 refine Jr1 (N:=z.recs.length+1) rfl ?_;have g1:=hz.origin;unfold My at g1;unfold I9;rcases Bm (vld z.origin) with h1|h1
 ·by_cases h2:2048<z.recs.length
  ·simp(disch:=omega)only[Ox,Gd,h1,h2,Av,simprocAttr]
  ·rcases Bm (z.recs.all (fun r=>decide ((findR z.recs r.name r.typ).length≤64))) with h3|h3
   ·rcases Bm (z.recs.all Qf) with h4|h4
    ·by_cases h5:z.recs=sortR z.recs
     ·by_cases h6:(findR z.recs z.origin 6).length=1
      ·rcases Bm (bw z.recs z.origin 2) with h7|h7
       ·rcases Bm (z.recs.all (M9 z)) with h8|h8<;>simp(disch:=omega)only[Ox,Gd,Qc,Uw z hz,Fs8 z hz,T8 _ hz.recs.2,Uq,Nh,Tc,h1,h2,h3,h4,←h5,h6,h7,h8,Av,simprocAttr]<;>simp
       ·simp(disch:=omega)only[Ox,Gd,Qc,Uw z hz,T8 _ hz.recs.2,Uq,Nh,Tc,h1,h2,h3,h4,←h5,h6,h7,Av,simprocAttr];simp
      ·simp(disch:=omega)only[Ox,Gd,Qc,Uw z hz,T8 _ hz.recs.2,Uq,Nh,Tc,h1,h2,h3,h4,←h5,h6,Av,simprocAttr];simp
     ·simp(disch:=omega)only[Ox,Gd,Qc,Uw z hz,T8 _ hz.recs.2,Uq,h1,h2,h3,h4,h5,Av,simprocAttr]
    ·simp(disch:=omega)only[Ox,Gd,Qc,Uw z hz,h1,h2,h3,h4,Av,simprocAttr]
   ·simp(disch:=omega)only[Ox,Gd,Qc,h1,h2,h3,Av,simprocAttr]
 ·simp(disch:=omega)only[Ox,Gd,h1,Av,simprocAttr]
end Go.X.G
/- The law LookupSoas. -/
namespace Go.X.G
open Go Go.X
def soaR (z:Zone):List Rec:=match findR z.recs z.origin 6 with
 |[]=>[]
 |r::_=>[{r with ttl:=if r.data.e<r.ttl then r.data.e else r.ttl}]
def zero:Dat:=⟨false,0,0,[],[],[],0,0,0,0,0,0,0⟩
end Go.X.G
/- The canonical order of names is a total order. -/
namespace Go.X.G
open Go Go.X
structure TO {α:Type} (lt:α→α→Prop):Prop where
 irr:∀a,¬lt a a
 tr:∀a b c,lt a b→lt b c→lt a c
 tri:∀a b,lt a b∨a=b∨lt b a
def TO.asym {α:Type} {lt:α→α→Prop} (h:TO lt) {a b:α} (h1:lt a b):¬lt b a:=fun h2=>h.irr a (h.tr _ _ _ h1 h2)
def TO.ntr {α:Type} {lt:α→α→Prop} (h:TO lt) {a b c:α} (h1:¬lt a b) (h2:¬lt b c):¬lt a c:=by
 intro h3;rcases h.tri b a with h4|h4|h4
 ·exact h2 (h.tr _ _ _ h4 h3)
 ·subst h4;exact h2 h3
 ·exact h1 h4
def lex {α:Type} (lt:α→α→Prop):List α→List α→Prop
 |[],[]=>False
 |[],_::_=>True
 |_::_,[]=>False
 |a::x,b::y=>lt a b∨(a=b∧lex lt x y)
def Dn5 {α:Type} {lt:α→α→Prop} (h:TO lt):∀x:List α,¬lex lt x x
 |[]=>by simp[lex]
 |a::x=>by simp only[lex,true_and,not_or];exact⟨h.irr a,Dn5 h x⟩
def Gq6 {α:Type} {lt:α→α→Prop} (h:TO lt):∀x y z:List α,lex lt x y→lex lt y z→lex lt x z
 |[],[],_,h1,_=>by simp[lex] at h1
 |[],_::_,[],_,h2=>by simp[lex] at h2
 |[],_::_,_::_,_,_=>by simp[lex]
 |_::_,[],_,h1,_=>by simp[lex] at h1
 |_::_,_::_,[],_,h2=>by simp[lex] at h2
 |a::x,b::y,c::z,h1,h2=>by
  simp only[lex] at h1 h2 ⊢;rcases h1 with h1|⟨rfl,h1⟩
  ·rcases h2 with h2|⟨rfl,h2⟩
   ·exact .inl (h.tr _ _ _ h1 h2)
   ·exact .inl h1
  ·rcases h2 with h2|⟨rfl,h2⟩
   ·exact .inl h2
   ·exact .inr ⟨rfl,Gq6 h x y z h1 h2⟩
def lex_tri {α:Type} {lt:α→α→Prop} (h:TO lt):∀x y:List α,lex lt x y∨x=y∨lex lt y x
 |[],[]=> .inr (.inl rfl)
 |[],_::_=> .inl (by simp[lex])
 |_::_,[]=> .inr (.inr (by simp[lex]))
 |a::x,b::y=>by
  simp only[lex];rcases h.tri a b with h1|rfl|h1
  ·exact .inl (.inl h1)
  ·rcases lex_tri h x y with h2|rfl|h2
   ·exact .inl (.inr ⟨rfl,h2⟩)
   ·exact .inr (.inl rfl)
   ·exact .inr (.inr (.inr ⟨rfl,h2⟩))
  ·exact .inr (.inr (.inl h1))
def TO.lex {α:Type} {lt:α→α→Prop} (h:TO lt):TO (G.lex lt):=⟨Dn5 h,Gq6 h,lex_tri h⟩
def Jb4:TO (fun a b:UInt8=>a<b):=⟨fun a=>UInt8.lt_irrefl a,fun a b c h1 h2=>UInt8.lt_trans h1 h2,fun a b=>by
 rcases UInt8.lt_or_le a b with h|h
 ·exact .inl h
 ·rcases UInt8.lt_or_le b a with h2|h2
  ·exact .inr (.inr h2)
  ·exact .inr (.inl (UInt8.le_antisymm h2 h))⟩
abbrev ltB:List UInt8→List UInt8→Prop:=lex fun a b:UInt8=>a<b
def El4:TO ltB:=Jb4.lex
def ay:∀a b:List UInt8,Op.bytesLess a b=true↔ltB a b
 |[],[]=>by simp[Op.bytesLess,lex]
 |[],_::_=>by simp[Op.bytesLess,lex]
 |_::_,[]=>by simp[Op.bytesLess,lex]
 |a::x,b::y=>by have ih:=ay x y;simp only[Op.bytesLess,Cy,decide_eq_true_eq,Br,beq_iff_eq,lex];rw[ih]
def Xl (a b:List UInt8):cmpS a b<0↔ltB a b:=by
 rw[←ay];unfold cmpS;cases h:Op.bytesLess a b
 ·simp only[B5,if_false,iff_false];split<;>omega
 ·simp
abbrev ltL:List (List UInt8)→List (List UInt8)→Prop:=lex ltB
def to_L:TO ltL:=El4.lex
def Cd8 (a b:List (List UInt8)):Int:=match Xm a b with
 |some c=>c
 |none=>if a.length<b.length then -1 else if b.length<a.length then 1 else 0
def Bl3:∀a b:List (List UInt8),Cd8 a b<0↔ltL a b
 |[],[]=>by simp[Cd8,Xm,lex]
 |[],_::_=>by simp[Cd8,Xm,lex]
 |_::_,[]=>by simp[Cd8,Xm,lex]
 |x::xs,y::ys=>by
  have ih:=Bl3 xs ys;simp only[Cd8,Xm,lex] at ih ⊢;by_cases h:x=y
  ·subst h;rw[if_pos rfl];simp only[Cj,Nat.add_lt_add_iff_right,true_and];rw[ih];constructor
   ·exact fun h=> .inr h
   ·rintro (h|h)
    ·exact absurd h (El4.irr x)
    ·exact h
  ·rw[if_neg h];simp only;rw[Xl];simp[h]
def Af8 (a b:List (List UInt8)):Af9 a b=Cd8 a.reverse b.reverse:=by unfold Af9 Cd8;cases Xm a.reverse b.reverse<;>simp
def Ew9 (a b:List (List UInt8)):Af9 a b<0↔ltL a.reverse b.reverse:=by rw[←Bl3,Af8]
def ltN (a b:List UInt8):Prop:=if vld a=true then(if vld b=true then ltL (lbl a).reverse (lbl b).reverse else True) else(if vld b=true then False else ltB a b)
def G1 (a b:List UInt8):Jp a b<0↔ltN a b:=by
 unfold ltN;rcases Bm (vld a) with ha|ha
 ·rcases Bm (vld b) with hb|hb
  ·rw[av ha hb,Ew9,if_pos ha,if_pos hb]
  ·unfold Jp;simp[ha,hb]
 ·rcases Bm (vld b) with hb|hb
  ·unfold Jp;simp[ha,hb]
  ·have e:Jp a b=cmpS a b:=by unfold Jp;simp[ha,hb]
   rw[e,Xl];simp[ha,hb]
def to_N:TO ltN:=by
 refine⟨fun a h=> ?_,fun a b c h1 h2=> ?_,fun a b=> ?_⟩
 ·unfold ltN at h;split at h
  ·exact to_L.irr _ h
  ·exact El4.irr _ h
 ·unfold ltN at*;rcases Bm (vld a) with ha|ha<;>rcases Bm (vld b) with hb|hb<;>rcases Bm (vld c) with hc|hc<;>
   simp only[ha,hb,hc,if_true,B5,if_false] at h1 h2 ⊢
  ·exact to_L.tr _ _ _ h1 h2
  ·exact El4.tr _ _ _ h1 h2
 ·unfold ltN;rcases Bm (vld a) with ha|ha<;>rcases Bm (vld b) with hb|hb<;>simp only[ha,hb,if_true,B5,if_false]
  ·rcases to_L.tri (lbl a).reverse (lbl b).reverse with h|h|h
   ·exact .inl h
   ·exact .inr (.inl (O4 ha hb (List.reverse_inj.1 h)))
   ·exact .inr (.inr h)
  ·simp
  ·simp
  ·exact El4.tri a b
def Kc {a b:List UInt8}:Jp a b=0↔a=b:=by
 constructor
 ·intro h;rcases Bm (vld a) with ha|ha
  ·rcases Bm (vld b) with hb|hb
   ·rw[av ha hb] at h;have key:∀x y:List (List UInt8),Cd8 x y=0→x=y:=by
     intro x
     induction x with
     |nil=>intro y hy;cases y with
      |nil=>rfl
      |cons=>simp[Cd8,Xm] at hy
     |cons x xs ih=>intro y hy;cases y with
      |nil=>simp[Cd8,Xm] at hy
      |cons y ys=>
       simp only[Cd8,Xm] at hy ih;by_cases e:x=y
       ·subst e;rw[if_pos rfl] at hy;simp only[Cj,Nat.add_lt_add_iff_right] at hy;rw[ih ys hy]
       ·rw[if_neg e] at hy;exact absurd (Kb.1 hy) e
    rw[Af8] at h;exact O4 ha hb (List.reverse_inj.1 (key _ _ h))
   ·unfold Jp at h;simp[ha,hb] at h
  ·rcases Bm (vld b) with hb|hb
   ·unfold Jp at h;simp[ha,hb] at h
   ·have e:Jp a b=cmpS a b:=by unfold Jp;simp[ha,hb]
    rw[e] at h;exact Kb.1 h
 ·rintro rfl;have h1:=G1 a a;have h2:¬Jp a a<0:=fun h=>to_N.irr a (h1.1 h);have key:∀x:List (List UInt8),Cd8 x x=0:=by
   intro x
   induction x with
   |nil=>rfl
   |cons x xs ih=>
    simp only[Cd8,Xm] at ih ⊢;simp only[if_true,Cj,Nat.add_lt_add_iff_right];exact ih
  rcases Bm (vld a) with ha|ha
  ·rw[av ha ha];rw[Af8];exact key _
  ·have e:Jp a a=cmpS a a:=by unfold Jp;simp[ha]
   rw[e];exact Kb.2 rfl
end Go.X.G
/- Sorted lists of names, each once. -/
namespace Go.X.G
open Go Go.X
def W5 {α:Type} (e:α→α→Bool):α→List α→List α
 |_,[]=>[]
 |p,c::r=>if e c p=true then W5 e c r else c::W5 e c r
def cpt {α:Type} (e:α→α→Bool):List α→List α
 |[]=>[]
 |x::r=>x::W5 e x r
def zw {α:Type} (e:α→α→Bool) (c:α):∀(r:List α) (p:α),W5 e p (r++[c])=W5 e p r++(if e c ((p::r).getLast (by simp))=true then [] else [c])
 |[],p=>by simp only[Dw,W5,List.getLast_singleton];rfl
 |x::r,p=>by
  have ih:=zw e c r x;simp only[Dl,W5,List.getLast_cons_cons];split
  ·exact ih
  ·rw[ih];rfl
def Qv {α:Type} (e:α→α→Bool) (c:α) (l:List α) (h:l≠[]):cpt e (l++[c])=cpt e l++(if e c (l.getLast h)=true then [] else [c]):=by
 cases l with
 |nil=>exact absurd rfl h
 |cons x r=>
  show x::W5 e x (r++[c])=_;rw[zw];rfl
def Bh7 {α:Type} (e:α→α→Bool):∀(r:List α) (p:α),(W5 e p r).length≤r.length
 |[],_=>by simp[W5]
 |c::r,p=>by have:=Bh7 e r c;simp only[W5];split<;>simp<;>omega
def ny {α:Type} (e:α→α→Bool) (l:List α):(cpt e l).length≤l.length:=by
 cases l with
 |nil=>simp[cpt]
 |cons x r=>have:=Bh7 e r x;simp[cpt];exact this
def nb {α:Type} (e:α→α→Bool):∀(r:List α) (p:α),∀x∈W5 e p r,x∈r
 |[],_,x,h=>by simp[W5] at h
 |c::r,p,x,h=>by
  simp only[W5] at h;split at h
  ·exact .tail _ (nb e r c x h)
  ·rcases Ck.1 h with rfl|h
   ·exact .head _
   ·exact .tail _ (nb e r c x h)
def Hq8 {α:Type} (e:α→α→Bool) (l:List α):∀x∈cpt e l,x∈l:=by
 cases l with
 |nil=>intro x h;simp[cpt] at h
 |cons y r=>
  intro x h;rcases Ck.1 (show x∈y::W5 e y r from h) with rfl|h
  ·exact .head _
  ·exact .tail _ (nb e r y x h)
abbrev eqs {α:Type} [DecidableEq α]:α→α→Bool:=fun a b=>decide (a=b)
def cptG_mem {α:Type} [DecidableEq α]:∀(r:List α) (p x:α),x∈r→x=p∨x∈W5 eqs p r
 |[],_,x,h=>by simp at h
 |c::r,p,x,h=>by
  simp only[W5];by_cases hc:c=p
  ·subst hc;rw[if_pos (by simp[eqs])];rcases Ck.1 h with rfl|h
   ·exact .inl rfl
   ·exact cptG_mem r c x h
  ·rw[if_neg (by simp[eqs,hc])];right;rcases Ck.1 h with rfl|h
   ·exact .head _
   ·rcases cptG_mem r c x h with rfl|h
    ·exact .head _
    ·exact .tail _ h
def Hq9 {α:Type} [DecidableEq α] (l:List α) (x:α):x∈cpt eqs l↔x∈l:=by
 refine⟨Hq8 _ l x,fun h=> ?_⟩;cases l with
 |nil=>simp at h
 |cons y r=>
  rcases Ck.1 h with rfl|h
  ·exact .head _
  ·rcases cptG_mem r y x h with rfl|h
   ·exact .head _
   ·exact .tail _ h
def aj {α:Type} [DecidableEq α] {lt:α→α→Prop} (ht:TO lt):∀(r:List α) (p:α),(p::r).Pairwise (fun a b=>¬lt b a)→(p::W5 eqs p r).Pairwise lt
 |[],p,_=>by simp[W5]
 |c::r,p,h=>by
  rw[Cf] at h;have ih:=aj ht r c h.2;simp only[W5];by_cases hc:c=p
  ·subst hc;rw[if_pos (by simp[eqs])];exact ih
  ·rw[if_neg (by simp[eqs,hc])];rw[Cf];refine⟨fun x hx=> ?_,ih⟩;have hpc:lt p c:=by
    rcases ht.tri p c with h1|h1|h1
    ·exact h1
    ·exact absurd h1.symm hc
    ·exact absurd h1 (h.1 c (.head _))
   rcases Ck.1 hx with rfl|hx
   ·exact hpc
   ·exact ht.tr _ _ _ hpc ((Cf.1 ih).1 x hx)
def Cd5 {α:Type} [DecidableEq α] {lt:α→α→Prop} (ht:TO lt) (l:List α) (h:l.Pairwise (fun a b=>¬lt b a)):(cpt eqs l).Pairwise lt:=by
 cases l with
 |nil=>simp[cpt]
 |cons x r=>exact aj ht r x h
def Yg {α:Type} {lt:α→α→Prop} (ht:TO lt):∀(a b:List α),a.Pairwise lt→b.Pairwise lt→(∀x,x∈a↔x∈b)→a=b
 |[],[],_,_,_=>rfl
 |[],y::b,_,_,h=>absurd ((h y).2 (.head _)) (by simp)
 |x::a,[],_,_,h=>absurd ((h x).1 (.head _)) (by simp)
 |x::a,y::b,ha,hb,h=>by
  rw[Cf] at ha hb;have hxy:x=y:=by
   rcases Ck.1 ((h x).1 (.head _)) with h1|h1
   ·exact h1
   ·rcases Ck.1 ((h y).2 (.head _)) with h2|h2
    ·exact h2.symm
    ·exact absurd (hb.1 x h1) (ht.asym (ha.1 y h2))
  subst hxy;rw[Yg ht a b ha.2 hb.2 fun z=> ?_];constructor
  ·intro hz;rcases Ck.1 ((h z).1 (.tail _ hz)) with rfl|h1
   ·exact absurd (ha.1 z hz) (ht.irr z)
   ·exact h1
  ·intro hz;rcases Ck.1 ((h z).2 (.tail _ hz)) with rfl|h1
   ·exact absurd (hb.1 z hz) (ht.irr z)
   ·exact h1
def setN (l:List (List UInt8)):List (List UInt8):=cpt eqs (l.mergeSort fun x y=> !decide (Jp y x<0))
def Gr6 (l:List (List UInt8)):(l.mergeSort fun x y=> !decide (Jp y x<0)).Pairwise (fun a b=>¬ltN b a):=by
 have:=List.pairwise_mergeSort (le:=fun x y:List UInt8=> !decide (Jp y x<0)) (fun a b c h1 h2=>by
  simp only[Cm,decide_eq_false_iff_not,G1] at h1 h2 ⊢;exact to_N.ntr h2 h1) (fun a b=>by
  simp only[Cy,Cm,decide_eq_false_iff_not,G1];rcases to_N.tri a b with h|h|h
  ·exact .inl (to_N.asym h)
  ·subst h;exact .inl (to_N.irr a)
  ·exact .inr (to_N.asym h)) l
 refine this.imp fun {a b} h=> ?_;simpa only[Cm,decide_eq_false_iff_not,G1] using h
def Rv (l:List (List UInt8)):(setN l).Pairwise ltN:=Cd5 to_N _ (Gr6 l)
def M7 (l:List (List UInt8)) (x:List UInt8):x∈setN l↔x∈l:=by unfold setN;rw[Hq9];exact(List.mergeSort_perm _ _).mem_iff
def S1 (l:List (List UInt8)):(setN l).length≤l.length:=by have:=ny eqs (l.mergeSort fun x y=> !decide (Jp y x<0));rw[Ak4] at this;exact this
end Go.X.G
/- Records that go out of a list. -/
namespace Go.X.G
open Go Go.X
def sn {step:List PV→Option Out} {id:Nat} {α:Type} (st:α→List PV) (Q:Out→Prop) (I:α→Prop) (μ:α→Nat)
  (h:∀a,I a→(∃b,step (st a)=some (.yld id (st b))∧I b∧μ b<μ a)∨∃o,step (st a)=some o∧o.goes id=false∧Q o):
  ∀(n:Nat) (a:α),I a→μ a<n→∃o,If step id n (st a)=some o∧Q o
 |0,a,_,hn=>by omega
 |n+1,a,ha,hn=>by
  simp only[If];rcases h a ha with⟨b,h1,h2,h3⟩|⟨o,h1,h2,h3⟩
  ·rw[h1];simp only[B3,if_true];exact sn st Q I μ h n b h2 (by omega)
  ·rw[h1];refine⟨o,?_,h3⟩;simp only[B3];cases o with
   |ret vs=>rfl
   |yld j vs=>
    simp only[Out.goes,beq_eq_false_iff_ne,ne_eq] at h2;simp only[];rw[if_neg h2]
def Jg {fn:Fns} {N:Nat} {η:List PV} {id:Nat} {init:List E} {body:T} {α:Type} (st:α→List PV) (Q:Out→Prop) (I:α→Prop) (μ:α→Nat) (a0:α)
  (h0:E.evs η init=some (st a0)) (hI:I a0) (hN:μ a0<N)
  (h:∀a,I a→(∃b,body.ev fn N (η++st a)=some (.yld id (st b))∧I b∧μ b<μ a)∨∃o,body.ev fn N (η++st a)=some o∧o.goes id=false∧Q o):
  ∃o,(T.loop id init body).ev fn N η=some o∧Q o:=by
 simp only[T.ev,h0,B3];exact sn st Q I μ h N a0 hI hN
abbrev zr:Rec:=⟨[],0,0,⟨false,0,0,[],[],[],0,0,0,0,0,0,0⟩⟩
abbrev Ar5:PV:=Rec.pv ⟨[],0,0,⟨false,0,0,[],[],[],0,0,0,0,0,0,0⟩⟩
def Ip1 (p:Rec→Bool):∀(l:List Rec) (k:Nat),ixF p k l=ixG p k l
 |[],_=>rfl
 |r::rs,k=>by simp only[ixF,ixG,Ip1 p rs]
def dv (l:List Rec) (g:Nat) (caps:List PV) (p:Rec→Bool) (hl:l.length≤1000000) (h:∀r∈l,S g 1 (r.pv::caps)=some [.b (p r)]):S Az0 2 [B6 l,.f g caps]=some [.i .i64 (ixG p 0 l)]:=by rw[←Ip1];exact T9 l g caps p hl h
def Bc1 (n:Int) (h0:0≤n) (h1:n≤1073741824):N4 16 (.i .i64 n) Ar5=some (B6 (List.replicate n.toNat zr)):=by
 have h2:n≤(LIM:Int):=by simp only[LIM];omega
 have h3:Ar5.cells.length=16:=rfl;simp only[N4,h0,h2,h3,and_self,if_true];simp[B6,Rec.pv,Rec.cells,Dat.cells]
def V1 (l:List Rec) (g:Nat) (caps:List PV) (p:Rec→Bool) (hl:l.length≤1000000) (h:∀r∈l,S g 1 (r.pv::caps)=some [.b (p r)]):S cp 1048578 [B6 l,.f g caps]=some [B6 (l.filter fun x=> !p x)]:=by
 refine Jp3 (N:=l.length+1) rfl ?_;have h0:=dv l g caps p hl h;have hany:=(Ac2 p l 0);by_cases hneg:ixG p 0 l= -1
 ·have hf:l.any p=false:=by
   rcases Bm (l.any p) with h1|h1
   ·have:=hany.1.2 h1;omega
   ·exact h1
  have e:l.filter (fun x=> !p x)=l:=Mp p (fun x hx=>by rw[List.any_eq_false] at hf;simpa using hf x hx);rw[hneg] at h0;rw[e];simp(disch:=omega)only[Cn3,h0,EVT,Ak,simprocAttr]
 ·obtain⟨j0,g1,g2,g3,x0,g4,g5⟩:=xl p l 0 (by have:=hany.2.2;omega);rw[g1] at h0;simp only[F9] at h0;have key:∃s:List Rec,s.length=l.length∧s.take (l.filter fun x=> !p x).length=l.filter (fun x=> !p x)∧Gz3.ev S (l.length+1) [B6 l,.f g caps,.i .i64 (j0:Int)]=some (.yld 0 [.i .i64 (((l.filter fun x=> !p x).length:Nat):Int),B6 s]):=by
   let nx:Nat×Nat×List Rec→Nat×Nat×List Rec:=fun a=>match l[a.2.1]? with
    |some c=>if p c=true then(a.1,a.2.1+1,a.2.2) else(a.1+1,a.2.1+1,a.2.2.set a.1 c)
    |none=>a
   let fin:Nat→Nat×Nat×List Rec→Nat×Nat×List Rec:=fun n a=>Nat.rec a (fun _ b=>nx b) n;have fin_s:∀n a,fin (n+1) a=nx (fin n a):=fun _ _=>rfl;have fin_c:∀n a,fin (n+1) a=fin n (nx a):=by
    intro n
    induction n with
    |zero=>intro a;rfl
    |succ n ih=>intro a;exact congrArg nx (ih a)
   let I:Nat×Nat×List Rec→Prop:=fun a=>a.1<a.2.1∧a.2.1≤l.length∧a.2.2.length=l.length∧a.2.2.take a.1=(l.take a.2.1).filter (fun x=> !p x)∧a.2.2.drop a.2.1=l.drop a.2.1;have I_nx:∀a,I a→a.2.1<l.length→I (nx a)∧(nx a).2.1=a.2.1+1:=by
    rintro⟨i,j,s⟩ ⟨i1,i2,i3,i4,i5⟩ hj;simp only at i1 i2 i3 i4 i5 hj;have hc:l[j]? =some l[j]:=Bs hj;have ht:l.take (j+1)=l.take j++[l[j]]:=by rw[Dm,hc];rfl
    have hdrop:s.drop (j+1)=l.drop (j+1):=by rw[←Ew (i:=1) (j:=j),i5,Ew]
    have hlen:i=((l.take j).filter fun x=> !p x).length:=by rw[←i4,Cw];omega
    simp only[nx,hc];rcases Bm (p l[j]) with h1|h1
    ·simp only[h1,if_true];refine⟨⟨by simp only;omega,by simp only;omega,i3,?_,hdrop⟩,trivial⟩;simp only;rw[ht,F5,i4];simp[h1]
    ·simp only[h1,B5,if_false];refine⟨⟨by simp only;omega,by simp only;omega,by simpa using i3,?_,?_⟩,trivial⟩
     ·simp only;rw[ht,F5,←i4,Dm,M1 (by omega),List.take_set_of_le (by omega)];simp[h1]
     ·simp only;rw[W8 (by omega),hdrop]
   have I_fin:∀n a,I a→a.2.1+n≤l.length→I (fin n a)∧(fin n a).2.1=a.2.1+n:=by
    intro n
    induction n with
    |zero=>intro a ha _;exact⟨ha,rfl⟩
    |succ n ih=>
     intro a ha hn;obtain⟨q1,q2⟩:=ih a ha (by omega);obtain⟨q3,q4⟩:=I_nx _ q1 (by omega);rw[fin_s];exact⟨q3,by rw[q4,q2];omega⟩
   have I0:I (j0,j0+1,l):=by refine⟨by simp only;omega,by simp only;omega,rfl,?_,rfl⟩;simp only;rw[Dm,g4,F5,Mp p g3];simp[g5]
   obtain⟨z1,z2⟩:=I_fin (l.length - (j0+1)) (j0,j0+1,l) I0 (by simp only;omega);simp only at z2;refine⟨(fin (l.length - (j0+1)) (j0,j0+1,l)).2.2,z1.2.2.1,?_,?_⟩
   ·have q:=z1.2.2.2.1;have e1:(fin (l.length - (j0+1)) (j0,j0+1,l)).2.1=l.length:=by rw[z2];omega
    rw[e1,E3] at q;rw[←q,Cw,z1.2.2.1];have:=z1.1;rw[Mw (by omega)]
   ·have hlen:(fin (l.length - (j0+1)) (j0,j0+1,l)).1=(l.filter fun x=> !p x).length:=by
     have q:=z1.2.2.2.1;have e1:(fin (l.length - (j0+1)) (j0,j0+1,l)).2.1=l.length:=by rw[z2];omega
     rw[e1,E3] at q;have q2:=congrArg List.length q;have:=z1.1;rw[Cw,z1.2.2.1,Mw (by omega)] at q2;exact q2
    refine Eq.trans (Kq (α:=Nat×Nat×List Rec) (fun a=>[.i .i64 (a.1:Int),.i .i64 (a.2.1:Int),B6 a.2.2]) (fun a=> .yld 0 [.i .i64 ((fin (l.length - a.2.1) a).1:Int),B6 (fin (l.length - a.2.1) a).2.2]) I (fun a=>l.length - a.2.1) (j0,j0+1,l) ?_ I0 (by simp only;omega) ?_) ?_
    ·simp(disch:=omega)only[EVT,Ak,simprocAttr]
    ·rintro⟨i,j,s⟩ hI;obtain⟨i1,i2,i3,i4,i5⟩:=hI;simp only at i1 i2 i3 i4 i5;by_cases hj:j<l.length
     ·left;have hc:l[j]? =some l[j]:=Bs hj;have hsc:s[j]? =some l[j]:=by have:=congrArg (fun q=>q[0]?) i5;simpa [Cl,hc] using this
      have hsi:∃y,s[i]? =some y:=⟨_,Bs (by omega)⟩;obtain⟨y,hsi⟩:=hsi;obtain⟨q3,q4⟩:=I_nx (i,j,s) ⟨i1,i2,i3,i4,i5⟩ hj;have hp:=h l[j] (E4 hj);refine⟨nx (i,j,s),?_,q3,by rw[q4];simp only;omega,?_⟩
      ·have hjs:(j:Int)<(s.length:Int):=by omega
       rcases Bm (p l[j]) with h1|h1
       ·rw[h1] at hp;simp only[nx,hc,h1,if_true];simp(disch:=omega)only[Cn3,hjs,hsc,hp,EVT,Ak,simprocAttr]
       ·rw[h1] at hp;simp only[nx,hc,h1,B5,if_false];simp(disch:=omega)only[Cn3,hjs,hsc,hsi,hp,EVT,Ak,simprocAttr]
      ·have e1:l.length - j=(l.length - (j+1))+1:=by omega
       rw[q4];simp only;rw[e1,fin_c]
     ·right;have hjs:¬(j:Int)<(s.length:Int):=by omega
      have e1:l.length - j=0:=by omega
      simp only[e1];simp(disch:=omega)only[Cn3,hjs,EVT,Ak,simprocAttr];exact⟨rfl,rfl⟩
    ·simp only;rw[hlen]
  obtain⟨s,hs1,hs2,key⟩:=key;have hle:(l.filter fun x=> !p x).length≤l.length:=Dh _ _;have e0:¬((j0:Int)= -1):=by omega
  generalize (l.filter fun x=> !p x)=fl at*;have hsl1:Jv 16 (B6 s) (.i .i64 ((fl.length:Nat):Int)) (.i .i64 (s.length:Int))=some (B6 (s.drop fl.length)):=by rw[Jf _ _ _ _ _ (by omega) (by omega) (by omega)];simp
  have hsl2:Jv 16 (B6 s) (.i .i64 0) (.i .i64 ((fl.length:Nat):Int))=some (B6 fl):=by rw[Jf _ _ _ _ _ (by omega) (by omega) (by omega)];simp[hs2]
  have hrep:N4 16 (.i .i64 ((s.length:Int) - (fl.length:Int))) Ar5=some (B6 (List.replicate (s.length - fl.length) zr)):=by rw[Bc1 _ (by omega) (by omega)];congr 3;omega
  have happ:Jn 16 (B6 fl) (B6 (List.replicate (s.length - fl.length) zr))=some (B6 (fl++List.replicate (s.length - fl.length) zr)):=Xr _ _ (by simp;omega);have hsl3:Jv 16 (B6 (fl++List.replicate (s.length - fl.length) zr)) (.i .i64 0) (.i .i64 ((fl.length:Nat):Int))=some (B6 fl):=by rw[Jf _ _ _ _ _ (by omega) (by omega) (by simp;omega)];simp
  simp(disch:=omega)only[Cn3,h0,e0,key,hsl1,hsl2,hrep,happ,hsl3,EVT,Ak,simprocAttr]
def Hv3:PV→PV→Int
 | .s a,.s b=>Jp a b
 |_,_=>0
def ot (l:List (List UInt8)) (hl:l.length≤1000000) (hs:∀x∈l,x.length≤9223372036854775807):S l4 1048578 [Cn l,.f Rc []]=some [Cn (l.mergeSort fun x y=> !decide (Jp y x<0))]:=by
 have hm:∀x∈l.map PV.s,∃a∈l,x= .s a:=fun x hx=>by obtain⟨a,h1,h2⟩:=Fl.1 hx;exact⟨a,h1,h2.symm⟩
 have h:=Bb6 (tab:=tab) (xs:=Hj6) (ss:=bn) (f:=l4) (s:=Gk2) Hh7 Hl2 (g:=Rc) (caps:=[]) (l:=l.map PV.s) (by decide) (by simp;omega)
  (fun x hx=>by obtain⟨a,_,rfl⟩:=hm x hx;rfl) Hv3
  (fun x hx y hy=>by obtain⟨a,ha,rfl⟩:=hm x hx;obtain⟨b,hb,rfl⟩:=hm y hy;exact J3 a b (hs a ha) (hs b hb))
  (fun x hx=>by obtain⟨a,_,rfl⟩:=hm x hx;show¬Jp a a<0;rw[G1];exact to_N.irr a)
  (fun x hx y hy z hz h1 h2=>by obtain⟨a,_,rfl⟩:=hm x hx;obtain⟨b,_,rfl⟩:=hm y hy;obtain⟨c,_,rfl⟩:=hm z hz;exact(G1 a c).2 (to_N.tr _ _ _ ((G1 a b).1 h1) ((G1 b c).1 h2)))
  (fun x hx y hy z hz h1 h2=>by obtain⟨a,_,rfl⟩:=hm x hx;obtain⟨b,_,rfl⟩:=hm y hy;obtain⟨c,_,rfl⟩:=hm z hz;exact fun h3=>to_N.ntr (fun q=>h1 ((G1 a b).2 q)) (fun q=>h2 ((G1 b c).2 q)) ((G1 a c).1 h3))
  (fun x hx y hy h1 h2=>by
   obtain⟨a,_,rfl⟩:=hm x hx;obtain⟨b,_,rfl⟩:=hm y hy;rcases to_N.tri a b with q|q|q
   ·exact absurd ((G1 a b).2 q) h1
   ·rw[q]
   ·exact absurd ((G1 b a).2 q) h2)
 have e:(l.map PV.s).mergeSort (fun x y=> !decide (Hv3 y x<0))=(l.mergeSort fun x y=> !decide (Jp y x<0)).map PV.s:=(Jw4 (r:=fun x y=> !decide (Jp y x<0)) (s:=fun x y=> !decide (Hv3 y x<0)) (f:=PV.s) fun a _ b _=>rfl).symm;rw[e] at h;exact h
def Rt (l:List (List UInt8)) (hl:l.length≤1000000):S Ay4 1048577 [Cn l]=some [Cn (cpt eqs l)]:=by
 refine Jc9 (N:=l.length+2) rfl ?_;by_cases h2:(l.length:Int)<2
 ·have e:cpt eqs l=l:=by
   match l,h2 with
   |[],_=>rfl
   |[x],_=>rfl
   |_::_::_,h=>simp at h;omega
  rw[e];simp(disch:=omega)only[jd,h2,EVT,Ak,simprocAttr]
 ·-- the inner If, from a place where two neighbours are equal
  have inner:∀k:Nat,1≤k→k<l.length→cpt eqs (l.take (k+1))=l.take k→∃s:List (List UInt8),s.length=l.length∧s.take (cpt eqs l).length=cpt eqs l∧Gq8.ev S (l.length+2) [Cn l,.i .i64 (k:Int),Cn l]=some (.yld 2 [.i .i64 ((cpt eqs l).length:Int),Cn s]):=by
   intro k hk1 hk hcp;have key:=Jg (fn:=S) (N:=l.length+2) (η:=[Cn l,.i .i64 (k:Int),Cn l]) (id:=3) (init:=[(.v 1),(.c (.i .i64 (1))),(.v 2)]) (body:=Ec8) (α:=Nat×Nat×List (List UInt8))
    (fun a=>[.i .i64 (a.1:Int),.i .i64 (a.2.1:Int),Cn a.2.2])
    (fun o=>∃s:List (List UInt8),s.length=l.length∧s.take (cpt eqs l).length=cpt eqs l∧o= .yld 2 [.i .i64 ((cpt eqs l).length:Int),Cn s])
    (fun a=>1≤a.2.1∧k+a.2.1≤l.length∧a.1<k+a.2.1∧a.2.2.length=l.length∧a.2.2.take a.1=cpt eqs (l.take (k+a.2.1))∧(cpt eqs (l.take (k+a.2.1))).length=a.1∧a.2.2.drop (k+a.2.1 - 1)=l.drop (k+a.2.1 - 1))
    (fun a=>l.length - a.2.1) (k,1,l) (by simp(disch:=omega)only[EVT,Ak,simprocAttr])
    ⟨by simp,by simp;omega,by simp,rfl,by simp only;rw[hcp],by simp only;rw[hcp,Cw];omega,rfl⟩ (by simp only;omega) ?_
   ·obtain⟨o,h3,s,h4,h5,rfl⟩:=key;exact⟨s,h4,h5,h3⟩
   ·rintro⟨i,j,s⟩ ⟨a1,a2,a3,a4,a5,a6,a7⟩;simp only at a1 a2 a3 a4 a5 a6 a7;by_cases hj:k+j<l.length
    ·left;have c1:s[k+j]? =l[k+j]? :=by have:=congrArg (fun q=>q[1]?) a7;simp only[Cl] at this;rwa[show k+j - 1+1=k+j by omega] at this
     have c0:s[k+j - 1]? =l[k+j - 1]? :=by have:=congrArg (fun q=>q[0]?) a7;simpa only[Cl,Fj] using this
     have g1:l[k+j]? =some (l[k+j]'hj):=Bs hj;have g0:l[k+j - 1]? =some (l[k+j - 1]'(by omega)):=Bs (by omega);have tk:l.take (k+(j+1))=l.take (k+j)++[l[k+j]'hj]:=by rw[show k+(j+1)=(k+j)+1 by omega,Dm,g1];rfl
     have ne:l.take (k+j)≠[]:=by intro h;have:=congrArg List.length h;rw[Cw,C2] at this;omega
     have gl:(l.take (k+j)).getLast ne=l[k+j - 1]'(by omega):=by rw[L1];simp only[Ar3,Cw];congr 1;omega
     have cs:=Qv eqs (l[k+j]'hj) (l.take (k+j)) ne;rw[←tk,gl] at cs;generalize l[k+j]'hj=x at*;generalize l[k+j - 1]'(by omega)=y at*;have hjj:(j:Int)<(s.length:Int) - (k:Int):=by omega
     have i1:I7 1 (Cn s) (.i .i64 ((k:Int)+(j:Int)))=some (.s x):=by rw[P9 _ _ _ (by omega),show ((k:Int)+(j:Int)).toNat=k+j by omega,c1,g1];rfl
     have i0:I7 1 (Cn s) (.i .i64 ((k:Int)+((j:Int) - 1)))=some (.s y):=by rw[P9 _ _ _ (by omega),show ((k:Int)+((j:Int) - 1)).toNat=k+j - 1 by omega,c0,g0];rfl
     have ls:Jv 1 (Cn s) (.i .i64 (k:Int)) (.i .i64 (s.length:Int))=some (Cn (s.drop k)):=by rw[L6 _ _ _ _ _ (by omega) (by omega) (by omega)];simp
     have e1:(s.drop k)[j]? =some x:=by rw[Cl,c1,g1]
     have e0:(s.drop k)[j - 1]? =some y:=by rw[Cl,show k+(j - 1)=k+j - 1 by omega,c0,g0]
     have si:∃w,s[i]? =some w:=⟨_,Bs (by omega)⟩;obtain⟨w,si⟩:=si;have ej:((j:Int) - 1).toNat=j - 1:=by omega
     by_cases hxy:x=y
     ·refine⟨(i,j+1,s),?_,⟨by simp,by simp only;omega,by simp only;omega,a4,?_,?_,?_⟩,by simp only;omega⟩
      ·simp(disch:=omega)only[jd,hjj,i1,i0,ls,e1,e0,ej,hxy,EVT,Ak,simprocAttr]
      ·simp only;rw[cs,a5];simp[eqs,hxy]
      ·simp only;rw[cs,B0,a6];simp[eqs,hxy]
      ·simp only;rw[show k+(j+1) - 1=(k+j - 1)+1 by omega,←Ew,←Ew,a7]
     ·refine⟨(i+1,j+1,s.set i x),?_,⟨by simp,by simp only;omega,by simp only;omega,by simpa using a4,?_,?_,?_⟩,by simp only;omega⟩
      ·simp(disch:=omega)only[jd,hjj,i1,i0,ls,e1,e0,ej,si,hxy,EVT,Ak,simprocAttr]
      ·simp only;rw[cs,Dm,M1 (by omega),List.take_set_of_le (by omega),a5];simp[eqs,hxy]
      ·simp only;rw[cs,B0,a6];simp[eqs,hxy]
      ·simp only;rw[show k+(j+1) - 1=(k+j - 1)+1 by omega,W8 (by omega),←Ew,←Ew,a7]
    ·right;have ek:k+j=l.length:=by omega
     rw[ek,E3] at a5 a6;have hjj:¬(j:Int)<(s.length:Int) - (k:Int):=by omega
     refine⟨.yld 2 [.i .i64 (i:Int),Cn s],?_,rfl,s,a4,by rw[a6];exact a5,by rw[a6]⟩;simp(disch:=omega)only[jd,hjj,EVT,Ak,simprocAttr]
  have key:Gv4.ev S (l.length+2) [Cn l]=some (if cpt eqs l=l then .yld 0 [Cn l] else .ret [Cn (cpt eqs l)]):=by
   have:=Jg (fn:=S) (N:=l.length+2) (η:=[Cn l]) (id:=1) (init:=[(.c (.i .i64 (1))),(.v 0)]) (body:=Ed0) (α:=Nat)
    (fun k=>[.i .i64 (k:Int),Cn l]) (fun o=>o=if cpt eqs l=l then .yld 0 [Cn l] else .ret [Cn (cpt eqs l)])
    (fun k=>1≤k∧k≤l.length∧cpt eqs (l.take k)=l.take k) (fun k=>l.length - k) 1 (by simp(disch:=omega)only[EVT,Ak,simprocAttr])
    ⟨B7 1,by omega,by cases l with
     |nil=>simp at h2
     |cons x r=>rfl⟩ (by omega) ?_
   ·obtain⟨o,h3,h4⟩:=this;rw[←h4];exact h3
   ·rintro k ⟨k1,k2,k3⟩;by_cases hk:k<l.length
    ·have g1:l[k]? =some l[k]:=Bs hk;have g0:l[k - 1]? =some (l[k - 1]'(by omega)):=Bs (by omega);have tk:l.take (k+1)=l.take k++[l[k]]:=by rw[Dm,g1];rfl
     have ne:l.take k≠[]:=by intro h;have:=congrArg List.length h;rw[Cw,C2] at this;omega
     have gl:(l.take k).getLast ne=l[k - 1]'(by omega):=by rw[L1];simp only[Ar3,Cw];congr 1;omega
     have cs:=Qv eqs l[k] (l.take k) ne;rw[←tk,gl,k3] at cs;have hkk:(k:Int)<(l.length:Int):=by omega
     have i1:I7 1 (Cn l) (.i .i64 (k:Int))=some (.s l[k]):=by rw[P9 _ _ _ (by omega),show ((k:Int)).toNat=k by omega,g1];rfl
     have i0:I7 1 (Cn l) (.i .i64 ((k:Int) - 1))=some (.s (l[k - 1]'(by omega))):=by rw[P9 _ _ _ (by omega),show ((k:Int) - 1).toNat=k - 1 by omega,g0];rfl
     by_cases hxy:l[k]=l[k - 1]'(by omega)
     ·right;have cs':cpt eqs (l.take (k+1))=l.take k:=by rw[cs];simp[eqs,hxy]
      obtain⟨s,s1,s2,s3⟩:=inner k k1 hk cs';have hlt:cpt eqs l≠l:=by
       intro h;have q:(cpt eqs l).length≤(cpt eqs (l.take (k+1))).length+(l.drop (k+1)).length:=by
        have:∀(b a:List (List UInt8)),a≠[]→(cpt eqs (a++b)).length≤(cpt eqs a).length+b.length:=by
         intro b
         induction b with
         |nil=>intro a _;simp
         |cons x r ih=>
          intro a ha;have h1:=ih (a++[x]) (by simp);rw[Qv _ _ _ ha] at h1;rw[show a++x::r=a++[x]++r by simp];refine Dt h1 ?_;rw[B0];split<;>simp<;>omega
        have h3:=this (l.drop (k+1)) (l.take (k+1)) (by intro h;have:=congrArg List.length h;rw[Cw,C2] at this;omega);rwa[Dq] at h3
       rw[h,cs',Cw,Dj] at q;omega
      have hlen:=ny eqs l;refine⟨.ret [Cn (cpt eqs l)],?_,rfl,by rw[if_neg hlt]⟩;generalize cpt eqs l=fl at*;have ls:Jv 1 (Cn l) (.i .i64 (k:Int)) (.i .i64 (l.length:Int))=some (Cn (l.drop k)):=by rw[L6 _ _ _ _ _ (by omega) (by omega) (by omega)];simp
      have hsl1:Jv 1 (Cn s) (.i .i64 ((fl.length:Nat):Int)) (.i .i64 (s.length:Int))=some (Cn (s.drop fl.length)):=by rw[L6 _ _ _ _ _ (by omega) (by omega) (by omega)];simp
      have hsl2:Jv 1 (Cn s) (.i .i64 0) (.i .i64 ((fl.length:Nat):Int))=some (Cn fl):=by rw[L6 _ _ _ _ _ (by omega) (by omega) (by omega)];simp[s2]
      have hrep:N4 1 (.i .i64 ((s.length:Int) - (fl.length:Int))) (.s [])=some (Cn (List.replicate (s.length - fl.length) [])):=by rw[Bc0 _ (by omega) (by omega)];congr 3;omega
      have happ:Jn 1 (Cn fl) (Cn (List.replicate (s.length - fl.length) []))=some (Cn (fl++List.replicate (s.length - fl.length) [])):=Xp _ _ (by simp;omega);have hsl3:Jv 1 (Cn (fl++List.replicate (s.length - fl.length) [])) (.i .i64 0) (.i .i64 ((fl.length:Nat):Int))=some (Cn fl):=by rw[L6 _ _ _ _ _ (by omega) (by omega) (by simp;omega)];simp
      simp(disch:=omega)only[jd,hkk,i1,i0,hxy,ls,s3,hsl1,hsl2,hrep,happ,hsl3,EVT,Ak,simprocAttr]
     ·left;refine⟨k+1,?_,⟨by omega,by omega,?_⟩,by omega⟩
      ·simp(disch:=omega)only[jd,hkk,i1,i0,hxy,EVT,Ak,simprocAttr]
      ·rw[cs,tk];simp[eqs,hxy]
    ·right;have e:k=l.length:=by omega
     subst e;rw[E3] at k3;refine⟨_,?_,?_,rfl⟩
     ·rw[if_pos k3];simp(disch:=omega)only[jd,EVT,Ak,simprocAttr]
     ·rw[if_pos k3];rfl
  by_cases h:cpt eqs l=l
  ·rw[if_pos h] at key;rw[h];simp(disch:=omega)only[jd,h2,key,EVT,Ak,simprocAttr]
  ·rw[if_neg h] at key;simp(disch:=omega)only[jd,h2,key,EVT,Ak,simprocAttr]
end Go.X.G
/- Types of records: the program's table. -/
namespace Go.X.G
open Go Go.X
structure Kd where
 num:Int
 mne:List UInt8
 fls:List UInt8
def Kd.pv (k:Kd):PV:= .a [.i .i64 k.num,.s k.mne,.s k.fls]
def Ac1 (l:List Kd):PV:= .l 3 (l.map Kd.pv)
def kds:List Kd:=[⟨1,[65],[52]⟩,⟨2,[78,83],[104]⟩,⟨5,[67,78,65,77,69],[104]⟩,⟨6,[83,79,65],[104,109,118,119,120,121,122]⟩,⟨12,[80,84,82],[104]⟩,⟨15,[77,88],[65,104]⟩,⟨16,[84,88,84],[116]⟩,⟨28,[65,65,65,65],[54]⟩,⟨33,[83,82,86],[65,66,67,104]⟩,⟨39,[68,78,65,77,69],[104]⟩,⟨43,[68,83],[65,98,99,114]⟩,⟨46,[82,82,83,73,71],[65,115,98,120,121,122,70,104,114]⟩,⟨47,[78,83,69,67],[104,110]⟩,⟨48,[68,78,83,75,69,89],[65,98,99,114]⟩]
def lv (k:Kd):Dk 0 k.pv=some (.i .i64 k.num):=rfl
def lq (k:Kd):Dk 1 k.pv=some (.s k.mne):=rfl
def Ef (k:Kd):Dk 2 k.pv=some (.s k.fls):=rfl
def Cs0 (k:Kd):Lp 0 3 k.pv=some k.pv:=rfl
def Wz (k:Kd):Vv 3 k.pv=some k.pv:=rfl
def Vj (l:List Kd):Hc (Ac1 l)=some (.i .i64 (l.length:Int)):=by simp[Ac1,Hc]
def Ac3 (l:List Kd) (k:IntKind) (z:Int) (h:0≤z):I7 3 (Ac1 l) (.i k z)=(l[z.toNat]?).map Kd.pv:=by simp[Ac1,Zp _ _ _ _ h]
def Bf6:S fw 0 []=some [Ac1 kds]:=Hr1 (N:=1) rfl (by kernel_rfl)
def Z0 (k:Kd):PV.flat k.pv=true:=rfl
def Bf8 (t:Int):S fh 1 [.i .i64 t]=some (match kds.find? (fun k=>decide (k.num=t)) with|some k=>[k.pv,.b true]|none=>[Kd.pv ⟨0,[],[]⟩,.b false]):=by
 refine Ht1 (N:=20) rfl ?_;have key:∀l:List Kd,l.length≤15→Ds9.ev S 20 [.i .i64 t,Ac1 l]=some (match l.find? (fun k=>decide (k.num=t)) with|some k=> .ret [k.pv,.b true]|none=> .yld 0 [.i .i64 0,.s [],.s []]):=by
  intro l hl;refine Es l (fun i=>[.i .i64 (i:Int),.i .i64 0,.s [],.s []]) (fun i r=>match r.find? (fun k=>decide (k.num=t)) with|some k=> .ret [k.pv,.b true]|none=> .yld 0 [.i .i64 0,.s [],.s []]) rfl (by omega) (fun i c r hd hi hc=> ?_) ?_
  ·by_cases h:c.num=t
   ·right;simp(disch:=omega)only[qk,hc,h,lv,lq,Ef,Cs0,Wz,Vj,Ac3,Av,simprocAttr];simp[h,Out.goes]
   ·left;simp(disch:=omega)only[qk,hc,h,lv,lq,Ef,Cs0,Wz,Vj,Ac3,Av,simprocAttr];simp[h]
  ·simp(disch:=omega)only[qk,lv,lq,Ef,Cs0,Wz,Vj,Ac3,Av,simprocAttr];simp[Out.goes]
 have hk:=key kds (by decide);have hkd:=Bf6;cases h:kds.find? (fun k=>decide (k.num=t)) with
 |some k=>
  rw[h] at hk;simp(disch:=omega)only[qk,hkd,hk,Vj,Av,simprocAttr]
 |none=>
  rw[h] at hk;simp(disch:=omega)only[qk,hkd,hk,Vj,Av,simprocAttr];rfl
def Bg8 (t:Int):(kds.find? (fun k=>decide (k.num=t))).isSome=knw t:=by
 rw[D5,List.find?_isSome];simp[kds,knw]
 grind
def Ey (t:Int):S Wv 1 [.i .i64 t]=some [.b (knw t)]:=by
 refine Iv1 (N:=1) rfl ?_;have h:=Bf8 t;have h2:=Bg8 t;cases hk:kds.find? (fun k=>decide (k.num=t)) with
 |some k=>
  rw[hk] at h h2;simp only[Option.isSome_some] at h2;simp(disch:=omega)only[Gj8,h,Z0,Wz,Av,simprocAttr];rw[←h2]
 |none=>
  rw[hk] at h h2;simp only[jk] at h2;simp(disch:=omega)only[Gj8,h,Z0,Wz,Av,simprocAttr];rw[←h2]
end Go.X.G
/- Types of names, as sets of bits. -/
namespace Go.X
open Go
def Ic (l:List Int):PV:= .l 1 (l.map fun t=> .i .i64 t)
def Pr:PV.l 1 []=Ic []:=rfl
def U4 (t:Int):PV.l 1 [.i .i64 t]=Ic [t]:=rfl
def U9 (t:Int):K4 1 [.i .i64 t]=some (Ic [t]):=rfl
def P5 (l:List Int):Hc (Ic l)=some (.i .i64 (l.length:Int)):=by simp[Ic,Hc]
def P8 (l:List Int) (k:IntKind) (z:Int) (h:0≤z):I7 1 (Ic l) (.i k z)=(l[z.toNat]?).map fun t=> .i .i64 t:=by simp[Ic,Zp _ _ _ _ h]
def Ms (l:List Int) (x:Int) (h:l.length+1≤1073741824):Jn 1 (Ic l) (Ic [x])=some (Ic (l++[x])):=by have:=Vr 1 (l.map fun t=> .i .i64 t) [.i .i64 x] (by simpa using h);simpa [Ic] using this
end Go.X
namespace Go.X.G
open Go Go.X
def shO (t:Int):Int:=IntKind.u64.wrap (1*2 ^ (min t.toNat IntKind.u64.bits))
def bitO (g t:Int):Int:=IntKind.u64.wrap ((BitVec.ofInt IntKind.u64.bits g|||BitVec.ofInt IntKind.u64.bits (shO t)).toNat:Int)
def Kg0 (t:Int) (h:0≤t):X.bin .shl (.i .u64 1) (.i .i64 t)=some (.i .u64 (shO t)):=by rw[Am0,if_neg (by omega)];rfl
def Kf9 (t:Int) (h:0≤t):X.bin .shl (.i .u64 1) (.i .u64 t)=some (.i .u64 (shO t)):=by rw[Am0,if_neg (by omega)];rfl
def orO (g t:Int):X.bin .or (.i .u64 g) (.i .u64 (shO t))=some (.i .u64 (bitO g t)):=by rw[Gd3];rfl
def Dt9 {t:Int} (h:knw t=true):0≤t∧t≤255:=by rcases knw_cases h with rfl|rfl|rfl|rfl|rfl|rfl|rfl|rfl|rfl|rfl|rfl|rfl|rfl|rfl<;>decide
def Eg6 (l:List Int) (hk:∀t∈l,knw t=true) (hl:l.length≤1000000):S Cw4 1 [Ic l]=some [.i .u64 (l.foldl bitO 0),.b true]:=by
 refine Jd1 (N:=l.length+1) rfl ?_;have key:Gv6.ev S (l.length+1) [Ic l]=some (.yld 0 [.i .u64 (l.foldl bitO 0)]):=by
  refine D7 (N:=l.length+1) l (fun i (g:Int)=>[.i .u64 g,.i .i64 (i:Int)]) (fun i g r=> .yld 0 [.i .u64 (r.foldl bitO g)]) (fun _ _=>True) 0 rfl trivial (X0 _) (fun i g c r hd hi hc _=> ?_) (fun g _=> ?_)
  ·left;have hil:(i:Int)<(l.length:Int):=by omega
   have hc1:=hk c (Cq hc);have k:=Ey c;rw[hc1] at k;refine⟨bitO g c,?_,trivial,rfl⟩;have e1:=Kg0 c (Dt9 hc1).1;have e2:=orO g c;generalize shO c=sc at*;generalize bitO g c=bc at*;simp(disch:=omega)only[Gf6,hc,hil,k,e1,e2,P8,P5,Av,simprocAttr]
  ·simp(disch:=omega)only[Gf6,Gn,P8,P5,Av,simprocAttr];simp[Out.goes]
 simp(disch:=omega)only[Gf6,key,P8,P5,Av,simprocAttr]
def Hy3 (l:List Int) (hk:∀t∈l,knw t=true) (hl:l.length≤1000000):S v7 1 [Ic l]=some [.i .u64 (l.foldl bitO 0),.b true]:=by
 refine Ht9 (N:=l.length+1) rfl ?_;have key:Dt2.ev S (l.length+1) [Ic l]=some (.yld 0 [.i .u64 (l.foldl bitO 0)]):=by
  refine D7 (N:=l.length+1) l (fun i (g:Int)=>[.i .u64 g,.i .i64 (i:Int)]) (fun i g r=> .yld 0 [.i .u64 (r.foldl bitO g)]) (fun _ _=>True) 0 rfl trivial (X0 _) (fun i g c r hd hi hc _=> ?_) (fun g _=> ?_)
  ·left;have hil:(i:Int)<(l.length:Int):=by omega
   have hc1:=hk c (Cq hc);have k:=D3 c;rw[hc1] at k;have hr:=Dt9 hc1;refine⟨bitO g c,?_,trivial,rfl⟩;have e1:=Kf9 c hr.1;have e2:=orO g c;have e3:IntKind.u64.wrap c=c:=Gj9 (by omega) (by omega);generalize shO c=sc at*;generalize bitO g c=bc at*;simp(disch:=omega)only[Cn9,hc,hil,k,e1,e2,e3,P8,P5,Av,simprocAttr]
  ·simp(disch:=omega)only[Cn9,Gn,P8,P5,Av,simprocAttr];simp[Out.goes]
 simp(disch:=omega)only[Cn9,key,P8,P5,Av,simprocAttr]
def typesR (l:List Rec) (n:List UInt8):List Int:=(l.filter fun r=>decide (r.name=n) && knw r.typ).map Rec.typ
def dh (l:List Rec) (n:List UInt8):∀t∈typesR l n,knw t=true:=fun t ht=>by simp only[typesR,Fl,C5,Br] at ht;obtain⟨r,hr,rfl⟩:=ht;exact hr.2.2
def Eg3 (l:List Rec) (n:List UInt8) (hl:l.length≤1000000):S Dh3 2 [B6 l,.s n]=some [.i .u64 ((typesR l n).foldl bitO 0)]:=by
 refine Jl7 (N:=l.length+1) rfl ?_;have hs:=Eg6 (typesR l n) (dh l n) (by have:=Dh (fun r:Rec=>decide (r.name=n) && knw r.typ) l;simp only[typesR,D2];omega);have key:Gx6.ev S (l.length+1) [B6 l,.s n]=some (.yld 0 [Ic ([]++typesR l n)]):=by
  refine D7 (N:=l.length+1) l (fun i (g:List Int)=>[Ic g,.i .i64 (i:Int)]) (fun i g r=> .yld 0 [Ic (g++typesR r n)]) (fun i g=>g.length≤i) [] rfl (Dy _) (X0 _) (fun i g c r hd hi hc hI=> ?_) (fun g hI=> ?_)
  ·left;have hil:(i:Int)<(l.length:Int):=by omega
   have k:=Ey c.typ;by_cases h1:c.name=n
   ·rcases Bm (knw c.typ) with h2|h2
    ·rw[h2] at k;refine⟨g++[c.typ],?_,by simp;omega,by simp[typesR,h1,h2]⟩;simp(disch:=omega)only[Cm4,hc,hil,h1,k,Pr,U4,U9,Ms,Av,simprocAttr]
    ·rw[h2] at k;refine⟨g,?_,by omega,by simp[typesR,h2]⟩;simp(disch:=omega)only[Cm4,hc,hil,h1,k,Pr,U4,U9,Ms,Av,simprocAttr]
   ·refine⟨g,?_,by omega,by simp[typesR,h1]⟩;simp(disch:=omega)only[Cm4,hc,hil,h1,Pr,U4,U9,Ms,Av,simprocAttr]
  ·simp(disch:=omega)only[Cm4,Gn,Av,simprocAttr];simp[Out.goes,typesR]
 rw[Dw] at key;generalize (typesR l n).foldl bitO 0=v at*;simp(disch:=omega)only[Cm4,hs,key,Av,simprocAttr]
def Eg4 (l:List Rec) (n:List UInt8) (hl:l.length≤1000000):S Dg6 2 [B6 l,.s n]=some [.i .u64 ((typesR l n).foldl bitO 0)]:=by
 refine Jg2 (N:=l.length+1) rfl ?_;have hs:=Hy3 (typesR l n) (dh l n) (by have:=Dh (fun r:Rec=>decide (r.name=n) && knw r.typ) l;simp only[typesR,D2];omega);have key:Gw7.ev S (l.length+1) [B6 l,.s n]=some (.yld 0 [Ic ([]++typesR l n)]):=by
  refine D7 (N:=l.length+1) l (fun i (g:List Int)=>[Ic g,.i .i64 (i:Int)]) (fun i g r=> .yld 0 [Ic (g++typesR r n)]) (fun i g=>g.length≤i) [] rfl (Dy _) (X0 _) (fun i g c r hd hi hc hI=> ?_) (fun g hI=> ?_)
  ·left;have hil:(i:Int)<(l.length:Int):=by omega
   have k:=D3 c.typ;by_cases h1:c.name=n
   ·rcases Bm (knw c.typ) with h2|h2
    ·rw[h2] at k;refine⟨g++[c.typ],?_,by simp;omega,by simp[typesR,h1,h2]⟩;simp(disch:=omega)only[Cm1,hc,hil,h1,k,Pr,U4,U9,Ms,Av,simprocAttr]
    ·rw[h2] at k;refine⟨g,?_,by omega,by simp[typesR,h2]⟩;simp(disch:=omega)only[Cm1,hc,hil,h1,k,Pr,U4,U9,Ms,Av,simprocAttr]
   ·refine⟨g,?_,by omega,by simp[typesR,h1]⟩;simp(disch:=omega)only[Cm1,hc,hil,h1,Pr,U4,U9,Ms,Av,simprocAttr]
  ·simp(disch:=omega)only[Cm1,Gn,Av,simprocAttr];simp[Out.goes,typesR]
 rw[Dw] at key;generalize (typesR l n).foldl bitO 0=v at*;simp(disch:=omega)only[Cm1,hs,key,Av,simprocAttr]
end Go.X.G
/- The order of records; what a checked zone is like. -/
namespace Go.X.G
open Go Go.X
def TO.prod {α β:Type} {l1:α→α→Prop} {l2:β→β→Prop} (h1:TO l1) (h2:TO l2):TO (fun p q:α×β=>l1 p.1 q.1∨(p.1=q.1∧l2 p.2 q.2)) where
 irr:=fun p h=>by
  rcases h with h|⟨_,h⟩
  ·exact h1.irr _ h
  ·exact h2.irr _ h
 tr:=fun p q r a b=>by
  rcases a with a|⟨a,a'⟩<;>rcases b with b|⟨b,b'⟩
  ·exact .inl (h1.tr _ _ _ a b)
  ·exact .inl (b▸a)
  ·exact .inl (a▸b)
  ·exact .inr ⟨a.trans b,h2.tr _ _ _ a' b'⟩
 tri:=fun p q=>by
  rcases h1.tri p.1 q.1 with a|a|a
  ·exact .inl (.inl a)
  ·rcases h2.tri p.2 q.2 with b|b|b
   ·exact .inl (.inr ⟨a,b⟩)
   ·exact .inr (.inl (Prod.ext a b))
   ·exact .inr (.inr (.inr ⟨a.symm,b⟩))
  ·exact .inr (.inr (.inl a))
def Hh0:TO (fun a b:Int=>a<b):=⟨fun a h=>by omega,fun a b c h1 h2=>by omega,fun a b=>by omega⟩
def ng (a b:Int):zx a b<0↔a<b:=by unfold zx;split<;>(try split)<;>omega
def Kf (a b:Int):zx a b=0↔a=b:=by unfold zx;split<;>(try split)<;>omega
abbrev Key:=List UInt8×Int×List UInt8
abbrev ltK:Key→Key→Prop:=fun p q=>ltN p.1 q.1∨(p.1=q.1∧(p.2.1<q.2.1∨(p.2.1=q.2.1∧ltB p.2.2 q.2.2)))
def to_K:TO ltK:=to_N.prod (Hh0.prod El4)
def El7 (r:Rec):Key:=(r.name,r.typ,K3 r.typ r.data)
abbrev ltR (a b:Rec):Prop:=ltK (El7 a) (El7 b)
def Sd {r:Rec} (h:Qf r=true):Fg r.typ r.data=true:=by unfold Qf at h;simp only[Br] at h;exact h.2
def qd {r:Rec} (h:Qf r=true):vld r.name=true:=by unfold Qf at h;simp only[Br] at h;exact h.1.1.1.1
def Gb6 {t:Int} {a b:Dat} (ha:Fg t a=true) (hb:Fg t b=true):Ex2 t a b=cmpS (K3 t a) (K3 t b):=by unfold Ex2;rw[ha,hb];rfl
def Bl2 {a b:Rec} (ha:Qf a=true) (hb:Qf b=true):Rs a b<0↔ltR a b:=by
 unfold Rs ltR ltK El7;simp only;by_cases h1:Jp a.name b.name=0
 ·rw[if_neg (by simp[h1])];have e1:=Kc.1 h1;have n1:¬ltN a.name b.name:=by rw[e1];exact to_N.irr _
  by_cases h2:zx a.typ b.typ=0
  ·rw[if_neg (by simp[h2])];have e2:=(Kf _ _).1 h2;have ha':=Sd ha;have hb':=Sd hb;rw[e2] at ha' ⊢;rw[Gb6 ha' hb',Xl];constructor
   ·intro h;exact .inr ⟨e1,.inr ⟨rfl,h⟩⟩
   ·rintro (h|⟨_,h|⟨_,h⟩⟩)
    ·exact absurd h n1
    ·omega
    ·exact h
  ·rw[if_pos h2,ng];have e2:a.typ≠b.typ:=fun e=>h2 ((Kf _ _).2 e);constructor
   ·intro h;exact .inr ⟨e1,.inl h⟩
   ·rintro (h|⟨_,h|⟨h,_⟩⟩)
    ·exact absurd h n1
    ·exact h
    ·exact absurd h e2
 ·rw[if_pos h1,G1];have e1:a.name≠b.name:=fun e=>h1 (Kc.2 e);constructor
  ·intro h;exact .inl h
  ·rintro (h|⟨h,_⟩)
   ·exact h
   ·exact absurd h e1
def zy {a b:Rec} (ha:Qf a=true) (hb:Qf b=true):Rs a b=0↔El7 a=El7 b:=by
 unfold Rs El7;by_cases h1:Jp a.name b.name=0
 ·rw[if_neg (by simp[h1])];have e1:=Kc.1 h1;by_cases h2:zx a.typ b.typ=0
  ·rw[if_neg (by simp[h2])];have e2:=(Kf _ _).1 h2;have ha':=Sd ha;have hb':=Sd hb;rw[e2] at ha' ⊢;rw[Gb6 ha' hb',Kb];simp[e1]
  ·rw[if_pos h2];have e2:a.typ≠b.typ:=fun e=>h2 ((Kf _ _).2 e);constructor
   ·intro h;exact absurd h h2
   ·intro h;injection h with _ h;injection h with h _;exact absurd h e2
 ·rw[if_pos h1];have e1:a.name≠b.name:=fun e=>h1 (Kc.2 e);constructor
  ·intro h;exact absurd h h1
  ·intro h;injection h with h _;exact absurd h e1
def Zl {x:Rec} (hx:Qf x=true):∀(l:List Rec),(∀r∈l,Qf r=true)→l.Pairwise ltR→(Wr x l).Pairwise ltR
 |[],_,_=>by simp[Wr]
 |y::r,hv,h=>by
  obtain⟨h1,h2⟩:=Cf.1 h;have hy:=hv y (.head _);have ih:=Zl hx r (fun w hw=>hv w (.tail _ hw)) h2;simp only[Wr];by_cases c:Rs y x<0
  ·rw[if_pos c];refine Cf.2 ⟨fun w hw=> ?_,ih⟩;rcases insR_mem x r w hw with rfl|hw
   ·exact(Bl2 hy hx).1 c
   ·exact h1 w hw
  ·rw[if_neg c];by_cases e:Rs y x=0
   ·rw[if_pos e];split
    ·have ke:=(zy hy hx).1 e;refine Cf.2 ⟨fun w hw=> ?_,h2⟩;have:=h1 w hw;show ltK (El7 x) (El7 w);rw[←ke];exact this
    ·exact h
   ·rw[if_neg e];have hxy:ltR x y:=by
     rcases to_K.tri (El7 x) (El7 y) with q|q|q
     ·exact q
     ·exact absurd ((zy hy hx).2 q.symm) e
     ·exact absurd ((Bl2 hy hx).2 q) c
    refine Cf.2 ⟨fun w hw=> ?_,h⟩;rcases Ck.1 hw with rfl|hw
    ·exact hxy
    ·exact to_K.tr _ _ _ hxy (h1 w hw)
def V6 (l:List Rec) (hv:∀r∈l,Qf r=true):(sortR l).Pairwise ltR∧∀r∈sortR l,r∈l:=by
 have:∀(l a:List Rec),(∀r∈l,Qf r=true)→(∀r∈a,Qf r=true)→a.Pairwise ltR→(l.foldl (fun acc x=>Wr x acc) a).Pairwise ltR∧∀r∈l.foldl (fun acc x=>Wr x acc) a,r∈a∨r∈l:=by
  intro l
  induction l with
  |nil=>intro a _ _ h;exact⟨h,fun r hr=> .inl hr⟩
  |cons x r ih=>
   intro a h1 h2 h3;have hx:=h1 x (.head _);obtain⟨g1,g2⟩:=ih (Wr x a) (fun w hw=>h1 w (.tail _ hw)) (fun w hw=>by
    rcases insR_mem x a w hw with rfl|hw
    ·exact hx
    ·exact h2 w hw) (Zl hx a h2 h3)
   refine⟨g1,fun w hw=> ?_⟩;rcases g2 w hw with hw|hw
   ·rcases insR_mem x a w hw with rfl|hw
    ·exact .inr (.head _)
    ·exact .inl hw
   ·exact .inr (.tail _ hw)
 obtain⟨h1,h2⟩:=this l [] hv (fun r hr=>by cases hr) .nil;exact⟨h1,fun r hr=>(h2 r hr).resolve_left (by simp)⟩
structure ZOk (z:Zone):Prop where
 origin:vld z.origin=true
 small:z.recs.length≤2048
 valid:∀r∈z.recs,Qf r=true
 rising:z.recs.Pairwise ltR
 soa:(findR z.recs z.origin 6).length=1
 ns:bw z.recs z.origin 2=true
 recs:∀r∈z.recs,M9 z r=true
def T3 {z:Zone} (h:I9 z=0):ZOk z:=by
 unfold I9 at h;split at h
 ·cases h
 ·rename_i h1;split at h
  ·cases h
  ·rename_i h2;split at h
   ·cases h
   ·split at h
    ·cases h
    ·rename_i h4;split at h
     ·cases h
     ·rename_i h5;split at h
      ·cases h
      ·rename_i h6;split at h
       ·cases h
       ·rename_i h7;simp only[H1,C0] at h1 h4 h7;simp only[not_or,ne_eq,H0,H1] at h5 h6;refine⟨h1,by omega,h4,?_,h6.1,h6.2,h7⟩;rw[h5];exact(V6 z.recs h4).1
def ZOk.beside {z:Zone} (h:ZOk z) {r x:Rec} (hr:r∈z.recs) (hx:x∈z.recs):Jl r x=true:=by have:=h.recs r hr;unfold M9 at this;simp only[Br] at this;have h2:=this.1.2;unfold Pz at h2;exact C0.1 h2 x hx
def ZOk.under {z:Zone} (h:ZOk z) {r:Rec} (hr:r∈z.recs):under r.name z.origin=true:=by have:=h.recs r hr;unfold M9 at this;simp only[Br] at this;exact this.1.1.1
def ZOk.single {z:Zone} (h:ZOk z) (n:List UInt8) (t:Int) (ht:t=6∨t=5∨t=39):(findR z.recs n t).length≤1:=by
 have hp:(findR z.recs n t).Pairwise ltR:=h.rising.filter _;have hm:∀x∈findR z.recs n t,x∈z.recs∧x.name=n∧x.typ=t:=fun x hx=>by obtain⟨h1,h2⟩:=C5.1 hx;simp only[isK,Br,decide_eq_true_eq] at h2;exact⟨h1,h2.1,h2.2⟩
 generalize findR z.recs n t=l at*
 match l,hp,hm with
 |[],_,_=>simp
 |[_],_,_=>simp
 |a::b::r,hp,hm=>
  exfalso;have hab:ltR a b:=(Cf.1 hp).1 b (.head _);obtain⟨a1,a2,a3⟩:=hm a (.head _);obtain⟨b1,b2,b3⟩:=hm b (.tail _ (.head _));have hb:=h.beside a1 b1;have e:b=a:=by
   unfold Jl at hb;rw[a2,a3,b2,b3] at hb;have ht':(decide (t=6)||decide (t=5)||decide (t=39))=true:=by rcases ht with h|h|h<;>simp[h]
   rw[ht'] at hb;simp only[decide_true,Nm,K1,Ub,Uz,Br,Cm,decide_eq_false_iff_not,ne_eq,H0] at hb;exact hb.1.2
  rw[e] at hab;exact to_K.irr _ hab
end Go.X.G
/- Names on the way up; delegations above a name. -/
namespace Go.X.G
open Go Go.X
def upN (o n:List UInt8):List (List UInt8):=(List.range ((lbl n).length - (lbl o).length+1)).map fun k=>jn ((lbl n).drop k)
def Lz {o n x:List UInt8} (h:under n o=true):x∈upN o n↔under n x=true∧under x o=true:=by
 obtain⟨hn,ho,hs⟩:=C4.1 h;have hle:=hs.length_le;rw[G5] at hs;unfold upN;rw[Fl];constructor
 ·rintro⟨k,hk,rfl⟩;rw[G9] at hk;obtain⟨v1,v2⟩:=M3 hn k;refine⟨C4.2 ⟨hn,v1,by rw[v2];exact List.drop_suffix _ _⟩,C4.2 ⟨v1,ho,?_⟩⟩;rw[v2,hs];have:(lbl n).length - (lbl o).length=k+((lbl n).length - (lbl o).length - k):=by omega
  rw[this,←Ew];exact List.drop_suffix _ _
 ·rintro⟨h1,h2⟩;obtain⟨_,hx,h3⟩:=C4.1 h1;obtain⟨_,_,h4⟩:=C4.1 h2;have l1:=h3.length_le;have l2:=h4.length_le;rw[G5] at h3;refine⟨(lbl n).length - (lbl x).length,?_,?_⟩
  ·rw[G9];omega
  ·rw[←h3];exact(Qr hx).symm
def X7 (o n:List UInt8):(upN o n).length≤256:=by have:=G2 n;simp[upN];omega
def Ob {o n:List UInt8} {k:Nat} (hk:k≤(lbl n).length - (lbl o).length):(upN o n)[k]? =some (jn ((lbl n).drop k)):=by unfold upN;rw[C3,D1 (by omega)];rfl
def Zf {n:List UInt8} (h:vld n=true):jn ((lbl n).drop 0)=n:=by rw[F4];exact(Qr h).symm
def Sf {o n:List UInt8} (h:under n o=true) {k:Nat} (hk:k≤(lbl n).length - (lbl o).length):jn ((lbl n).drop k)=o↔k=(lbl n).length - (lbl o).length:=by
 obtain⟨hn,ho,hs⟩:=C4.1 h;have hle:=hs.length_le;rw[G5] at hs;obtain⟨v1,v2⟩:=M3 hn k;constructor
 ·intro e;have:=congrArg (fun x=>(lbl x).length) e;simp only[v2,Dj] at this;omega
 ·rintro rfl;rw[←hs];exact(Qr ho).symm
def qf {o n:List UInt8} (h:under n o=true) {k:Nat} (hk:k<(lbl n).length - (lbl o).length):parentN (jn ((lbl n).drop k))=jn ((lbl n).drop (k+1))∧Zr (jn ((lbl n).drop k))=true:=by
 obtain⟨hn,ho,hs⟩:=C4.1 h;obtain⟨v1,v2⟩:=M3 hn k;have hne:jn ((lbl n).drop k)≠[46]:=by intro e;have:=(O3 v1).2 e;rw[v2] at this;have:=congrArg List.length this;simp at this;omega
 unfold parentN Zr;rw[if_pos ⟨v1,hne⟩,v2,Ew];exact⟨rfl,by simp[v1,hne]⟩
def Dd1 {o:List UInt8} (ho:vld o=true):under (parentN o) o=false:=by
 rcases Bm (under (parentN o) o) with h|h
 ·obtain⟨_,_,h2⟩:=C4.1 h;unfold parentN at h2;by_cases hr:o=[46]
  ·rw[if_neg (by simp[hr])] at h2;unfold parentN at h;rw[if_neg (by simp[hr])] at h;obtain⟨h3,_,_⟩:=C4.1 h;simp[vld,nm] at h3
  ·rw[if_pos ⟨ho,hr⟩,(M3 ho 1).2] at h2;have:=h2.length_le;have hne:lbl o≠[]:=fun e=>hr ((O3 ho).1 e);have:=Ch.2 hne;simp at*;omega
 ·exact h
def mm (l:List (List UInt8)) (i j:Nat) (h:i<j) (hj:j≤l.length):(flat (l.drop j)).length<(flat (l.drop i)).length:=by
 have e:l.drop i=(l.drop i).take (j - i)++l.drop j:=by have:=(Dq (j - i) (l.drop i)).symm;rw[Ew,show i+(j - i)=j by omega] at this;exact this
 rw[e,Qj,B0];have:0<(flat ((l.drop i).take (j - i))).length:=by
  cases hc:(l.drop i).take (j - i) with
  |nil=>
   have:=congrArg List.length hc;simp at this;omega
  |cons x r=>simp[flat];omega
 omega
def Ef9 {n a b:List UInt8} (ha:under n a=true) (hb:under n b=true):a.length<b.length↔(lbl a).length<(lbl b).length:=by
 have key:∀{a b:List UInt8},under n a=true→under n b=true→(lbl a).length<(lbl b).length→a.length<b.length:=by
  intro a b ha hb hl;obtain⟨hn,va,sa⟩:=C4.1 ha;obtain⟨_,vb,sb⟩:=C4.1 hb;have la:=sa.length_le;have lb:=sb.length_le;rw[G5] at sa sb;rw[Qr va,Qr vb];have hbne:lbl b≠[]:=fun e=>by rw[e] at hl;simp at hl
  have e2:jn (lbl b)=flat (lbl b):=by unfold jn;rw[if_neg hbne]
  rw[e2];by_cases ha0:lbl a=[]
  ·have e1:jn (lbl a)=[46]:=by unfold jn;rw[if_pos ha0]
   rw[e1];have:=Kx (Sb vb) hbne;simp;omega
  ·have e1:jn (lbl a)=flat (lbl a):=by unfold jn;rw[if_neg ha0]
   rw[e1,sa,sb];exact mm _ _ _ (by omega) (by omega)
 constructor
 ·intro h;rcases Nat.lt_or_ge (lbl a).length (lbl b).length with h1|h1
  ·exact h1
  ·rcases Nat.lt_or_eq_of_le h1 with h2|h2
   ·have:=key hb ha h2;omega
   ·obtain⟨_,va,sa⟩:=C4.1 ha;obtain⟨_,vb,sb⟩:=C4.1 hb;rw[G5] at sa sb;have:a=b:=O4 va vb (by rw[sa,sb,h2]);subst this;omega
 ·exact key ha hb
def Ep (z:Zone) (r:Rec):Bool:=decide (r.typ=2) && Ft r.name z.origin
def dj (z:Zone) (n:List UInt8):List UInt8→List Rec→List UInt8
 |b,[]=>b
 |b,r::rs=>dj z n (if Ep z r && under n r.name && (decide (b=[])||decide ((lbl r.name).length<(lbl b).length)) then r.name else b) rs
def cutN (z:Zone) (n:List UInt8):List UInt8:=dj z n [] z.recs
def Rr (z:Zone) (n:List UInt8):∀(l:List Rec) (b:List UInt8),(b=[]∨under n b=true)→
  (dj z n b l=[]→b=[]∧∀r∈l,Ep z r=true→under n r.name=false)∧
  (dj z n b l≠[]→under n (dj z n b l)=true∧(dj z n b l=b∨∃r∈l,Ep z r=true∧r.name=dj z n b l)∧(b≠[]→(lbl (dj z n b l)).length≤(lbl b).length)∧∀r∈l,Ep z r=true→under n r.name=true→(lbl (dj z n b l)).length≤(lbl r.name).length)
 |[],b,hb=>by simp only[dj];refine⟨fun h=>⟨h,fun r hr=>by simp at hr⟩,fun h=>⟨hb.resolve_left h,.inl trivial,fun _=>B7 _,fun r hr=>by simp at hr⟩⟩
 |r::rs,b,hb=>by
  simp only[dj];have hne:under n r.name=true→r.name≠[]:=fun h e=>by have:=(C4.1 h).2.1;rw[e] at this;simp[vld,nm] at this
  by_cases hc:(Ep z r && under n r.name && (decide (b=[])||decide ((lbl r.name).length<(lbl b).length)))=true
  ·rw[if_pos hc];simp only[Br,Cy,decide_eq_true_eq] at hc;obtain⟨⟨c1,c2⟩,c3⟩:=hc;obtain⟨h1,h2⟩:=Rr z n rs r.name (.inr c2);refine⟨fun h=>absurd (h1 h).1 (hne c2),fun h=> ?_⟩;obtain⟨g1,g2,g3,g4⟩:=h2 h;refine⟨g1,.inr ?_,fun hb0=> ?_,fun x hx hx1 hx2=> ?_⟩
   ·rcases g2 with g2|⟨x,hx,g2⟩
    ·exact⟨r,.head _,c1,g2.symm⟩
    ·exact⟨x,.tail _ hx,g2⟩
   ·have:=g3 (hne c2);rcases c3 with c3|c3
    ·exact absurd c3 hb0
    ·omega
   ·rcases Ck.1 hx with rfl|hx
    ·exact g3 (hne c2)
    ·exact g4 x hx hx1 hx2
  ·rw[if_neg hc];obtain⟨h1,h2⟩:=Rr z n rs b hb;have hr:Ep z r=true→under n r.name=true→b≠[]∧(lbl b).length≤(lbl r.name).length:=by intro c1 c2;simp only[c1,c2,Bool.and_self,Uz,Cy,decide_eq_true_eq,not_or,Nat.not_lt] at hc;exact hc
   refine⟨fun h=> ?_,fun h=> ?_⟩
   ·obtain⟨g1,g2⟩:=h1 h;refine⟨g1,fun x hx hx1=> ?_⟩;rcases Ck.1 hx with rfl|hx
    ·rcases Bm (under n x.name) with h3|h3
     ·exact absurd g1 (hr hx1 h3).1
     ·exact h3
    ·exact g2 x hx hx1
   ·obtain⟨g1,g2,g3,g4⟩:=h2 h;refine⟨g1,?_,g3,fun x hx hx1 hx2=> ?_⟩
    ·rcases g2 with g2|⟨x,hx,g2⟩
     ·exact .inl g2
     ·exact .inr ⟨x,.tail _ hx,g2⟩
    ·rcases Ck.1 hx with rfl|hx
     ·obtain⟨q1,q2⟩:=hr hx1 hx2;have:=g3 q1;omega
     ·exact g4 x hx hx1 hx2
def N6 (z:Zone) (n:List UInt8):Bool:=z.recs.any fun r=>Ep z r && decide (r.name≠n) && under n r.name
def K9 {a b:List UInt8} (h1:under a b=true) (h2:(lbl a).length≤(lbl b).length):a=b:=by obtain⟨va,vb,s⟩:=C4.1 h1;exact O4 va vb (s.eq_of_length_le h2).symm
def Ac4 (z:Zone) (n:List UInt8):N6 z n=(decide (cutN z n≠[]) && decide (cutN z n≠n)):=by
 obtain⟨h1,h2⟩:=Rr z n z.recs [] (.inl rfl);have e:cutN z n=dj z n [] z.recs:=rfl;rw[←e] at h1 h2;rw[D5];unfold N6;simp only[Dd,Br,decide_eq_true_eq];constructor
 ·rintro⟨r,hr,⟨c1,c2⟩,c3⟩;have hne:cutN z n≠[]:=fun h=>by have:=(h1 h).2 r hr c1;rw[c3] at this;cases this
  refine⟨hne,fun h=> ?_⟩;obtain⟨_,_,_,g4⟩:=h2 hne;have:=g4 r hr c1 c3;rw[h] at this;exact c2 (K9 c3 this).symm
 ·rintro⟨hne,hnn⟩;obtain⟨g1,g2,_,_⟩:=h2 hne;rcases g2 with g2|⟨r,hr,c1,c2⟩
  ·exact absurd g2 hne
  ·exact⟨r,hr,⟨c1,by rw[c2];exact hnn⟩,by rw[c2];exact g1⟩
def Fr9 (z:Zone):List (List UInt8):=(z.recs.filter fun r=>under r.name z.origin && !N6 z r.name).flatMap fun r=>upN z.origin r.name
def namesN (z:Zone):List (List UInt8):=setN (Fr9 z)
def El8 (z:Zone) (x:List UInt8):Prop:=∃r∈z.recs,under r.name z.origin=true∧N6 z r.name=false∧under r.name x=true∧under x z.origin=true
def Bp1 (z:Zone) (x:List UInt8):x∈Fr9 z↔El8 z x:=by
 unfold Fr9 El8;simp only[List.mem_flatMap,C5,Br,Cm];constructor
 ·rintro⟨r,⟨hr,h1,h2⟩,h3⟩;obtain⟨h4,h5⟩:=(Lz h1).1 h3;exact⟨r,hr,h1,h2,h4,h5⟩
 ·rintro⟨r,hr,h1,h2,h4,h5⟩;exact⟨r,⟨hr,h1,h2⟩,(Lz h1).2 ⟨h4,h5⟩⟩
def Bc9 (z:Zone) (l:List (List UInt8)) (h:∀x,x∈l↔El8 z x):setN l=namesN z:=
 Yg to_N _ _ (Rv _) (Rv _) fun x=>by rw[M7,h,namesN,M7,Bp1]
def U7 (z:Zone) (x:List UInt8):x∈namesN z↔El8 z x:=by unfold namesN;rw[M7,Bp1]
end Go.X.G
/- Zones by the names of their records: groups of a sorted list, in plain words. -/
namespace Go.X.G
open Go Go.X
def Dn3 {α:Type} {lt:α→α→Prop}:∀(p q:List α),p<+:q→p≠q→lex lt p q
 |[],[],_,h=>absurd rfl h
 |[],_::_,_,_=>trivial
 |a::p,[],h,_=>by simp at h
 |a::p,b::q,h,hne=>by obtain⟨rfl,hpq⟩:=Pm.1 h;exact .inr ⟨rfl,Dn3 p q hpq fun e=>hne (by rw[e])⟩
def Dn4 {α:Type} {lt:α→α→Prop} (ht:TO lt):∀(p q x:List α),p<+:q→¬lex lt x p→¬lex lt q x→p<+:x
 |[],_,_,_,_,_=>List.nil_prefix
 |a::p,[],_,h,_,_=>by simp at h
 |a::p,b::q,[],_,h,_=>absurd trivial h
 |a::p,b::q,c::x,h,h1,h2=>by
  obtain⟨rfl,hpq⟩:=Pm.1 h;simp only[lex,not_or,not_and] at h1 h2;have e:a=c:=by
   rcases ht.tri a c with k|k|k
   ·exact absurd k h2.1
   ·exact k
   ·exact absurd k h1.1
  subst e;exact Pm.2 ⟨rfl,Dn4 ht p q x hpq (h1.2 rfl) (h2.2 rfl)⟩
def Gs1 {a b:List UInt8} (ha:vld a=true) (hb:vld b=true):ltN a b↔ltL (lbl a).reverse (lbl b).reverse:=by unfold ltN;rw[if_pos ha,if_pos hb]
def qg {n top:List UInt8} (h:under n top=true):(lbl top).reverse<+:(lbl n).reverse:=List.reverse_prefix.2 (C4.1 h).2.2
def Ep0 {n top:List UInt8} (h:under n top=true) (hne:n≠top):ltN top n:=by obtain⟨h1,h2,h3⟩:=C4.1 h;rw[Gs1 h2 h1];refine Dn3 _ _ (qg h) fun e=>hne ?_;exact(O4 h2 h1 (List.reverse_inj.1 e)).symm
def Cp8 {d x n:List UInt8} (hx:vld x=true) (h:under n d=true) (h1:¬ltN x d) (h2:¬ltN n x):under x d=true:=by obtain⟨k1,k2,k3⟩:=C4.1 h;rw[Gs1 hx k2] at h1;rw[Gs1 k1 hx] at h2;exact C4.2 ⟨hx,k2,List.reverse_prefix.1 (Dn4 El4 _ _ _ (qg h) h1 h2)⟩
def Cl1 {a b c:List UInt8} (h1:under a b=true) (h2:under b c=true):under a c=true:=by obtain⟨a1,a2,a3⟩:=C4.1 h1;obtain⟨b1,b2,b3⟩:=C4.1 h2;exact C4.2 ⟨a1,b2,b3.trans a3⟩
def cr (p:List Rec):List Rec→List (List Rec)
 |[]=>[]
 |x::r=>if(match r with|[]=>true|y::_=> !decide (y.name=x.name))=true then(p++[x])::cr [] r else cr (p++[x]) r
def grp (l:List Rec):List (List Rec):=cr [] l
def nmG (g:List Rec):List UInt8:=match g with|[]=>[]|x::_=>x.name
def xr (n:List UInt8):∀(r p:List Rec) (x:Rec),x.name=n→(∀y∈p,y.name=n)→∃g l',x::r=g++l'∧g≠[]∧(∀y∈g,y.name=n)∧(∀y,l'.head? =some y→y.name≠n)∧cr p (x::r)=(p++g)::grp l'
 |[],p,x,hx,hp=>⟨[x],[],rfl,by simp,by simpa using hx,by simp,rfl⟩
 |y::r,p,x,hx,hp=>by
  by_cases h:y.name=x.name
  ·obtain⟨g,l',h1,h2,h3,h4,h5⟩:=xr n r (p++[x]) y (by rw[h,hx]) (fun w hw=>by
    rcases C8.1 hw with hw|hw
    ·exact hp w hw
    ·have:w=x:=by simpa using hw
     rw[this,hx])
   refine⟨x::g,l',by rw[h1];rfl,by simp,fun w hw=> ?_,h4,?_⟩
   ·rcases Ck.1 hw with rfl|hw
    ·exact hx
    ·exact h3 w hw
   ·rw[cr,if_neg (by simp[h]),h5];simp
  ·refine⟨[x],y::r,rfl,by simp,by simpa using hx,fun w hw=> ?_,?_⟩
   ·simp at hw;subst hw;rw[←hx];exact h
   ·rw[cr,if_pos (by simp[h])];rfl
def Xb (x:Rec) (r:List Rec):∃g l',x::r=g++l'∧g≠[]∧(∀y∈g,y.name=x.name)∧(∀y,l'.head? =some y→y.name≠x.name)∧grp (x::r)=g::grp l':=by obtain⟨g,l',h1,h2,h3,h4,h5⟩:=xr x.name r [] x rfl (by simp);exact⟨g,l',h1,h2,h3,h4,by rw[grp,h5];rfl⟩
def Gq2 {g:List Rec} {n:List UInt8} (h:g≠[]) (h2:∀y∈g,y.name=n):nmG g=n:=by
 cases g with
 |nil=>exact absurd rfl h
 |cons x r=>exact h2 x (.head _)
abbrev Iv3 (l:List Rec):Prop:=l.Pairwise fun a b=>¬ltN b.name a.name
def Iq (g:List Rec) (t:Int):Bool:=g.any fun r=>decide (r.typ=t)
def Ls (g:List Rec) (ts:List Int):Bool:=g.all fun r=>decide (r.typ∈ts)
def db (p:Rec):List Rec→Bool
 |[]=>true
 |x::r=>(!decide (x.typ=p.typ)||(!(decide (x.typ=6)||decide (x.typ=5)||decide (x.typ=39)) && (decide (x.typ=46)||decide (x.ttl=p.ttl)))) && db x r
def El3 (g:List Rec):Bool:=match g with|[]=>true|x::r=>db x r
def propG (o:List UInt8) (g:List Rec) (cut red:Bool):Bool:=
 under (nmG g) o && (decide (Iq g 6=decide (nmG g=o))) && El3 g && (!decide (nmG g=o)||Iq g 2) && (!Iq g 5||Ls g [5,46,47]) && !red && (!cut||Ls g [1,28]) &&
  (if(!decide (nmG g=o) && Iq g 2)=true then Ls g [2,43,47,46,1,28] else !Iq g 43) && (!decide ((nmG g)[0]? =some 42)||(!Iq g 2 && !Iq g 39))
def F2 (n c:List UInt8):List UInt8:=if c≠[]∧under n c=false then [] else c
def Ag1 (o:List UInt8):List (List Rec)→List UInt8→List UInt8→Bool→Bool
 |[],_,_,soa=>soa
 |g::gs,cut,red,soa=>
  if propG o g (decide (F2 (nmG g) cut≠[])) (decide (F2 (nmG g) red≠[]))=true then
   Ag1 o gs (if F2 (nmG g) cut=[]∧nmG g≠o∧Iq g 2=true then nmG g else F2 (nmG g) cut) (if Iq g 39=true then nmG g else F2 (nmG g) red) (soa||decide (nmG g=o))
  else false
def Gn2 (z:Zone) (n:List UInt8):Bool:=z.recs.any fun r=>decide (r.typ=39) && Ft n r.name
def s9 (z:Zone) (g:List Rec):Bool:=propG z.origin g (N6 z (nmG g)) (Gn2 z (nmG g))
def Ak6 {n:List UInt8} (h:vld n=true):n≠[]:=fun e=>by
 subst e;have:vld []=false:=by decide
 rw[this] at h;cases h
structure GInv (z:Zone) (done l:List Rec) (cut red:List UInt8):Prop where
 cut1:cut≠[]→∃r∈done,Ep z r=true∧r.name=cut
 cut2:∀m∈l,∀r∈done,Ep z r=true→under m.name r.name=true→cut≠[]∧under m.name cut=true
 red1:red≠[]→∃r∈done,r.typ=39∧r.name=red
 red2:∀m∈l,∀r∈done,r.typ=39→under m.name r.name=true→red≠[]∧under m.name red=true
def Ax5 {o:List UInt8} {g:List Rec} {c r:Bool} (h:propG o g c r=true):under (nmG g) o=true∧r=false:=by unfold propG at h;simp only[Br,Cm] at h;exact⟨h.1.1.1.1.1.1.1.1,h.1.1.1.2⟩
def Bl4 (z:Zone) (hv:∀r∈z.recs,vld r.name=true) (hs:Iv3 z.recs):∀(n:Nat) (done l:List Rec) (cut red:List UInt8) (soa:Bool),l.length≤n→z.recs=done++l→(∀a∈done,∀b∈l,ltN a.name b.name)→GInv z done l cut red→
  (Ag1 z.origin (grp l) cut red soa=true↔(∀g∈grp l,s9 z g=true)∧(soa=true∨∃r∈l,r.name=z.origin))
 |n,done,[],cut,red,soa,_,_,_,_=>by simp[grp,cr,Ag1]
 |0,done,x::r,cut,red,soa,hn,_,_,_=>by simp at hn
 |n+1,done,x::r,cut,red,soa,hn,hz,hlt,hI=>by
  obtain⟨g,l',h1,h2,h3,h4,h5⟩:=Xb x r;have hnm:nmG g=x.name:=Gq2 h2 h3;have hmem:∀y∈g,y∈x::r:=fun y hy=>by rw[h1];exact D6 _ hy
  have hmem':∀y∈l',y∈x::r:=fun y hy=>by rw[h1];exact Dv _ hy
  have hzx:∀y∈x::r,y∈z.recs:=fun y hy=>by rw[hz];exact Dv _ hy
  have hvx:vld x.name=true:=hv x (hzx x (.head _));have hgl:∀b∈l',ltN x.name b.name:=by
   have hs2:Iv3 (g++l'):=by rw[←h1];have:=hs;rw[hz] at this;exact(G8.1 this).2.1
   have hs3:=G8.1 hs2;cases l' with
   |nil=>intro b hb;cases hb
   |cons y l''=>
    have hy:ltN x.name y.name:=by
     obtain⟨w,hw⟩:=Hp g h2;have k:=hs3.2.2 w hw y (.head _);rw[h3 w hw] at k;rcases to_N.tri x.name y.name with q|q|q
     ·exact q
     ·exact absurd q.symm (h4 y rfl)
     ·exact absurd q k
    intro b hb;rcases Ck.1 hb with rfl|hb
    ·exact hy
    ·have k:=(Cf.1 hs3.2.1).1 b hb;rcases to_N.tri y.name b.name with q|q|q
     ·exact to_N.tr _ _ _ hy q
     ·rw[←q];exact hy
     ·exact absurd q k
  have habove:∀w∈z.recs,under x.name w.name=true→x.name≠w.name→w∈done:=fun w hw hu hne=>by
   rw[hz] at hw;rcases C8.1 hw with hw|hw
   ·exact hw
   ·exfalso;have k:=Ep0 hu hne;rw[h1] at hw;rcases C8.1 hw with hw|hw
    ·exact hne (h3 w hw).symm
    ·exact to_N.asym k (hgl w hw)
  have hcut:decide (F2 x.name cut≠[])=N6 z x.name:=by
   rw[D5,decide_eq_true_eq];unfold N6 F2;rw[Dd];constructor
   ·intro k;have c0:cut≠[]:=fun e=>by rw[e] at k;simp at k
    have c1:under x.name cut=true:=by
     rcases Bm (under x.name cut) with q|q
     ·exact q
     ·rw[if_pos ⟨c0,q⟩] at k;exact absurd rfl k
    obtain⟨w,w1,w2,w3⟩:=hI.cut1 c0;refine⟨w,by rw[hz];exact D6 _ w1,?_⟩;have:w.name≠x.name:=fun e=>to_N.irr _ (by have:=hlt w w1 x (.head _);rw[e] at this;exact this);rw[w2,w3];rw[w3] at this;simp[this,c1]
   ·rintro⟨w,w1,w2⟩;simp only[Br,decide_eq_true_eq] at w2;have wd:=habove w w1 w2.2 (fun e=>w2.1.2 e.symm);obtain⟨c0,c1⟩:=hI.cut2 x (.head _) w wd w2.1.1 w2.2;rw[if_neg (by simp[c1])];exact c0
  have hred:decide (F2 x.name red≠[])=Gn2 z x.name:=by
   rw[D5,decide_eq_true_eq];unfold Gn2 F2 Ft;rw[Dd];constructor
   ·intro k;have c0:red≠[]:=fun e=>by rw[e] at k;simp at k
    have c1:under x.name red=true:=by
     rcases Bm (under x.name red) with q|q
     ·exact q
     ·rw[if_pos ⟨c0,q⟩] at k;exact absurd rfl k
    obtain⟨w,w1,w2,w3⟩:=hI.red1 c0;refine⟨w,by rw[hz];exact D6 _ w1,?_⟩;have:x.name≠w.name:=fun e=>to_N.irr _ (by have:=hlt w w1 x (.head _);rw[e] at this;exact this);rw[w3] at this ⊢;simp[this,c1,w2]
   ·rintro⟨w,w1,w2⟩;simp only[Br,decide_eq_true_eq] at w2;have wd:=habove w w1 w2.2.2 w2.2.1;obtain⟨c0,c1⟩:=hI.red2 x (.head _) w wd w2.1 w2.2.2;rw[if_neg (by simp[c1])];exact c0
  have hex:(∃w∈x::r,w.name=z.origin)↔(x.name=z.origin∨∃w∈l',w.name=z.origin):=by
   rw[h1];constructor
   ·rintro⟨w,w1,w2⟩;rcases C8.1 w1 with w1|w1
    ·exact .inl (by rw[←h3 w w1];exact w2)
    ·exact .inr ⟨w,w1,w2⟩
   ·rintro (k|⟨w,w1,w2⟩)
    ·obtain⟨w,hw⟩:=Hp g h2;exact⟨w,D6 _ hw,by rw[h3 w hw];exact k⟩
    ·exact⟨w,Dv _ w1,w2⟩
  rw[h5,hex];simp only[Ag1,hnm,Ck,forall_eq_or_imp];have hp0:s9 z g=propG z.origin g (N6 z x.name) (Gn2 z x.name):=by unfold s9;rw[hnm]
  rw[hp0];rw[hcut,hred];by_cases hp:propG z.origin g (N6 z x.name) (Gn2 z x.name)=true
  ·rw[if_pos hp];obtain⟨pu,pr⟩:=Ax5 hp;rw[hnm] at pu;have hlen:=congrArg List.length h1;have hg0:0<g.length:=Ch.2 h2;simp only[B0,Cj] at hlen hn;have hmid:∀m∈l',∀w∈done,under m.name w.name=true→under x.name w.name=true:=fun m hm w hw hu=>
    Cp8 hvx hu (fun k=>to_N.asym (hlt w hw x (.head _)) k) (fun k=>to_N.asym (hgl m hm) k)
   have hredE:F2 x.name red=[]:=by have:=hred;rw[pr] at this;simpa using this
   have ih:=Bl4 z hv hs n (done++g) l' (if F2 x.name cut=[]∧x.name≠z.origin∧Iq g 2=true then x.name else F2 x.name cut) (if Iq g 39=true then x.name else F2 x.name red) (soa||decide (x.name=z.origin)) (by omega) (by rw[hz,h1,Cv])
    (fun a ha b hb=>by
     rcases C8.1 ha with ha|ha
     ·exact hlt a ha b (hmem' b hb)
     ·rw[h3 a ha];exact hgl b hb)
    ⟨?_,?_,?_,?_⟩
   ·rw[ih];simp only[Cy,decide_eq_true_eq,hp,true_and];constructor
    ·rintro⟨k1,(k2|k2)|k2⟩
     ·exact⟨k1,.inl k2⟩
     ·exact⟨k1,.inr (.inl k2)⟩
     ·exact⟨k1,.inr (.inr k2)⟩
    ·rintro⟨k1,k2|k2|k2⟩
     ·exact⟨k1,.inl (.inl k2)⟩
     ·exact⟨k1,.inl (.inr k2)⟩
     ·exact⟨k1,.inr k2⟩
   ·-- the cut is one
    intro k;by_cases c:F2 x.name cut=[]∧x.name≠z.origin∧Iq g 2=true
    ·rw[if_pos c];obtain⟨w,w1,w2⟩:=Dd.1 c.2.2;simp only[decide_eq_true_eq] at w2;refine⟨w,Dv _ w1,?_,h3 w w1⟩;unfold Ep Ft;rw[h3 w w1];simp[w2,pu,c.2.1]
    ·rw[if_neg c] at k ⊢;have c0:cut≠[]:=fun e=>by rw[e] at k;simp[F2] at k
     have c1:F2 x.name cut=cut:=by
      unfold F2 at k ⊢;by_cases q:cut≠[]∧under x.name cut=false
      ·rw[if_pos q] at k;exact absurd rfl k
      ·rw[if_neg q]
     rw[c1];obtain⟨w,w1,w2⟩:=hI.cut1 c0;exact⟨w,D6 _ w1,w2⟩
   ·intro m hm w hw hc hu;rcases C8.1 hw with hw|hw
    ·have hxu:=hmid m hm w hw hu;obtain⟨c0,c1⟩:=hI.cut2 x (.head _) w hw hc hxu;obtain⟨_,c2⟩:=hI.cut2 m (hmem' m hm) w hw hc hu;have c3:F2 x.name cut=cut:=by unfold F2;rw[if_neg (by simp[c1])]
     rw[c3,if_neg (by simp[c0])];exact⟨c0,c2⟩
    ·rw[h3 w hw] at hu;have hc':=hc;unfold Ep Ft at hc';rw[h3 w hw] at hc';simp only[Br,decide_eq_true_eq] at hc';have hns:Iq g 2=true:=Dd.2 ⟨w,hw,by simp[hc'.1]⟩;by_cases c:F2 x.name cut=[]
     ·rw[if_pos ⟨c,hc'.2.1,hns⟩];exact⟨Ak6 hvx,hu⟩
     ·rw[if_neg (by simp[c])];have q:¬(cut≠[]∧under x.name cut=false):=fun q=>c (by unfold F2;rw[if_pos q]);have c1:F2 x.name cut=cut:=by unfold F2;rw[if_neg q]
      rw[c1] at c ⊢;have c2:under x.name cut=true:=by
       rcases Bm (under x.name cut) with k|k
       ·exact k
       ·exact absurd ⟨c,k⟩ q
      exact⟨c,Cl1 hu c2⟩
   ·intro k;rw[hredE] at k ⊢;by_cases c:Iq g 39=true
    ·rw[if_pos c];obtain⟨w,w1,w2⟩:=Dd.1 c;simp only[decide_eq_true_eq] at w2;exact⟨w,Dv _ w1,w2,h3 w w1⟩
    ·rw[if_neg c] at k;exact absurd rfl k
   ·intro m hm w hw hc hu;rcases C8.1 hw with hw|hw
    ·exfalso;have hxu:=hmid m hm w hw hu;obtain⟨c0,c1⟩:=hI.red2 x (.head _) w hw hc hxu;have:F2 x.name red=red:=by unfold F2;rw[if_neg (by simp[c1])]
     rw[this] at hredE;exact c0 hredE
    ·rw[h3 w hw] at hu;have hd:Iq g 39=true:=Dd.2 ⟨w,hw,by simp[hc]⟩;rw[if_pos hd];exact⟨Ak6 hvx,hu⟩
  ·rw[if_neg hp];simp[hp]
end Go.X.G
