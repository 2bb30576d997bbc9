/- Questions and messages. -/
import Derived.Test.YtpnpdfkkjhgkfaaGreatDoorProveSigsG10
import Derived.Test.YtpnpdfkkjhgkfaaGreatDoorProveSigsG9
open Bool renaming eq_false_or_eq_true→Aq,and_eq_true→Ay,false_eq_true→Ad,or_eq_true→A0,not_eq_true'→Br,eq_iff_iff→Ds,and_true→Od,not_true→d8,false_or→d9,true_and→Ey4
open Int renaming le_refl→Gp4
open List renaming getElem?_eq_some_iff→Av,getElem?_eq_getElem→Az,length_append→Ab,append_assoc→Am,mem_cons→An,mem_of_getElem?→Ar,length_take→As,getElem?_append_right→A3,length_cons→A5,getElem?_drop→A7,eq_nil_of_length_eq_zero→Bw,pairwise_cons→By,length_nil→Bz,getElem?_map→Bc,length_pos_iff→Bf,length_drop→Bn,take_append_drop→Bs,cons_append→B0,getElem?_cons_zero→B3,mem_append→B4,nil_append→Cj,take_add_one→Ck,all_eq_true→Cy,drop_eq_getElem_cons→Cf,drop_drop→Cm,getElem?_cons_succ→C5,take_of_length_le→Dj,take_length→Dv,append_nil→Dw,mem_filter→Dp,length_map→Dr,getElem?_of_mem→Dt,filter_cons_of_pos→D6,flatMap_cons→D9,mem_map→Eb,getElem_mem→Ep,filter_append→Fj,length_filter_le→Ft,mem_of_mem_drop→Gx,map_cons→Gp,getLast_eq_getElem→Is,set_append_right→Lx,pairwise_append→M1,drop_set_of_lt→Qx,suffix_iff_eq_drop→Q2,filter_cons_of_neg→Q3,filter_cons→Q4,getElem?_set_self→Vt,filter_eq_nil_iff→V0,drop_of_length_le→V1,length_mergeSort→fq,getElem_take→lr,map_append→Fz9,foldl_cons→Fb0
open Nat renaming le_refl→Af,zero_le→B9,le_trans→Cl,add_zero→C9,zero_add→D3,min_eq_left→I8
open Option renaming bind_some→Ax,map_some→A4,isSome_none→Vr
open Option.some renaming injEq→Ak
set_option maxHeartbeats 1000000
set_option linter.defProp false
set_option linter.unusedVariables false
set_option linter.unusedSimpArgs false
namespace Go.X
open Go
structure Ques where
 name:List UInt8
 typ:Int
 deriving DecidableEq
structure Msg where
 id:Int
 op:Int
 code:Int
 resp:Bool
 aa:Bool
 tc:Bool
 rd:Bool
 ra:Bool
 ad:Bool
 cd:Bool
 dok:Bool
 size:Int
 q:Ques
 ans:List Rec
 auth:List Rec
 ext:List Rec
 deriving DecidableEq
structure Ques.wf (x:Ques):Prop where
 name:Mc x.name
 typ:ez x.typ
structure Msg.wf (m:Msg):Prop where
 id:ez m.id
 op:ez m.op
 code:ez m.code
 size:ez m.size
 q:m.q.wf
 ans:gf m.ans
 auth:gf m.auth
 ext:gf m.ext
def Ques.cells (x:Ques):List PV:=[.s x.name, .i .i64 x.typ]
def Ques.pv (x:Ques):PV:= .a x.cells
def Msg.cells (m:Msg):List PV:= .i .i64 m.id:: .i .i64 m.op:: .i .i64 m.code:: .b m.resp:: .b m.aa:: .b m.tc:: .b m.rd:: .b m.ra:: .b m.ad:: .b m.cd:: .b m.dok:: .i .i64 m.size:: .s m.q.name:: .i .i64 m.q.typ::Ag m.ans::Ag m.auth::Ag m.ext::[]
def Msg.pv (m:Msg):PV:= .a m.cells
def Ap0 (m:Msg):Bh 0 m.pv=some (.i .i64 m.id):=rfl
def An9 (m:Msg):Bh 1 m.pv=some (.i .i64 m.op):=rfl
def An8 (m:Msg):Bh 2 m.pv=some (.i .i64 m.code):=rfl
def An7 (m:Msg):Bh 3 m.pv=some (.b m.resp):=rfl
def An6 (m:Msg):Bh 4 m.pv=some (.b m.aa):=rfl
def An5 (m:Msg):Bh 5 m.pv=some (.b m.tc):=rfl
def An4 (m:Msg):Bh 6 m.pv=some (.b m.rd):=rfl
def An3 (m:Msg):Bh 7 m.pv=some (.b m.ra):=rfl
def An2 (m:Msg):Bh 8 m.pv=some (.b m.ad):=rfl
def An1 (m:Msg):Bh 9 m.pv=some (.b m.cd):=rfl
def xz (m:Msg):Bh 10 m.pv=some (.b m.dok):=rfl
def xy (m:Msg):Bh 11 m.pv=some (.i .i64 m.size):=rfl
def xw (m:Msg):Bh 12 m.pv=some (.s m.q.name):=rfl
def xv (m:Msg):Bh 13 m.pv=some (.i .i64 m.q.typ):=rfl
def xq (m:Msg):Bh 14 m.pv=some (Ag m.ans):=rfl
def xk (m:Msg):Bh 15 m.pv=some (Ag m.auth):=rfl
def xj (m:Msg):Bh 16 m.pv=some (Ag m.ext):=rfl
def Dh8 (m:Msg):Jn 0 17 m.pv=some m.pv:=rfl
def Ds5 (m:Msg):P4 17 m.pv=some m.pv:=rfl
def Ab7 (m:Msg):Jn 12 2 m.pv=some m.q.pv:=rfl
def Fm4 (x:Ques):Jn 0 2 x.pv=some x.pv:=rfl
def Gl9 (x:Ques):P4 2 x.pv=some x.pv:=rfl
def Dm5 (x:Ques):Bh 0 x.pv=some (.s x.name):=rfl
def Dm4 (x:Ques):Bh 1 x.pv=some (.i .i64 x.typ):=rfl
def Fv0 (n:List UInt8) (t:Int):PV.a [.s n, .i .i64 t]=Ques.pv ⟨n,t⟩:=rfl
def Gm5 (x:Ques):(⟨x.name,x.typ⟩:Ques)=x:=rfl
def Cp6 (x0 x1 x2:Int) (b0 b1 b2 b3 b4 b5 b6 b7:Bool) (x3:Int) (n:List UInt8) (t:Int) (l0 l1 l2:List Rec):PV.a [.i .i64 x0, .i .i64 x1, .i .i64 x2, .b b0, .b b1, .b b2, .b b3, .b b4, .b b5, .b b6, .b b7, .i .i64 x3, .s n, .i .i64 t,Ag l0,Ag l1,Ag l2]=Msg.pv ⟨x0,x1,x2,b0,b1,b2,b3,b4,b5,b6,b7,x3,⟨n,t⟩,l0,l1,l2⟩:=rfl
def Gs6 (neg:Bool) (x y:Ques):K4 neg true [.s,(.i .i64)] x.pv y.pv=some (.b (if neg then decide (x≠y) else decide (x=y))):=by
 have:Gq [.s,(.i .i64)] x.cells y.cells=some (decide (x=y)):=by simp only [Ques.cells,Gq,Br8,if_true,Ak];rw [Ds];cases x;cases y;simp
 simp only [K4,Ques.pv,this,A4];cases neg<;>simp
set_option linter.defProp false in
def EVM:=(And.intro @Ap0 (And.intro @An9 (And.intro @An8 (And.intro @An7 (And.intro @An6 (And.intro @An5 (And.intro @An4 (And.intro @An3 (And.intro @An2 (And.intro @An1 (And.intro @xz (And.intro @xy (And.intro @xw (And.intro @xv (And.intro @xq (And.intro @xk (And.intro @xj (And.intro @Dh8 (And.intro @Ds5 (And.intro @Ab7 (And.intro @Fm4 (And.intro @Gl9 (And.intro @Dm5 (And.intro @Dm4 (And.intro @Fv0 (And.intro @Gm5 (And.intro @Cp6 @Gs6)))))))))))))))))))))))))))
end Go.X
/- Closures and sets of strings, evaluated. -/
namespace Go.X
open Go
def Fc8 (fn:Fns) (η:List PV) (fl:Bool) (ar:List E) (m:Nat):PV→Option (List PV)
 | .f f caps=>(E.evs η ar).bind fun vs=>results fl m η (fn f vs.length (vs++caps))
 |_=>none
def mw {fn:Fns} {η:List PV} (fl:Bool) (c:E) (ar:List E) (m:Nat):W.ev fn η (.clo none fl c ar m)=(c.ev η).bind (Fc8 fn η fl ar m):=by
 rw [Dg1];congr 1;funext q;cases q with
 |f f caps=>rfl
 |_=>cases h:E.evs η ar<;>rfl
def Fy7 {fn:Fns} {η:List PV} (fl:Bool) (ar:List E) (m:Nat) (f:Nat) (caps:List PV):Fc8 fn η fl ar m (.f f caps)=(E.evs η ar).bind fun vs=>results fl m η (fn f vs.length (vs++caps)):=rfl
def En6 (f:Nat) (caps:List PV):Bh 0 (.f f caps)=some (.f f caps):=rfl
def Ef7 (f:Nat) (caps:List PV):H3 (.f f caps)=some (.f f caps):=rfl
def Mj (ks:List (List UInt8)):PV:= .m (ks.map fun k=>(.s k, .b true))
def Dl7:PV.m []=Mj []:=rfl
def Cg3 (ks:List (List UInt8)):Bh 0 (Mj ks)=some (Mj ks):=rfl
def Cd7 (ks:List (List UInt8)):H3 (Mj ks)=some (Mj ks):=rfl
def bf (k:List UInt8):∀ks:List (List UInt8),Xw (.s k) (ks.map fun k=>(.s k, .b true))=some (if k∈ks then some (.b true) else none)
 |[]=>by simp [Xw]
 |x::ks=>by
  simp only [Gp,Xw,b8];by_cases h:k=x
  ·subst h;simp
  ·have h2:(k==x)=false:=by simpa using h
   rw [h2];simp only [bf k ks,An,h,false_or]
def pg (k:List UInt8):∀ks:List (List UInt8),Dv2 (.s k) (.b true) (ks.map fun k=>(.s k, .b true))=some ((if k∈ks then ks else ks++[k]).map fun k=>(.s k, .b true))
 |[]=>by simp [Dv2]
 |x::ks=>by
  simp only [Gp,Dv2,b8];by_cases h:k=x
  ·subst h;simp
  ·have h2:(k==x)=false:=by simpa using h
   rw [h2];simp only [pg k ks,An,h,false_or,A4];by_cases h3:k∈ks<;>simp [h3]
def Cl9 (k:List UInt8) (ks:List (List UInt8)):bd (Mj ks) (.s k) (.b false)=some (.b (decide (k∈ks))):=by simp only [bd,Mj,Bz7,if_true,bf,A4];by_cases h:k∈ks<;>simp [h]
def Cl7 (k:List UInt8) (ks:List (List UInt8)):bz (Mj ks) (.s k) (.b true)=some (Mj (if k∈ks then ks else ks++[k])):=by simp only [bz,Mj,Bz7,if_true,pg,A4]
def Bw8 (a b:List Rec):L6 1 [Ag a,Ag b]=some (.l 1 ([a,b].map Ag)):=rfl
def Fy6 (fn:Fns) (η:List PV) (fl:Bool) (c:E) (ar:List E) (m:Nat):PV→Option (List PV)
 | .b true=>(c.ev η).bind (Fc8 fn η fl ar m)
 | .b false=>some (η++List.replicate m .u)
 |_=>none
def I1 {fn:Fns} {η:List PV} (g:E) (fl:Bool) (c:E) (ar:List E) (m:Nat):W.ev fn η (.clo (some g) fl c ar m)=(g.ev η).bind (Fy6 fn η fl c ar m):=by
 have h:=mw (fn:=fn) (η:=η) fl c ar m;simp only [W.ev,E3] at h ⊢;congr 1;funext q;cases q with
 |b x=>cases x with
  |true=>exact h
  |false=>rfl
 |_=>rfl
def K8 (fn:Fns) (η:List PV) (fl:Bool) (c:E) (ar:List E) (m:Nat) (x:Bool):Fy6 fn η fl c ar m (.b x)=if x=true then (c.ev η).bind (Fc8 fn η fl ar m) else some (η++List.replicate m .u):=by cases x<;>rfl
set_option linter.defProp false in
def EVC:=(And.intro @mw (And.intro @Fy7 (And.intro @En6 (And.intro @Ef7 (And.intro @Dl7 (And.intro @Cg3 (And.intro @Cd7 (And.intro @Cl9 (And.intro @Cl7 @Bw8)))))))))
end Go.X
/- Addresses and tasks. -/
namespace Go.X
structure Adr where
 v6:Bool
 hi:Int
 lo:Int
 deriving DecidableEq
structure Tk where
 q:Ques
 name:List UInt8
 zone:List UInt8
 hosts:List (List UInt8)
 addrs:List Adr
 tried:List Adr
 state:Int
 more:Int
 dst:Adr
 asked:Ques
 sent:Int
 chain:List Rec
 last:Msg
 err:Int
def Adr.pv (x:Adr):PV:= .a [.b x.v6, .i .u64 x.hi, .i .u64 x.lo]
def Fv (l:List Adr):PV:= .l 3 (l.map Adr.pv)
def Dat.adr (d:Dat):Adr:=⟨d.v6,d.hi,d.lo⟩
def Tk.cells (t:Tk):List PV:=[.s t.q.name, .i .i64 t.q.typ, .s t.name, .s t.zone,Bv t.hosts,Fv t.addrs,Fv t.tried, .i .i64 t.state, .i .i64 t.more, .b t.dst.v6, .i .u64 t.dst.hi, .i .u64 t.dst.lo, .s t.asked.name, .i .i64 t.asked.typ, .i .i64 t.sent,Ag t.chain, .i .i64 t.last.id, .i .i64 t.last.op, .i .i64 t.last.code, .b t.last.resp, .b t.last.aa, .b t.last.tc, .b t.last.rd, .b t.last.ra, .b t.last.ad, .b t.last.cd, .b t.last.dok, .i .i64 t.last.size, .s t.last.q.name, .i .i64 t.last.q.typ,Ag t.last.ans,Ag t.last.auth,Ag t.last.ext, .i .i64 t.err]
def Tk.pv (t:Tk):PV:= .a t.cells
def Cg2 (t:Tk):Bh 0 t.pv=some (.s t.q.name):=rfl
def Cg1 (t:Tk):Bh 1 t.pv=some (.i .i64 t.q.typ):=rfl
def Cg0 (t:Tk):Bh 2 t.pv=some (.s t.name):=rfl
def Cf9 (t:Tk):Bh 3 t.pv=some (.s t.zone):=rfl
def Cf8 (t:Tk):Bh 4 t.pv=some (Bv t.hosts):=rfl
def Cf7 (t:Tk):Bh 5 t.pv=some (Fv t.addrs):=rfl
def Cf6 (t:Tk):Bh 6 t.pv=some (Fv t.tried):=rfl
def Cf5 (t:Tk):Bh 7 t.pv=some (.i .i64 t.state):=rfl
def Cf4 (t:Tk):Bh 8 t.pv=some (.i .i64 t.more):=rfl
def Cf3 (t:Tk):Bh 9 t.pv=some (.b t.dst.v6):=rfl
def Al4 (t:Tk):Bh 10 t.pv=some (.i .u64 t.dst.hi):=rfl
def Al3 (t:Tk):Bh 11 t.pv=some (.i .u64 t.dst.lo):=rfl
def Al2 (t:Tk):Bh 12 t.pv=some (.s t.asked.name):=rfl
def Al1 (t:Tk):Bh 13 t.pv=some (.i .i64 t.asked.typ):=rfl
def Al0 (t:Tk):Bh 14 t.pv=some (.i .i64 t.sent):=rfl
def Ah9 (t:Tk):Bh 15 t.pv=some (Ag t.chain):=rfl
def Ah8 (t:Tk):Bh 16 t.pv=some (.i .i64 t.last.id):=rfl
def Ah7 (t:Tk):Bh 17 t.pv=some (.i .i64 t.last.op):=rfl
def Ah6 (t:Tk):Bh 18 t.pv=some (.i .i64 t.last.code):=rfl
def Ah5 (t:Tk):Bh 19 t.pv=some (.b t.last.resp):=rfl
def Ah4 (t:Tk):Bh 20 t.pv=some (.b t.last.aa):=rfl
def Ah3 (t:Tk):Bh 21 t.pv=some (.b t.last.tc):=rfl
def Ah2 (t:Tk):Bh 22 t.pv=some (.b t.last.rd):=rfl
def Ah1 (t:Tk):Bh 23 t.pv=some (.b t.last.ra):=rfl
def Ah0 (t:Tk):Bh 24 t.pv=some (.b t.last.ad):=rfl
def Ag9 (t:Tk):Bh 25 t.pv=some (.b t.last.cd):=rfl
def Ag8 (t:Tk):Bh 26 t.pv=some (.b t.last.dok):=rfl
def Ag7 (t:Tk):Bh 27 t.pv=some (.i .i64 t.last.size):=rfl
def Ag6 (t:Tk):Bh 28 t.pv=some (.s t.last.q.name):=rfl
def Ag5 (t:Tk):Bh 29 t.pv=some (.i .i64 t.last.q.typ):=rfl
def Ag4 (t:Tk):Bh 30 t.pv=some (Ag t.last.ans):=rfl
def Ag3 (t:Tk):Bh 31 t.pv=some (Ag t.last.auth):=rfl
def Ag2 (t:Tk):Bh 32 t.pv=some (Ag t.last.ext):=rfl
def Ag1 (t:Tk):Bh 33 t.pv=some (.i .i64 t.err):=rfl
def Ed5 (t:Tk):Jn 0 34 t.pv=some t.pv:=rfl
def Fv5 (t:Tk):P4 34 t.pv=some t.pv:=rfl
def u5 (t:Tk):Jn 9 3 t.pv=some t.dst.pv:=rfl
def Y8 (t:Tk):Jn 12 2 t.pv=some t.asked.pv:=rfl
def Cb6 (t:Tk):Jn 0 2 t.pv=some t.q.pv:=rfl
def f7 (t:Tk):Jn 16 17 t.pv=some t.last.pv:=rfl
def Ds1 (x0:List UInt8) (x1:Int) (x2:List UInt8) (x3:List UInt8) (x4:List (List UInt8)) (x5:List Adr) (x6:List Adr) (x7:Int) (x8:Int) (x9:Bool) (x10:Int) (x11:Int) (x12:List UInt8) (x13:Int) (x14:Int) (x15:List Rec) (x16:Int) (x17:Int) (x18:Int) (x19:Bool) (x20:Bool) (x21:Bool) (x22:Bool) (x23:Bool) (x24:Bool) (x25:Bool) (x26:Bool) (x27:Int) (x28:List UInt8) (x29:Int) (x30:List Rec) (x31:List Rec) (x32:List Rec) (x33:Int):PV.a [.s x0, .i .i64 x1, .s x2, .s x3,Bv x4,Fv x5,Fv x6, .i .i64 x7, .i .i64 x8, .b x9, .i .u64 x10, .i .u64 x11, .s x12, .i .i64 x13, .i .i64 x14,Ag x15, .i .i64 x16, .i .i64 x17, .i .i64 x18, .b x19, .b x20, .b x21, .b x22, .b x23, .b x24, .b x25, .b x26, .i .i64 x27, .s x28, .i .i64 x29,Ag x30,Ag x31,Ag x32, .i .i64 x33]=Tk.pv ⟨⟨x0,x1⟩,x2,x3,x4,x5,x6,x7,x8,⟨x9,x10,x11⟩,⟨x12,x13⟩,x14,x15,⟨x16,x17,x18,x19,x20,x21,x22,x23,x24,x25,x26,x27,⟨x28,x29⟩,x30,x31,x32⟩,x33⟩:=rfl
def Fx4 (t:Tk):(⟨t.q,t.name,t.zone,t.hosts,t.addrs,t.tried,t.state,t.more,t.dst,t.asked,t.sent,t.chain,t.last,t.err⟩:Tk)=t:=rfl
def Dt9 (m:Msg):(⟨m.id,m.op,m.code,m.resp,m.aa,m.tc,m.rd,m.ra,m.ad,m.cd,m.dok,m.size,m.q,m.ans,m.auth,m.ext⟩:Msg)=m:=rfl
def Ej0 (x:Adr):(⟨x.v6,x.hi,x.lo⟩:Adr)=x:=rfl
def Fz4 (d:Dat):Il d=d.adr.pv:=rfl
def Cp7 (v:Bool) (h l:Int):PV.a [.b v, .i .u64 h, .i .u64 l]=Adr.pv ⟨v,h,l⟩:=rfl
def Ew6 (d:Dat):(⟨d.v6,d.hi,d.lo⟩:Adr)=d.adr:=rfl
def Dl0 (x:Adr):Jn 0 3 x.pv=some x.pv:=rfl
def Ds7 (x:Adr):P4 3 x.pv=some x.pv:=rfl
def Ar4 (x:Adr):Bh 0 x.pv=some (.b x.v6):=rfl
def Ar3 (x:Adr):Bh 1 x.pv=some (.i .u64 x.hi):=rfl
def Ar2 (x:Adr):Bh 2 x.pv=some (.i .u64 x.lo):=rfl
def Cr0 (x:Adr):PV.flat x.pv=true:=rfl
def Dj1:PV.l 3 []=Fv []:=rfl
def Dr4 (x:Adr):L6 3 [x.pv]=some (Fv [x]):=rfl
def Ad4 (l:List Adr):H3 (Fv l)=some (Fv l):=rfl
def Ar1 (l:List Adr):Bh 0 (Fv l)=some (Fv l):=rfl
def Fv2 (x:Ques):PV.flat x.pv=true:=rfl
def Ef3 (n:Int):H3 (.i .u64 n)=some (.i .u64 n):=rfl
def En3 (n:Int):Bh 0 (.i .u64 n)=some (.i .u64 n):=rfl
def Cm7 (l:List Adr):Gd (Fv l)=some (.i .i64 (l.length:Int)):=by simp [Fv,Gd]
def Cp1 (l:List Adr) (k:IntKind) (z:Int) (h:0≤z):Ht 3 (Fv l) (.i k z)=(l[z.toNat]?).map Adr.pv:=by simp [Fv,jj _ _ _ _ h]
def Bp0 (l:List Adr) (x:Adr) (h:l.length+1≤1073741824):Ij 3 (Fv l) (Fv [x])=some (Fv (l++[x])):=by have:=T9 3 (l.map Adr.pv) ([x].map Adr.pv) (by simpa using h);simpa [Fv] using this
def Dj0 (l m:List Adr) (h:l.length+m.length≤1073741824):Ij 3 (Fv l) (Fv m)=some (Fv (l++m)):=by have:=T9 3 (l.map Adr.pv) (m.map Adr.pv) (by simpa using h);simpa [Fv] using this
def Cm1 (l:List Adr) (k k':IntKind) (a b:Int) (h1:0≤a) (h2:a≤b) (h3:b≤(l.length:Int)):G4 3 (Fv l) (.i k a) (.i k' b)=some (Fv ((l.take b.toNat).drop a.toNat)):=by have:=Bw5 3 (l.map Adr.pv) k k' a b h1 h2 (by simpa using h3);simpa [Fv,List.map_take,List.map_drop] using this
def Fx8 (neg:Bool) (x y:Adr):K4 neg true [.b,(.i .u64),(.i .u64)] x.pv y.pv=some (.b (if neg then decide (x≠y) else decide (x=y))):=by
 have:Gq [.b,(.i .u64),(.i .u64)] [.b x.v6, .i .u64 x.hi, .i .u64 x.lo] [.b y.v6, .i .u64 y.hi, .i .u64 y.lo]=some (decide (x=y)):=by simp only [Gq,Br8,if_true,Ak];rw [Ds];cases x;cases y;simp
 simp only [K4,Adr.pv,this,A4];cases neg<;>simp
set_option linter.defProp false in
def EVT:=(And.intro @Cg2 (And.intro @Cg1 (And.intro @Cg0 (And.intro @Cf9 (And.intro @Cf8 (And.intro @Cf7 (And.intro @Cf6 (And.intro @Cf5 (And.intro @Cf4 (And.intro @Cf3 (And.intro @Al4 (And.intro @Al3 (And.intro @Al2 (And.intro @Al1 (And.intro @Al0 (And.intro @Ah9 (And.intro @Ah8 (And.intro @Ah7 (And.intro @Ah6 (And.intro @Ah5 (And.intro @Ah4 (And.intro @Ah3 (And.intro @Ah2 (And.intro @Ah1 (And.intro @Ah0 (And.intro @Ag9 (And.intro @Ag8 (And.intro @Ag7 (And.intro @Ag6 (And.intro @Ag5 (And.intro @Ag4 (And.intro @Ag3 (And.intro @Ag2 (And.intro @Ag1 (And.intro @Ed5 (And.intro @Fv5 (And.intro @u5 (And.intro @Y8 (And.intro @Cb6 (And.intro @f7 (And.intro @Ds1 (And.intro @Fx4 (And.intro @Dt9 (And.intro @Ej0 (And.intro @Fz4 (And.intro @Cp7 (And.intro @Ew6 (And.intro @Dl0 (And.intro @Ds7 (And.intro @Ar4 (And.intro @Ar3 (And.intro @Ar2 (And.intro @Cr0 (And.intro @Dj1 (And.intro @Dr4 (And.intro @Ad4 (And.intro @Ar1 (And.intro @Fv2 (And.intro @Ef3 (And.intro @En3 (And.intro @Cm7 (And.intro @Cp1 (And.intro @Bp0 (And.intro @Dj0 (And.intro @Cm1 @Fx8)))))))))))))))))))))))))))))))))))))))))))))))))))))))))))))))))
end Go.X
/- Functions of the package slices, for texts, records and addresses. -/
namespace Go.X.G
open Go Go.X
def Br2 (l:List (List UInt8)) (x:List UInt8) (hl:l.length≤1000000):∃k:Int,(0≤k↔x∈l)∧S Bk9 2 [Bv l, .s x]=some [.i .i64 k]:=by
 have go:∀(i:Nat) (l:List (List UInt8)),∃k:Int,k=(match l.findIdx? (·=x) with|some j=>((i+j:Nat):Int)|none=> -1)∧(0≤k↔x∈l):=by
  intro i l;refine ⟨_,rfl,?_⟩;cases h:l.findIdx? (·=x) with
  |none=>
   rw [List.findIdx?_eq_none_iff] at h;simp only;constructor
   ·intro h2;omega
   ·intro h2;have:=h x h2;simp at this
  |some j=>
   simp only;constructor
   ·intro _;rw [List.findIdx?_eq_some_iff_getElem] at h;obtain ⟨h1,h2,_⟩:=h;simp at h2;rw [←h2];exact Ep _
   ·intro _;omega
 obtain ⟨k,hk,hk2⟩:=go 0 l;refine ⟨k,hk2,?_⟩;refine Fs9 (N:=l.length+1) rfl ?_;have key:Dx9.ev S (l.length+1) [Bv l, .s x]=some (match l.findIdx? (·=x) with|some j=> .ret [.i .i64 ((0+j:Nat):Int)]|none=> .yld 0 []):=by
  refine Dh l (fun i=>[.i .i64 (i:Int)]) (fun i r=>match r.findIdx? (·=x) with|some j=> .ret [.i .i64 ((i+j:Nat):Int)]|none=> .yld 0 []) rfl (by omega) (fun i c r hd hi hc=> ?_) ?_
  ·by_cases h:x=c
   ·right;simp (disch:=omega) only [Ay2,hc,h,EVM,EVC,xe,EVP,EV,simprocAttr];simp [List.findIdx?_cons,Out.goes]
   ·left;have h':¬c=x:=fun e=>h e.symm;simp (disch:=omega) only [Ay2,hc,h,EVM,EVC,xe,EVP,EV,simprocAttr];refine ⟨trivial,?_⟩;simp only [List.findIdx?_cons,h',decide_false,Ad,if_false];cases r.findIdx? (·=x) with
    |none=>rfl
    |some j=>simp;omega
  ·simp (disch:=omega) only [Ay2,EVM,EVC,xe,EVP,EV,simprocAttr];simp [Out.goes]
 rw [hk];cases h:l.findIdx? (·=x) with
 |none=>
  rw [h] at key;simp (disch:=omega) only [Ay2,key,EVM,EVC,xe,EVP,EV,simprocAttr]
 |some j=>
  rw [h] at key;simp (disch:=omega) only [Ay2,key,EVM,EVC,xe,EVP,EV,simprocAttr]
def P0 (l:List (List UInt8)) (x:List UInt8) (hl:l.length≤1000000):S iw 2 [Bv l, .s x]=some [.b (decide (x∈l))]:=by refine Gk1 (N:=1) rfl ?_;obtain ⟨k,h1,h2⟩:=Br2 l x hl;simp (disch:=omega) only [Fg6,h2,EVM,EVC,xe,EVP,EV,simprocAttr];simp [h1]
def ixG {α:Type} (p:α→Bool) (k:Nat):List α→Int
 |[]=> -1
 |r::rs=>if p r=true then (k:Int) else ixG p (k+1) rs
def i9 {α:Type} (p:α→Bool):∀(l:List α) (k:Nat),(0≤ixG p k l↔l.any p=true)∧ixG p k l≤k+l.length∧ -1≤ixG p k l
 |[],k=>by simp [ixG]
 |r::rs,k=>by
  have ih:=i9 p rs (k+1);rcases Aq (p r) with h|h
  ·simp [ixG,h];omega
  ·simp only [ixG,h,List.any_cons,d9,A5];refine ⟨by simpa using ih.1,?_,by simpa using ih.2.2⟩;have:=ih.2.1;simp only [Ad,if_false] at this ⊢;omega
def Yq (l:List (List UInt8)) (g:Nat) (caps:List PV) (p:List UInt8→Bool) (hl:l.length≤1000000) (h:∀r∈l,S g 1 (.s r::caps)=some [.b (p r)]):S Bj0 2 [Bv l, .f g caps]=some [.i .i64 (ixG p 0 l)]:=by
 refine Fn8 (N:=l.length+1) rfl ?_;have key:Dw7.ev S (l.length+1) [Bv l, .f g caps]=some (if ixG p 0 l= -1 then .yld 0 [] else .ret [.i .i64 (ixG p 0 l)]):=by
  refine Dh l (fun i=>[.i .i64 (i:Int)]) (fun i r=>if ixG p i r= -1 then .yld 0 [] else .ret [.i .i64 (ixG p i r)]) rfl (by omega) (fun i c r hd hi hc=> ?_) ?_
  ·have hp:=h c (Ar hc);rcases Aq (p c) with h1|h1
   ·rw [h1] at hp;right;have h2:¬((i:Int)= -1):=by omega
    simp (disch:=omega) only [Ax8,hc,hp,EVT,EVC,xe,EVP,EV,simprocAttr];simp [ixG,h1,h2,Out.goes]
   ·rw [h1] at hp;left;simp (disch:=omega) only [Ax8,hc,hp,EVT,EVC,xe,EVP,EV,simprocAttr];simp [ixG,h1]
  ·simp (disch:=omega) only [Ax8,EVT,EVC,xe,EVP,EV,simprocAttr];simp [ixG,Out.goes]
 by_cases h1:ixG p 0 l= -1
 ·rw [if_pos h1] at key;simp (disch:=omega) only [Ax8,key,h1,EVT,EVC,xe,EVP,EV,simprocAttr]
 ·rw [if_neg h1] at key;simp (disch:=omega) only [Ax8,key,EVT,EVC,xe,EVP,EV,simprocAttr]
def Qv (l:List (List UInt8)) (g:Nat) (caps:List PV) (p:List UInt8→Bool) (hl:l.length≤1000000) (h:∀r∈l,S g 1 (.s r::caps)=some [.b (p r)]):S Bk6 2 [Bv l, .f g caps]=some [.b (l.any p)]:=by
 refine Fs5 (N:=1) rfl ?_;simp (disch:=omega) only [Ff6,Yq l g caps p hl h,EVC,xe,EVP,EV,simprocAttr];have:=(i9 p l 0).1;rcases Aq (l.any p) with h1|h1
 ·rw [h1] at this ⊢;simp [this.2 rfl]
 ·rw [h1] at this ⊢;have h2:¬(0≤ixG p 0 l):=fun h=>by simpa using this.1 h
  simp [h2]
def d6 (l:List Rec) (hl:l.length≤1000000):S zx 1 [Ag l]=some [Ag l]:=by
 refine Gk9 (N:=1) rfl ?_;have h0:Ij 16 (Ag []) (Ag l)=some (Ag l):=by simpa using Q0 [] l (by simp;omega)
 simp (disch:=omega) only [Fh0,h0,EVT,EVC,xe,EVP,EV,simprocAttr]
def b9 {α:Type} (p:α→Bool):∀(l:List α) (k:Nat),0≤ixG p k l→∃j,ixG p k l=((k+j:Nat):Int)∧j<l.length∧(∀x∈l.take j,p x=false)∧∃x,l[j]? =some x∧p x=true
 |[],k,h=>by simp [ixG] at h
 |r::rs,k,h=>by
  rcases Aq (p r) with h1|h1
  ·exact ⟨0,by simp [ixG,h1],by simp,by simp,r,rfl,h1⟩
  ·have e:ixG p k (r::rs)=ixG p (k+1) rs:=by simp [ixG,h1]
   rw [e] at h ⊢;obtain ⟨j,g1,g2,g3,x,g4,g5⟩:=b9 p rs (k+1) h;refine ⟨j+1,by rw [g1];congr 1;omega,by simp;omega,fun y hy=> ?_,x,by simpa using g4,g5⟩;simp only [List.take_succ_cons,An] at hy;rcases hy with rfl|hy
   ·exact h1
   ·exact g3 y hy
def Jy {α:Type} (p:α→Bool) {l:List α} (h:∀x∈l,p x=false):l.filter (fun x=> !p x)=l:=by rw [List.filter_eq_self];intro x hx;simp [h x hx]
def ixF (p:Rec→Bool) (k:Nat):List Rec→Int
 |[]=> -1
 |r::rs=>if p r=true then (k:Int) else ixF p (k+1) rs
def Yv (l:List Rec) (g:Nat) (caps:List PV) (p:Rec→Bool) (hl:l.length≤1000000) (h:∀r∈l,S g 1 (r.pv::caps)=some [.b (p r)]):S yd 2 [Ag l, .f g caps]=some [.i .i64 (ixF p 0 l)]:=by
 refine Fs2 (N:=l.length+1) rfl ?_;have key:Dx4.ev S (l.length+1) [Ag l, .f g caps]=some (if ixF p 0 l= -1 then .yld 0 [] else .ret [.i .i64 (ixF p 0 l)]):=by
  refine Dh l (fun i=>[.i .i64 (i:Int)]) (fun i r=>if ixF p i r= -1 then .yld 0 [] else .ret [.i .i64 (ixF p i r)]) rfl (by omega) (fun i c r hd hi hc=> ?_) ?_
  ·have hp:=h c (Ar hc);rcases Aq (p c) with h1|h1
   ·rw [h1] at hp;right;have h2:¬((i:Int)= -1):=by omega
    simp (disch:=omega) only [Ay0,hc,hp,EVC,xe,EVP,EV,simprocAttr];simp [ixF,h1,h2,Out.goes]
   ·rw [h1] at hp;left;simp (disch:=omega) only [Ay0,hc,hp,EVC,xe,EVP,EV,simprocAttr];simp [ixF,h1]
  ·simp (disch:=omega) only [Ay0,EVC,xe,EVP,EV,simprocAttr];simp [ixF,Out.goes]
 by_cases h1:ixF p 0 l= -1
 ·rw [if_pos h1] at key;simp (disch:=omega) only [Ay0,key,h1,EVC,xe,EVP,EV,simprocAttr]
 ·rw [if_neg h1] at key;simp (disch:=omega) only [Ay0,key,EVC,xe,EVP,EV,simprocAttr]
end Go.X.G
/- Records that go out of a list. -/
namespace Go.X.G
open Go Go.X
def Zn {step:List PV→Option Out} {id:Nat} {α:Type} (st:α→List PV) (Q:Out→Prop) (I:α→Prop) (μ:α→Nat)
  (h:∀a,I a→(∃b,step (st a)=some (.yld id (st b))∧I b∧μ b<μ a)∨∃o,step (st a)=some o∧o.goes id=false∧Q o):
  ∀(n:Nat) (a:α),I a→μ a<n→∃o,F7 step id n (st a)=some o∧Q o
 |0,a,_,hn=>by omega
 |n+1,a,ha,hn=>by
  simp only [F7];rcases h a ha with ⟨b,h1,h2,h3⟩|⟨o,h1,h2,h3⟩
  ·rw [h1];simp only [Ax,if_true];exact Zn st Q I μ h n b h2 (by omega)
  ·rw [h1];refine ⟨o,?_,h3⟩;simp only [Ax];cases o with
   |ret vs=>rfl
   |yld j vs=>
    simp only [Out.goes,beq_eq_false_iff_ne,ne_eq] at h2;simp only [];rw [if_neg h2]
def Gt {fn:Fns} {N:Nat} {η:List PV} {id:Nat} {init:List E} {body:T} {α:Type} (st:α→List PV) (Q:Out→Prop) (I:α→Prop) (μ:α→Nat) (a0:α)
  (h0:E.evs η init=some (st a0)) (hI:I a0) (hN:μ a0<N)
  (h:∀a,I a→(∃b,body.ev fn N (η++st a)=some (.yld id (st b))∧I b∧μ b<μ a)∨∃o,body.ev fn N (η++st a)=some o∧o.goes id=false∧Q o):
  ∃o,(T.loop id init body).ev fn N η=some o∧Q o:=by
 simp only [T.ev,h0,Ax];exact Zn st Q I μ h N a0 hI hN
abbrev zr:Rec:=⟨[],0,0,⟨false,0,0,[],[],[],0,0,0,0,0,0,0⟩⟩
abbrev l4:PV:=Rec.pv ⟨[],0,0,⟨false,0,0,[],[],[],0,0,0,0,0,0,0⟩⟩
def Fq5 (p:Rec→Bool):∀(l:List Rec) (k:Nat),ixF p k l=ixG p k l
 |[],_=>rfl
 |r::rs,k=>by simp only [ixF,ixG,Fq5 p rs]
def Uk (l:List Rec) (g:Nat) (caps:List PV) (p:Rec→Bool) (hl:l.length≤1000000) (h:∀r∈l,S g 1 (r.pv::caps)=some [.b (p r)]):S yd 2 [Ag l, .f g caps]=some [.i .i64 (ixG p 0 l)]:=by rw [←Fq5];exact Yv l g caps p hl h
def o3 (n:Int) (h0:0≤n) (h1:n≤1073741824):L5 16 (.i .i64 n) l4=some (Ag (List.replicate n.toNat zr)):=by
 have h2:n≤(LIM:Int):=by simp only [LIM];omega
 have h3:l4.cells.length=16:=rfl;simp only [L5,h0,h2,h3,and_self,if_true];simp [Ag,Rec.pv,Rec.cells,Dat.cells]
def Av9 (l:List Rec) (g:Nat) (caps:List PV) (p:Rec→Bool) (hl:l.length≤1000000) (h:∀r∈l,S g 1 (r.pv::caps)=some [.b (p r)]):S Bq4 1048578 [Ag l, .f g caps]=some [Ag (l.filter fun x=> !p x)]:=by
 refine Gj8 (N:=l.length+1) rfl ?_;have h0:=Uk l g caps p hl h;have hany:=(i9 p l 0);by_cases hneg:ixG p 0 l= -1
 ·have hf:l.any p=false:=by
   rcases Aq (l.any p) with h1|h1
   ·have:=hany.1.2 h1;omega
   ·exact h1
  have e:l.filter (fun x=> !p x)=l:=Jy p (fun x hx=>by rw [List.any_eq_false] at hf;simpa using hf x hx);rw [hneg] at h0;rw [e];simp (disch:=omega) only [Ay4,h0,EVT,EVM,EVC,xe,EVP,EV,simprocAttr]
 ·obtain ⟨j0,g1,g2,g3,x0,g4,g5⟩:=b9 p l 0 (by have:=hany.2.2;omega);rw [g1] at h0;simp only [D3] at h0;have key:∃s:List Rec,s.length=l.length∧s.take (l.filter fun x=> !p x).length=l.filter (fun x=> !p x)∧Dy4.ev S (l.length+1) [Ag l, .f g caps, .i .i64 (j0:Int)]=some (.yld 0 [.i .i64 (((l.filter fun x=> !p x).length:Nat):Int),Ag s]):=by
   let nx:Nat×Nat×List Rec→Nat×Nat×List Rec:=fun a=>match l[a.2.1]? with
    |some c=>if p c=true then (a.1,a.2.1+1,a.2.2) else (a.1+1,a.2.1+1,a.2.2.set a.1 c)
    |none=>a
   let fin:Nat→Nat×Nat×List Rec→Nat×Nat×List Rec:=fun n a=>Nat.rec a (fun _ b=>nx b) n;have fin_s:∀n a,fin (n+1) a=nx (fin n a):=fun _ _=>rfl;have fin_c:∀n a,fin (n+1) a=fin n (nx a):=by
    intro n
    induction n with
    |zero=>intro a;rfl
    |succ n ih=>intro a;exact congrArg nx (ih a)
   let I:Nat×Nat×List Rec→Prop:=fun a=>a.1<a.2.1∧a.2.1≤l.length∧a.2.2.length=l.length∧a.2.2.take a.1=(l.take a.2.1).filter (fun x=> !p x)∧a.2.2.drop a.2.1=l.drop a.2.1;have I_nx:∀a,I a→a.2.1<l.length→I (nx a)∧(nx a).2.1=a.2.1+1:=by
    rintro ⟨i,j,s⟩ ⟨i1,i2,i3,i4,i5⟩ hj;simp only at i1 i2 i3 i4 i5 hj;have hc:l[j]? =some l[j]:=Az hj;have ht:l.take (j+1)=l.take j++[l[j]]:=by rw [Ck,hc];rfl
    have hdrop:s.drop (j+1)=l.drop (j+1):=by rw [←Cm (i:=1) (j:=j),i5,Cm]
    have hlen:i=((l.take j).filter fun x=> !p x).length:=by rw [←i4,As];omega
    simp only [nx,hc];rcases Aq (p l[j]) with h1|h1
    ·simp only [h1,if_true];refine ⟨⟨by simp only;omega,by simp only;omega,i3,?_,hdrop⟩,trivial⟩;simp only;rw [ht,Fj,i4];simp [h1]
    ·simp only [h1,Ad,if_false];refine ⟨⟨by simp only;omega,by simp only;omega,by simpa using i3,?_,?_⟩,trivial⟩
     ·simp only;rw [ht,Fj,←i4,Ck,Vt (by omega),List.take_set_of_le (by omega)];simp [h1]
     ·simp only;rw [Qx (by omega),hdrop]
   have I_fin:∀n a,I a→a.2.1+n≤l.length→I (fin n a)∧(fin n a).2.1=a.2.1+n:=by
    intro n
    induction n with
    |zero=>intro a ha _;exact ⟨ha,rfl⟩
    |succ n ih=>
     intro a ha hn;obtain ⟨q1,q2⟩:=ih a ha (by omega);obtain ⟨q3,q4⟩:=I_nx _ q1 (by omega);rw [fin_s];exact ⟨q3,by rw [q4,q2];omega⟩
   have I0:I (j0,j0+1,l):=by refine ⟨by simp only;omega,by simp only;omega,rfl,?_,rfl⟩;simp only;rw [Ck,g4,Fj,Jy p g3];simp [g5]
   obtain ⟨z1,z2⟩:=I_fin (l.length - (j0+1)) (j0,j0+1,l) I0 (by simp only;omega);simp only at z2;refine ⟨(fin (l.length - (j0+1)) (j0,j0+1,l)).2.2,z1.2.2.1,?_,?_⟩
   ·have q:=z1.2.2.2.1;have e1:(fin (l.length - (j0+1)) (j0,j0+1,l)).2.1=l.length:=by rw [z2];omega
    rw [e1,Dv] at q;rw [←q,As,z1.2.2.1];have:=z1.1;rw [I8 (by omega)]
   ·have hlen:(fin (l.length - (j0+1)) (j0,j0+1,l)).1=(l.filter fun x=> !p x).length:=by
     have q:=z1.2.2.2.1;have e1:(fin (l.length - (j0+1)) (j0,j0+1,l)).2.1=l.length:=by rw [z2];omega
     rw [e1,Dv] at q;have q2:=congrArg List.length q;have:=z1.1;rw [As,z1.2.2.1,I8 (by omega)] at q2;exact q2
    refine Eq.trans (Hd (α:=Nat×Nat×List Rec) (fun a=>[.i .i64 (a.1:Int), .i .i64 (a.2.1:Int),Ag a.2.2]) (fun a=> .yld 0 [.i .i64 ((fin (l.length - a.2.1) a).1:Int),Ag (fin (l.length - a.2.1) a).2.2]) I (fun a=>l.length - a.2.1) (j0,j0+1,l) ?_ I0 (by simp only;omega) ?_) ?_
    ·simp (disch:=omega) only [EVT,EVM,EVC,xe,EVP,EV,simprocAttr]
    ·rintro ⟨i,j,s⟩ hI;obtain ⟨i1,i2,i3,i4,i5⟩:=hI;simp only at i1 i2 i3 i4 i5;by_cases hj:j<l.length
     ·left;have hc:l[j]? =some l[j]:=Az hj;have hsc:s[j]? =some l[j]:=by have:=congrArg (fun q=>q[0]?) i5;simpa [A7,hc] using this
      have hsi:∃y,s[i]? =some y:=⟨_,Az (by omega)⟩;obtain ⟨y,hsi⟩:=hsi;obtain ⟨q3,q4⟩:=I_nx (i,j,s) ⟨i1,i2,i3,i4,i5⟩ hj;have hp:=h l[j] (Ep hj);refine ⟨nx (i,j,s),?_,q3,by rw [q4];simp only;omega,?_⟩
      ·have hjs:(j:Int)<(s.length:Int):=by omega
       rcases Aq (p l[j]) with h1|h1
       ·rw [h1] at hp;simp only [nx,hc,h1,if_true];simp (disch:=omega) only [Ay4,hjs,hsc,hp,EVT,EVM,EVC,xe,EVP,EV,simprocAttr]
       ·rw [h1] at hp;simp only [nx,hc,h1,Ad,if_false];simp (disch:=omega) only [Ay4,hjs,hsc,hsi,hp,EVT,EVM,EVC,xe,EVP,EV,simprocAttr]
      ·have e1:l.length - j=(l.length - (j+1))+1:=by omega
       rw [q4];simp only;rw [e1,fin_c]
     ·right;have hjs:¬(j:Int)<(s.length:Int):=by omega
      have e1:l.length - j=0:=by omega
      simp only [e1];simp (disch:=omega) only [Ay4,hjs,EVT,EVM,EVC,xe,EVP,EV,simprocAttr];exact ⟨rfl,rfl⟩
    ·simp only;rw [hlen]
  obtain ⟨s,hs1,hs2,key⟩:=key;have hle:(l.filter fun x=> !p x).length≤l.length:=Ft _ _;have e0:¬((j0:Int)= -1):=by omega
  generalize (l.filter fun x=> !p x)=fl at*;have hsl1:G4 16 (Ag s) (.i .i64 ((fl.length:Nat):Int)) (.i .i64 (s.length:Int))=some (Ag (s.drop fl.length)):=by rw [H6 _ _ _ _ _ (by omega) (by omega) (by omega)];simp
  have hsl2:G4 16 (Ag s) (.i .i64 0) (.i .i64 ((fl.length:Nat):Int))=some (Ag fl):=by rw [H6 _ _ _ _ _ (by omega) (by omega) (by omega)];simp [hs2]
  have hrep:L5 16 (.i .i64 ((s.length:Int) - (fl.length:Int))) l4=some (Ag (List.replicate (s.length - fl.length) zr)):=by rw [o3 _ (by omega) (by omega)];congr 3;omega
  have happ:Ij 16 (Ag fl) (Ag (List.replicate (s.length - fl.length) zr))=some (Ag (fl++List.replicate (s.length - fl.length) zr)):=Q0 _ _ (by simp;omega);have hsl3:G4 16 (Ag (fl++List.replicate (s.length - fl.length) zr)) (.i .i64 0) (.i .i64 ((fl.length:Nat):Int))=some (Ag fl):=by rw [H6 _ _ _ _ _ (by omega) (by omega) (by simp;omega)];simp
  simp (disch:=omega) only [Ay4,h0,e0,key,hsl1,hsl2,hrep,happ,hsl3,EVT,EVM,EVC,xe,EVP,EV,simprocAttr]
def Eq0:PV→PV→Int
 | .s a, .s b=>Iv a b
 |_,_=>0
def Yj (l:List (List UInt8)) (hl:l.length≤1000000) (hs:∀x∈l,x.length≤9223372036854775807):S W9 1048578 [Bv l, .f O6 []]=some [Bv (l.mergeSort fun x y=> !decide (Iv y x<0))]:=by
 have hm:∀x∈l.map PV.s,∃a∈l,x= .s a:=fun x hx=>by obtain ⟨a,h1,h2⟩:=Eb.1 hx;exact ⟨a,h1,h2.symm⟩
 have h:=Cd6 (tab:=tab) (xs:=Ex5) (ss:=Zz) (f:=W9) (s:=Dq5) Ed6 Ef0 (g:=O6) (caps:=[]) (l:=l.map PV.s) (by decide) (by simp;omega)
  (fun x hx=>by obtain ⟨a,_,rfl⟩:=hm x hx;rfl) Eq0
  (fun x hx y hy=>by obtain ⟨a,ha,rfl⟩:=hm x hx;obtain ⟨b,hb,rfl⟩:=hm y hy;exact Td a b (hs a ha) (hs b hb))
  (fun x hx=>by obtain ⟨a,_,rfl⟩:=hm x hx;show¬Iv a a<0;rw [E6];exact to_N.irr a)
  (fun x hx y hy z hz h1 h2=>by obtain ⟨a,_,rfl⟩:=hm x hx;obtain ⟨b,_,rfl⟩:=hm y hy;obtain ⟨c,_,rfl⟩:=hm z hz;exact (E6 a c).2 (to_N.tr _ _ _ ((E6 a b).1 h1) ((E6 b c).1 h2)))
  (fun x hx y hy z hz h1 h2=>by obtain ⟨a,_,rfl⟩:=hm x hx;obtain ⟨b,_,rfl⟩:=hm y hy;obtain ⟨c,_,rfl⟩:=hm z hz;exact fun h3=>to_N.ntr (fun q=>h1 ((E6 a b).2 q)) (fun q=>h2 ((E6 b c).2 q)) ((E6 a c).1 h3))
  (fun x hx y hy h1 h2=>by
   obtain ⟨a,_,rfl⟩:=hm x hx;obtain ⟨b,_,rfl⟩:=hm y hy;rcases to_N.tri a b with q|q|q
   ·exact absurd ((E6 a b).2 q) h1
   ·rw [q]
   ·exact absurd ((E6 b a).2 q) h2)
 have e:(l.map PV.s).mergeSort (fun x y=> !decide (Eq0 y x<0))=(l.mergeSort fun x y=> !decide (Iv y x<0)).map PV.s:=(List.map_mergeSort (r:=fun x y=> !decide (Iv y x<0)) (s:=fun x y=> !decide (Eq0 y x<0)) (f:=PV.s) fun a _ b _=>rfl).symm;rw [e] at h;exact h
def Mn (l:List (List UInt8)) (hl:l.length≤1000000):S iq 1048577 [Bv l]=some [Bv (cpt eqs l)]:=by
 refine Fs4 (N:=l.length+2) rfl ?_;by_cases h2:(l.length:Int)<2
 ·have e:cpt eqs l=l:=by
   match l,h2 with
   |[],_=>rfl
   |[x],_=>rfl
   |_::_::_,h=>simp at h;omega
  rw [e];simp (disch:=omega) only [V5,h2,EVT,EVM,EVC,xe,EVP,EV,simprocAttr]
 ·-- the inner F7, from a place where two neighbours are equal
  have inner:∀k:Nat,1≤k→k<l.length→cpt eqs (l.take (k+1))=l.take k→∃s:List (List UInt8),s.length=l.length∧s.take (cpt eqs l).length=cpt eqs l∧Dw3.ev S (l.length+2) [Bv l, .i .i64 (k:Int),Bv l]=some (.yld 2 [.i .i64 ((cpt eqs l).length:Int),Bv s]):=by
   intro k hk1 hk hcp;have key:=Gt (fn:=S) (N:=l.length+2) (η:=[Bv l, .i .i64 (k:Int),Bv l]) (id:=3) (init:=[(.v 1),(.c (.i .i64 (1))),(.v 2)]) (body:=Bm1) (α:=Nat×Nat×List (List UInt8))
    (fun a=>[.i .i64 (a.1:Int), .i .i64 (a.2.1:Int),Bv a.2.2])
    (fun o=>∃s:List (List UInt8),s.length=l.length∧s.take (cpt eqs l).length=cpt eqs l∧o= .yld 2 [.i .i64 ((cpt eqs l).length:Int),Bv s])
    (fun a=>1≤a.2.1∧k+a.2.1≤l.length∧a.1<k+a.2.1∧a.2.2.length=l.length∧a.2.2.take a.1=cpt eqs (l.take (k+a.2.1))∧(cpt eqs (l.take (k+a.2.1))).length=a.1∧a.2.2.drop (k+a.2.1 - 1)=l.drop (k+a.2.1 - 1))
    (fun a=>l.length - a.2.1) (k,1,l) (by simp (disch:=omega) only [EVT,EVM,EVC,xe,EVP,EV,simprocAttr])
    ⟨by simp,by simp;omega,by simp,rfl,by simp only;rw [hcp],by simp only;rw [hcp,As];omega,rfl⟩ (by simp only;omega) ?_
   ·obtain ⟨o,h3,s,h4,h5,rfl⟩:=key;exact ⟨s,h4,h5,h3⟩
   ·rintro ⟨i,j,s⟩ ⟨a1,a2,a3,a4,a5,a6,a7⟩;simp only at a1 a2 a3 a4 a5 a6 a7;by_cases hj:k+j<l.length
    ·left;have c1:s[k+j]? =l[k+j]? :=by have:=congrArg (fun q=>q[1]?) a7;simp only [A7] at this;rwa [show k+j - 1+1=k+j by omega] at this
     have c0:s[k+j - 1]? =l[k+j - 1]? :=by have:=congrArg (fun q=>q[0]?) a7;simpa only [A7,C9] using this
     have g1:l[k+j]? =some (l[k+j]'hj):=Az hj;have g0:l[k+j - 1]? =some (l[k+j - 1]'(by omega)):=Az (by omega);have tk:l.take (k+(j+1))=l.take (k+j)++[l[k+j]'hj]:=by rw [show k+(j+1)=(k+j)+1 by omega,Ck,g1];rfl
     have ne:l.take (k+j)≠[]:=by intro h;have:=congrArg List.length h;rw [As,Bz] at this;omega
     have gl:(l.take (k+j)).getLast ne=l[k+j - 1]'(by omega):=by rw [Is];simp only [lr,As];congr 1;omega
     have cs:=Lr eqs (l[k+j]'hj) (l.take (k+j)) ne;rw [←tk,gl] at cs;generalize l[k+j]'hj=x at*;generalize l[k+j - 1]'(by omega)=y at*;have hjj:(j:Int)<(s.length:Int) - (k:Int):=by omega
     have i1:Ht 1 (Bv s) (.i .i64 ((k:Int)+(j:Int)))=some (.s x):=by rw [Ln _ _ _ (by omega),show ((k:Int)+(j:Int)).toNat=k+j by omega,c1,g1];rfl
     have i0:Ht 1 (Bv s) (.i .i64 ((k:Int)+((j:Int) - 1)))=some (.s y):=by rw [Ln _ _ _ (by omega),show ((k:Int)+((j:Int) - 1)).toNat=k+j - 1 by omega,c0,g0];rfl
     have ls:G4 1 (Bv s) (.i .i64 (k:Int)) (.i .i64 (s.length:Int))=some (Bv (s.drop k)):=by rw [J1 _ _ _ _ _ (by omega) (by omega) (by omega)];simp
     have e1:(s.drop k)[j]? =some x:=by rw [A7,c1,g1]
     have e0:(s.drop k)[j - 1]? =some y:=by rw [A7,show k+(j - 1)=k+j - 1 by omega,c0,g0]
     have si:∃w,s[i]? =some w:=⟨_,Az (by omega)⟩;obtain ⟨w,si⟩:=si;have ej:((j:Int) - 1).toNat=j - 1:=by omega
     by_cases hxy:x=y
     ·refine ⟨(i,j+1,s),?_,⟨by simp,by simp only;omega,by simp only;omega,a4,?_,?_,?_⟩,by simp only;omega⟩
      ·simp (disch:=omega) only [V5,hjj,i1,i0,ls,e1,e0,ej,hxy,EVT,EVM,EVC,xe,EVP,EV,simprocAttr]
      ·simp only;rw [cs,a5];simp [eqs,hxy]
      ·simp only;rw [cs,Ab,a6];simp [eqs,hxy]
      ·simp only;rw [show k+(j+1) - 1=(k+j - 1)+1 by omega,←Cm,←Cm,a7]
     ·refine ⟨(i+1,j+1,s.set i x),?_,⟨by simp,by simp only;omega,by simp only;omega,by simpa using a4,?_,?_,?_⟩,by simp only;omega⟩
      ·simp (disch:=omega) only [V5,hjj,i1,i0,ls,e1,e0,ej,si,hxy,EVT,EVM,EVC,xe,EVP,EV,simprocAttr]
      ·simp only;rw [cs,Ck,Vt (by omega),List.take_set_of_le (by omega),a5];simp [eqs,hxy]
      ·simp only;rw [cs,Ab,a6];simp [eqs,hxy]
      ·simp only;rw [show k+(j+1) - 1=(k+j - 1)+1 by omega,Qx (by omega),←Cm,←Cm,a7]
    ·right;have ek:k+j=l.length:=by omega
     rw [ek,Dv] at a5 a6;have hjj:¬(j:Int)<(s.length:Int) - (k:Int):=by omega
     refine ⟨.yld 2 [.i .i64 (i:Int),Bv s],?_,rfl,s,a4,by rw [a6];exact a5,by rw [a6]⟩;simp (disch:=omega) only [V5,hjj,EVT,EVM,EVC,xe,EVP,EV,simprocAttr]
  have key:Dx6.ev S (l.length+2) [Bv l]=some (if cpt eqs l=l then .yld 0 [Bv l] else .ret [Bv (cpt eqs l)]):=by
   have:=Gt (fn:=S) (N:=l.length+2) (η:=[Bv l]) (id:=1) (init:=[(.c (.i .i64 (1))),(.v 0)]) (body:=Bm6) (α:=Nat)
    (fun k=>[.i .i64 (k:Int),Bv l]) (fun o=>o=if cpt eqs l=l then .yld 0 [Bv l] else .ret [Bv (cpt eqs l)])
    (fun k=>1≤k∧k≤l.length∧cpt eqs (l.take k)=l.take k) (fun k=>l.length - k) 1 (by simp (disch:=omega) only [EVT,EVM,EVC,xe,EVP,EV,simprocAttr])
    ⟨Af 1,by omega,by cases l with
     |nil=>simp at h2
     |cons x r=>rfl⟩ (by omega) ?_
   ·obtain ⟨o,h3,h4⟩:=this;rw [←h4];exact h3
   ·rintro k ⟨k1,k2,k3⟩;by_cases hk:k<l.length
    ·have g1:l[k]? =some l[k]:=Az hk;have g0:l[k - 1]? =some (l[k - 1]'(by omega)):=Az (by omega);have tk:l.take (k+1)=l.take k++[l[k]]:=by rw [Ck,g1];rfl
     have ne:l.take k≠[]:=by intro h;have:=congrArg List.length h;rw [As,Bz] at this;omega
     have gl:(l.take k).getLast ne=l[k - 1]'(by omega):=by rw [Is];simp only [lr,As];congr 1;omega
     have cs:=Lr eqs l[k] (l.take k) ne;rw [←tk,gl,k3] at cs;have hkk:(k:Int)<(l.length:Int):=by omega
     have i1:Ht 1 (Bv l) (.i .i64 (k:Int))=some (.s l[k]):=by rw [Ln _ _ _ (by omega),show ((k:Int)).toNat=k by omega,g1];rfl
     have i0:Ht 1 (Bv l) (.i .i64 ((k:Int) - 1))=some (.s (l[k - 1]'(by omega))):=by rw [Ln _ _ _ (by omega),show ((k:Int) - 1).toNat=k - 1 by omega,g0];rfl
     by_cases hxy:l[k]=l[k - 1]'(by omega)
     ·right;have cs':cpt eqs (l.take (k+1))=l.take k:=by rw [cs];simp [eqs,hxy]
      obtain ⟨s,s1,s2,s3⟩:=inner k k1 hk cs';have hlt:cpt eqs l≠l:=by
       intro h;have q:(cpt eqs l).length≤(cpt eqs (l.take (k+1))).length+(l.drop (k+1)).length:=by
        have:∀(b a:List (List UInt8)),a≠[]→(cpt eqs (a++b)).length≤(cpt eqs a).length+b.length:=by
         intro b
         induction b with
         |nil=>intro a _;simp
         |cons x r ih=>
          intro a ha;have h1:=ih (a++[x]) (by simp);rw [Lr _ _ _ ha] at h1;rw [show a++x::r=a++[x]++r by simp];refine Cl h1 ?_;rw [Ab];split<;>simp<;>omega
        have h3:=this (l.drop (k+1)) (l.take (k+1)) (by intro h;have:=congrArg List.length h;rw [As,Bz] at this;omega);rwa [Bs] at h3
       rw [h,cs',As,Bn] at q;omega
      have hlen:=j7 eqs l;refine ⟨.ret [Bv (cpt eqs l)],?_,rfl,by rw [if_neg hlt]⟩;generalize cpt eqs l=fl at*;have ls:G4 1 (Bv l) (.i .i64 (k:Int)) (.i .i64 (l.length:Int))=some (Bv (l.drop k)):=by rw [J1 _ _ _ _ _ (by omega) (by omega) (by omega)];simp
      have hsl1:G4 1 (Bv s) (.i .i64 ((fl.length:Nat):Int)) (.i .i64 (s.length:Int))=some (Bv (s.drop fl.length)):=by rw [J1 _ _ _ _ _ (by omega) (by omega) (by omega)];simp
      have hsl2:G4 1 (Bv s) (.i .i64 0) (.i .i64 ((fl.length:Nat):Int))=some (Bv fl):=by rw [J1 _ _ _ _ _ (by omega) (by omega) (by omega)];simp [s2]
      have hrep:L5 1 (.i .i64 ((s.length:Int) - (fl.length:Int))) (.s [])=some (Bv (List.replicate (s.length - fl.length) [])):=by rw [o2 _ (by omega) (by omega)];congr 3;omega
      have happ:Ij 1 (Bv fl) (Bv (List.replicate (s.length - fl.length) []))=some (Bv (fl++List.replicate (s.length - fl.length) [])):=td _ _ (by simp;omega);have hsl3:G4 1 (Bv (fl++List.replicate (s.length - fl.length) [])) (.i .i64 0) (.i .i64 ((fl.length:Nat):Int))=some (Bv fl):=by rw [J1 _ _ _ _ _ (by omega) (by omega) (by simp;omega)];simp
      simp (disch:=omega) only [V5,hkk,i1,i0,hxy,ls,s3,hsl1,hsl2,hrep,happ,hsl3,EVT,EVM,EVC,xe,EVP,EV,simprocAttr]
     ·left;refine ⟨k+1,?_,⟨by omega,by omega,?_⟩,by omega⟩
      ·simp (disch:=omega) only [V5,hkk,i1,i0,hxy,EVT,EVM,EVC,xe,EVP,EV,simprocAttr]
      ·rw [cs,tk];simp [eqs,hxy]
    ·right;have e:k=l.length:=by omega
     subst e;rw [Dv] at k3;refine ⟨_,?_,?_,rfl⟩
     ·rw [if_pos k3];simp (disch:=omega) only [V5,EVT,EVM,EVC,xe,EVP,EV,simprocAttr]
     ·rw [if_pos k3];rfl
  by_cases h:cpt eqs l=l
  ·rw [if_pos h] at key;rw [h];simp (disch:=omega) only [V5,h2,key,EVT,EVM,EVC,xe,EVP,EV,simprocAttr]
  ·rw [if_neg h] at key;simp (disch:=omega) only [V5,h2,key,EVT,EVM,EVC,xe,EVP,EV,simprocAttr]
end Go.X.G
/- Delegations and names of a zone, as the program finds them. -/
namespace Go.X.G
open Go Go.X
def Ek4 {z:Zone} {n b:List UInt8} {c:Rec} (hI:b=[]∨under n b=true):(if (D8 z c && under n c.name && (decide (b=[])||decide ((lbl c.name).length<(lbl b).length)))=true then c.name else b)=[]∨under n (if (D8 z c && under n c.name && (decide (b=[])||decide ((lbl c.name).length<(lbl b).length)))=true then c.name else b)=true:=by
 split
 ·rename_i h;simp only [Ay] at h;exact .inr h.1.2
 ·exact hI
def cutsN (z:Zone):List (List UInt8):=setN ((z.recs.filter (D8 z)).map Rec.name)
def dy (z:Zone) (x:List UInt8):x∈cutsN z↔∃r∈z.recs,D8 z r=true∧r.name=x:=by unfold cutsN;rw [Jp,Eb];simp only [Dp,and_assoc]
def Cd5 {l:List (List UInt8)} (h:∀x∈l,x.length≤9223372036854775807):∀x∈setN l,x.length≤9223372036854775807:=fun x hx=>h x ((Jp l x).1 hx)
def Bs5 (z:Zone) (hz:z.wf) (hl:z.recs.length≤1000000):S Bk8 1 [z.pv]=some [Bv (cutsN z)]:=by
 refine Fs8 (N:=z.recs.length+1) rfl ?_;have g1:=hz.origin;unfold Mc at g1;have key:Dx8.ev S (z.recs.length+1) [z.pv]=some (.yld 0 [Bv ([]++(z.recs.filter (D8 z)).map Rec.name)]):=by
  refine D5 z.recs (fun i (b:List (List UInt8))=>[Bv b, .i .i64 (i:Int)]) (fun i b r=> .yld 0 [Bv (b++(r.filter (D8 z)).map Rec.name)]) (fun i b=>b.length≤i) [] rfl (B9 _) (by omega) (fun i b c r hd hi hc hI=> ?_) (fun b hI=> ?_)
  ·left;have g2:=(hz.recs.2 c (Ar hc)).name;unfold Mc at g2;refine ⟨if D8 z c then b++[c.name] else b,?_,by split<;>(try rw [Ab,List.length_singleton])<;>omega,by rcases Aq (D8 z c) with q|q<;>simp [q]⟩;by_cases h1:c.typ=2
   ·by_cases h2:c.name=z.origin
    ·simp (disch:=omega) only [ux,hc,h1,h2,EVM,EVC,xe,EVP,EV,simprocAttr];simp [D8,H4,h2]
    ·have k1:=Lk c.name z.origin g2 g1;rcases Aq (under c.name z.origin) with h3|h3
     ·rw [h3] at k1;simp (disch:=omega) only [ux,hc,h1,h2,h3,k1,EVM,EVC,xe,EVP,EV,simprocAttr];simp [D8,H4,h1,h2,h3]
     ·rw [h3] at k1;simp (disch:=omega) only [ux,hc,h1,h2,h3,k1,EVM,EVC,xe,EVP,EV,simprocAttr];simp [D8,H4,h1,h2,h3]
   ·simp (disch:=omega) only [ux,hc,h1,EVM,EVC,xe,EVP,EV,simprocAttr];simp [D8,h1]
  ·simp (disch:=omega) only [ux,EVM,EVC,xe,EVP,EV,simprocAttr];simp [Out.goes]
 rw [Cj] at key;have hlen:((z.recs.filter (D8 z)).map Rec.name).length≤1000000:=by rw [Dr];exact Cl (Ft _ _) hl
 have hw:∀x∈(z.recs.filter (D8 z)).map Rec.name,x.length≤9223372036854775807:=fun x hx=>by obtain ⟨r,hr,rfl⟩:=Eb.1 hx;exact (hz.recs.2 r (Dp.1 hr).1).name
 have k1:=Yj _ hlen hw;have k2:=Mn (((z.recs.filter (D8 z)).map Rec.name).mergeSort fun x y=> !decide (Iv y x<0)) (by rw [fq];exact hlen);rw [show cpt eqs (((z.recs.filter (D8 z)).map Rec.name).mergeSort fun x y=> !decide (Iv y x<0))=cutsN z from rfl] at k2;generalize ((z.recs.filter (D8 z)).map Rec.name).mergeSort (fun x y=> !decide (Iv y x<0))=so at*;generalize (z.recs.filter (D8 z)).map Rec.name=un at*;simp (disch:=omega) only [ux,key,k1,k2,Ex,L4,EVM,EVC,xe,EVP,EV,simprocAttr]
def Af6 (l:List Rec) (hl:l.length≤1000000) (hw:∀r∈l,r.wf):S Bk7 1 [Ag l]=some [Bv (setN (l.map Rec.name))]:=by
 refine Fs7 (N:=l.length+1) rfl ?_;have key:Dx7.ev S (l.length+1) [Ag l]=some (.yld 0 [Bv ([]++l.map Rec.name)]):=by
  refine D5 l (fun i (b:List (List UInt8))=>[Bv b, .i .i64 (i:Int)]) (fun i b r=> .yld 0 [Bv (b++r.map Rec.name)]) (fun i b=>b.length≤i) [] rfl (B9 _) (by omega) (fun i b c r hd hi hc hI=> ?_) (fun b hI=> ?_)
  ·left;refine ⟨b++[c.name],?_,by simp;omega,by simp⟩;simp (disch:=omega) only [Df5,hc,EVM,EVC,xe,EVP,EV,simprocAttr]
  ·simp (disch:=omega) only [Df5,EVM,EVC,xe,EVP,EV,simprocAttr];simp [Out.goes]
 rw [Cj] at key;have hlen:(l.map Rec.name).length≤1000000:=by rw [Dr];exact hl
 have hw:∀x∈l.map Rec.name,x.length≤9223372036854775807:=fun x hx=>by obtain ⟨r,hr,rfl⟩:=Eb.1 hx;exact (hw r hr).name
 have k1:=Yj _ hlen hw;have k2:=Mn ((l.map Rec.name).mergeSort fun x y=> !decide (Iv y x<0)) (by rw [fq];exact hlen);rw [show cpt eqs ((l.map Rec.name).mergeSort fun x y=> !decide (Iv y x<0))=setN (l.map Rec.name) from rfl] at k2;generalize setN (l.map Rec.name)=se at*;generalize (l.map Rec.name).mergeSort (fun x y=> !decide (Iv y x<0))=so at*;generalize l.map Rec.name=un at*;simp (disch:=omega) only [Df5,key,k1,k2,Ex,L4,EVM,EVC,xe,EVP,EV,simprocAttr]
def Br1 (c owner:List UInt8) (hc:c.length≤9223372036854775807) (ho:owner.length≤9223372036854775807):S yf 1 [.s c, .s owner]=some [.b (decide (c≠owner) && under owner c)]:=by
 refine Fs6 (N:=1) rfl ?_;have k1:=Lk owner c ho hc;by_cases h:c=owner
 ·simp (disch:=omega) only [Ez0,h,EVM,EVC,xe,EVP,EV,simprocAttr];simp
 ·simp (disch:=omega) only [Ez0,h,k1,EVM,EVC,xe,EVP,EV,simprocAttr];simp
def Ax6 (z:Zone) (acc:List (List UInt8)) (n:List UInt8) (p1 p2 p3 p4 p5 p6:PV) (N:Nat) (hu:under n z.origin=true) (ha:acc.length≤1000000) (hN:1000<N) (hp2:Ht 1 p2 p4=some (.s n)):
  Bx6.ev S N [z.pv,p1,p2,Bv acc,p4,p5,p6]=some (.yld 2 [Bv (acc++upN z.origin n)]):=by
 obtain ⟨v1,v2,_⟩:=Ct.1 hu;have hlb:=F2 n;have h0:jn ((lbl n).drop 0)=n:=i8 v1;have e0:upN z.origin n=(upN z.origin n).take ((lbl n).length - (lbl z.origin).length+1):=by rw [Dj];simp [upN]
 have:=E2 (fn:=S) (N:=N) (η:=[z.pv,p1,p2,Bv acc,p4,p5,p6]) (id:=3) (init:=[(.v 3),(.proj 0 (.idx 1 (.v 2) (.v 4)))]) (body:=Bm2) ((lbl n).length - (lbl z.origin).length) (fun k=>[Bv (acc++(upN z.origin n).take k), .s (jn ((lbl n).drop k))])
  (fun _=> .yld 2 [Bv (acc++upN z.origin n)]) ?_ (by omega) (fun k hk=> ?_) ?_
 ·exact this
 ·rw [h0];simp (disch:=omega) only [hp2,EVM,EVC,xe,EVP,EV,simprocAttr];simp
 ·left;obtain ⟨q1,q2⟩:=Az8 hu hk;have q3:¬jn ((lbl n).drop k)=z.origin:=fun h=>by have:=(Y5 hu (Nat.le_of_lt hk)).1 h;omega
  have q4:=qf v1 k;have k1:=Vp (jn ((lbl n).drop k)) (by omega);rw [q1,q2] at k1;have q5:(upN z.origin n).take (k+1)=(upN z.origin n).take k++[jn ((lbl n).drop k)]:=by rw [Ck,Og (Nat.le_of_lt hk)];rfl
  rw [q5,←Am];have q6:(acc++(upN z.origin n).take k).length≤1000300:=by rw [Ab,As];omega
  generalize acc++(upN z.origin n).take k=a at*;refine ⟨?_,rfl⟩;generalize jn ((lbl n).drop (k+1))=nx at*;generalize jn ((lbl n).drop k)=cu at*;simp (disch:=omega) only [fz,q3,k1,EVM,EVC,xe,EVP,EV,simprocAttr]
 ·have q3:=(Y5 hu (Af _)).2 rfl;have q5:(upN z.origin n)=(upN z.origin n).take ((lbl n).length - (lbl z.origin).length)++[jn ((lbl n).drop ((lbl n).length - (lbl z.origin).length))]:=by have:=Ck (l:=upN z.origin n) (i:=(lbl n).length - (lbl z.origin).length);rw [Og (Af _)] at this;rw [←e0] at this;exact this
  rw [q3] at q5 ⊢;have q6:(acc++(upN z.origin n).take ((lbl n).length - (lbl z.origin).length)).length≤1000300:=by rw [Ab,As];omega
  refine ⟨?_,rfl⟩
  conv=>rhs;rw [q5,←Am]
  generalize acc++(upN z.origin n).take ((lbl n).length - (lbl z.origin).length)=a at*;simp (disch:=omega) only [fz,EVM,EVC,xe,EVP,EV,simprocAttr]
def Cs6 (z:Zone) (owner:List UInt8):((cutsN z).any fun c=>decide (c≠owner) && under owner c)=ed z owner:=by
 rw [Ds];unfold ed;simp only [List.any_eq_true,Ay,decide_eq_true_eq,dy];constructor
 ·rintro ⟨x,⟨r,hr,h1,rfl⟩,h2,h3⟩;exact ⟨r,hr,⟨h1,h2⟩,h3⟩
 ·rintro ⟨r,hr,⟨h1,h2⟩,h3⟩;exact ⟨r.name,⟨r,hr,h1,rfl⟩,h2,h3⟩
def Hs (z:Zone) (n:List UInt8):Bool:=under n z.origin && !ed z n
def Yg (z:Zone) (hz:z.wf) (hl:z.recs.length≤1000):S zj 1 [z.pv]=some [Bv (namesN z)]:=by
 refine Gk0 (N:=z.recs.length+1001) rfl ?_;have g1:=hz.origin;unfold Mc at g1;have k1:=Bs5 z hz (by omega);have k2:=Af6 z.recs (by omega) (fun r hr=>hz.recs.2 r hr);have hol:(setN (z.recs.map Rec.name)).length≤z.recs.length:=by have:=Wg (z.recs.map Rec.name);rwa [Dr] at this
 have how:∀x∈setN (z.recs.map Rec.name),x.length≤9223372036854775807:=Cd5 fun x hx=>by obtain ⟨r,hr,rfl⟩:=Eb.1 hx;exact (hz.recs.2 r hr).name
 have hcl:(cutsN z).length≤1000000:=by have:=Wg ((z.recs.filter (D8 z)).map Rec.name);rw [Dr] at this;have h2:=Ft (D8 z) z.recs;show (setN ((z.recs.filter (D8 z)).map Rec.name)).length≤1000000;omega
 have hcw:∀x∈cutsN z,x.length≤9223372036854775807:=fun x hx=>by obtain ⟨r,hr,_,rfl⟩:=(dy z x).1 hx;exact (hz.recs.2 r hr).name
 have hmem:∀x,x∈((setN (z.recs.map Rec.name)).filter (Hs z)).flatMap (upN z.origin)↔Br7 z x:=by
  intro x;unfold Br7 Hs;simp only [List.mem_flatMap,Dp,Jp,Eb,Ay,Br];constructor
  ·rintro ⟨o,⟨⟨r,hr,rfl⟩,h1,h2⟩,h3⟩;obtain ⟨h4,h5⟩:=(Jg h1).1 h3;exact ⟨r,hr,h1,h2,h4,h5⟩
  ·rintro ⟨r,hr,h1,h2,h4,h5⟩;exact ⟨r.name,⟨⟨r,hr,rfl⟩,h1,h2⟩,(Jg h1).2 ⟨h4,h5⟩⟩
 generalize hO:setN (z.recs.map Rec.name)=O at*;have key:Dy5.ev S (z.recs.length+1001) [z.pv,Bv (cutsN z),Bv O]=some (.yld 0 [Bv ([]++(O.filter (Hs z)).flatMap (upN z.origin))]):=by
  refine D5 O (fun i (b:List (List UInt8))=>[Bv b, .i .i64 (i:Int)]) (fun i b r=> .yld 0 [Bv (b++(r.filter (Hs z)).flatMap (upN z.origin))]) (fun i b=>b.length≤256*i) [] rfl (B9 _) (by omega) (fun i b c r hd hi hc hI=> ?_) (fun b hI=> ?_)
  ·left;have g2:=how c (Ar hc);have k3:=Lk c z.origin g2 g1;have hid:=Cs6 z c;rcases Aq (under c z.origin) with h1|h1
   ·have k4:=Qv (cutsN z) yf [.s c] _ hcl (fun x hx=>Br1 x c (hcw x hx) g2);rw [hid] at k4;rw [h1] at k3;rcases Aq (ed z c) with h2|h2
    ·refine ⟨b,?_,by omega,by simp [Hs,h1,h2]⟩;rw [h2] at k4;generalize cutsN z=cz at*;simp (disch:=omega) only [fz,hc,k3,k4,EVM,EVC,xe,EVP,EV,simprocAttr]
    ·have hu:=Wq z.origin c;refine ⟨b++upN z.origin c,?_,by rw [Ab];omega,by simp [Hs,h1,h2]⟩;rw [h2] at k4;have k5:∀p5 p6,Bx6.ev S (z.recs.length+1001) [z.pv,Bv (cutsN z),Bv O,Bv b, .i .i64 (i:Int),p5,p6]=some (.yld 2 [Bv (b++upN z.origin c)]):=fun p5 p6=>Ax6 z b c _ _ (Bv b) _ p5 p6 _ h1 (by omega) (by omega) (by rw [Ln _ _ _ (by omega)];simp [hc]);generalize b++upN z.origin c=b' at*;generalize cutsN z=cz at*;simp (disch:=omega) only [fz,hc,k3,k4,k5,EVM,EVC,xe,EVP,EV,simprocAttr]
   ·refine ⟨b,?_,by omega,by simp [Hs,h1]⟩;rw [h1] at k3;generalize cutsN z=cz at*;simp (disch:=omega) only [fz,hc,k3,EVM,EVC,xe,EVP,EV,simprocAttr]
  ·generalize cutsN z=cz at*;simp (disch:=omega) only [fz,EVM,EVC,xe,EVP,EV,simprocAttr];simp [Out.goes]
 rw [Cj] at key;have hxl:((O.filter (Hs z)).flatMap (upN z.origin)).length≤256*O.length:=by
  have:∀l:List (List UInt8),(l.flatMap (upN z.origin)).length≤256*l.length:=by
   intro l
   induction l with
   |nil=>simp
   |cons x r ih=>
    have:=Wq z.origin x;rw [D9,Ab,A5];omega
  refine Cl (this _) ?_;have:=Ft (Hs z) O;omega
 have hxw:∀x∈(O.filter (Hs z)).flatMap (upN z.origin),x.length≤9223372036854775807:=fun x hx=>by obtain ⟨r,hr,_,_,h4,_⟩:=(hmem x).1 hx;have:=Jd (Ct.1 h4).2.1;omega
 have he:setN ((O.filter (Hs z)).flatMap (upN z.origin))=namesN z:=pq z _ hmem;generalize (O.filter (Hs z)).flatMap (upN z.origin)=un at*;have k6:=Yj un (by omega) hxw;have k7:=Mn (un.mergeSort fun x y=> !decide (Iv y x<0)) (by rw [fq];omega);rw [show cpt eqs (un.mergeSort fun x y=> !decide (Iv y x<0))=setN un from rfl,he] at k7;generalize un.mergeSort (fun x y=> !decide (Iv y x<0))=so at*;generalize namesN z=nz at*;generalize cutsN z=cz at*;simp (disch:=omega) only [fz,k1,k2,key,k6,k7,Ex,L4,EVM,EVC,xe,EVP,EV,simprocAttr]
end Go.X.G
/- Delegations and names of a zone, as the reference finds them; what exists. -/
namespace Go.X.G
open Go Go.X
def Av7 (n:List UInt8) (hn:n.length≤9223372036854775807):S Bj4 1 [.s n]=some [.s (parentN n), .b (Sn n)]:=by
 refine Fp7 (N:=1) rfl ?_;have k1:=split_ok n hn;have hl:=F2 n;unfold parentN Sn;by_cases h:lbl n=[]
 ·have e:¬(vld n=true∧n≠[46]):=fun ⟨h1,h2⟩=>h2 ((Sz h1).1 h);have e2:(vld n && !decide (n=[46]))=false:=by
   rcases Aq (vld n) with h1|h1
   ·have:=(Sz h1).1 h;simp [this]
   ·simp [h1]
  rw [if_neg e,e2];rw [h] at k1;simp (disch:=omega) only [Ey7,k1,EVM,EVC,xe,EVP,EV,simprocAttr]
  try simp
 ·have h1:vld n=true:=by
   rcases Aq (vld n) with h1|h1
   ·exact h1
   ·exact absurd (qz h1) h
  have h2:n≠[46]:=fun e=>h ((Sz h1).2 e);have e2:(vld n && !decide (n=[46]))=true:=by simp [h1,h2]
  rw [if_pos ⟨h1,h2⟩,e2];have hp:=Bf.2 h;have ls:G4 1 (Bv (lbl n)) (.i .i64 1) (.i .i64 ((lbl n).length:Int))=some (Bv ((lbl n).drop 1)):=by rw [J1 _ _ _ _ _ (by omega) (by omega) (by omega)];simp
  have k2:=Dn8 ((lbl n).drop 1) (by simp;omega) (fun x hx=>Bx0 n x (Gx hx));have h0:¬((lbl n).length:Int)=0:=by omega
  simp (disch:=omega) only [Ey7,k1,k2,ls,h0,EVM,EVC,xe,EVP,EV,simprocAttr]
def Dm3 (z:Zone) (n:List UInt8) (hz:z.wf) (hl:z.recs.length≤1000000) (hn:n.length≤9223372036854775807):S Bj5 2 [z.pv, .s n]=some [.s (Bs0 z n), .b (decide (Bs0 z n≠[]))]:=by
 refine Fp8 (N:=z.recs.length+1) rfl ?_;have g1:=hz.origin;unfold Mc at g1;have key:Dx1.ev S (z.recs.length+1) [z.pv, .s n]=some (.yld 0 [.s (fj z n [] z.recs)]):=by
  refine D5 z.recs (fun i (b:List UInt8)=>[.s b, .i .i64 (i:Int)]) (fun i b r=> .yld 0 [.s (fj z n b r)]) (fun i b=>b=[]∨under n b=true) [] rfl (.inl rfl) (by omega) (fun i b c r hd hi hc hI=> ?_) (fun b hI=> ?_)
  ·left;have g2:=(hz.recs.2 c (Ar hc)).name;unfold Mc at g2;refine ⟨if D8 z c && under n c.name && (decide (b=[])||decide ((lbl c.name).length<(lbl b).length)) then c.name else b,?_,Ek4 hI,rfl⟩;by_cases h1:c.typ=2
   ·have k1:=Jb c.name z.origin g2 g1;have k2:=Gf n c.name hn g2;rcases Aq (H4 c.name z.origin) with h3|h3
    ·rcases Aq (under n c.name) with h4|h4
     ·rw [h3] at k1;rw [h4] at k2;by_cases h5:b=[]
      ·simp (disch:=omega) only [Yp,hc,h1,h3,h4,h5,k1,k2,EVM,EVC,xe,EVP,EV,simprocAttr];simp [D8,h1,h3,h4,h5]
      ·have hb:=hI.resolve_left h5;have k3:=Hk c.name g2;have k4:=Hk b (by have:=Jd (Ct.1 hb).2.1;omega);by_cases h6:(lbl c.name).length<(lbl b).length
       ·have h8:((lbl c.name).length:Int)<((lbl b).length:Int):=by omega
        simp (disch:=omega) only [Yp,hc,h1,h3,h4,h5,h8,k1,k2,k3,k4,EVM,EVC,xe,EVP,EV,simprocAttr];simp [D8,h1,h3,h4,h5,h6]
       ·have h8:¬((lbl c.name).length:Int)<((lbl b).length:Int):=by omega
        simp (disch:=omega) only [Yp,hc,h1,h3,h4,h5,h8,k1,k2,k3,k4,EVM,EVC,xe,EVP,EV,simprocAttr];simp [D8,h1,h3,h4,h5,h6]
     ·rw [h3] at k1;rw [h4] at k2;simp (disch:=omega) only [Yp,hc,h1,h3,h4,k1,k2,EVM,EVC,xe,EVP,EV,simprocAttr];simp [D8,h1,h3,h4]
    ·rw [h3] at k1;simp (disch:=omega) only [Yp,hc,h1,h3,k1,EVM,EVC,xe,EVP,EV,simprocAttr];simp [D8,h1,h3]
   ·simp (disch:=omega) only [Yp,hc,h1,EVM,EVC,xe,EVP,EV,simprocAttr];simp [D8,h1]
  ·simp (disch:=omega) only [Yp,EVM,EVC,xe,EVP,EV,simprocAttr];simp [fj,Out.goes]
 rw [show fj z n [] z.recs=Bs0 z n from rfl] at key;simp (disch:=omega) only [Yp,key,EVM,EVC,xe,EVP,EV,simprocAttr]
 try simp
def Yx (x:List UInt8):List (List UInt8)→List (List UInt8)
 |[]=>[x]
 |y::r=>if Iv y x<0 then y::Yx x r else if y=x then y::r else x::y::r
def Kw (x:List UInt8):List (List UInt8)→Nat
 |[]=>0
 |y::r=>if Iv y x<0 then Kw x r+1 else 0
def qw (x:List UInt8):∀l,Kw x l≤l.length
 |[]=>Af _
 |y::r=>by have:=qw x r;simp only [Kw];split<;>simp;omega
def Bb6 (x:List UInt8):∀(l:List (List UInt8)),Yx x l=match l[Kw x l]? with
  |some y=>if y=x then l else l.take (Kw x l)++[x]++l.drop (Kw x l)
  |none=>l.take (Kw x l)++[x]++l.drop (Kw x l)
 |[]=>rfl
 |y::r=>by
  simp only [Yx,Kw];by_cases h:Iv y x<0
  ·simp only [if_pos h,C5];rw [Bb6 x r];cases h2:r[Kw x r]? with
   |none=>simp
   |some z=>by_cases h3:z=x<;>simp [h3]
  ·simp only [if_neg h,B3];by_cases h3:y=x<;>simp [h3]
def qm (x:List UInt8):∀l,(Yx x l).length≤l.length+1
 |[]=>by simp [Yx]
 |y::r=>by
  have:=qm x r;simp only [Yx];split
  ·simp;omega
  ·split<;>simp
def insN_mem (x z:List UInt8):∀(l:List (List UInt8)),z∈Yx x l↔z=x∨z∈l
 |[]=>by simp [Yx]
 |y::r=>by
  have ih:=insN_mem x z r;simp only [Yx];split
  ·simp only [An,ih];grind
  ·split
   ·rename_i h;subst h;simp only [An];grind
   ·simp only [An]
def Sl (x:List UInt8):∀(l:List (List UInt8)),l.Pairwise ltN→(Yx x l).Pairwise ltN
 |[],_=>by simp [Yx]
 |y::r,h=>by
  obtain ⟨h1,h2⟩:=By.1 h;have ih:=Sl x r h2;simp only [Yx];by_cases c:Iv y x<0
  ·rw [if_pos c];refine By.2 ⟨fun w hw=> ?_,ih⟩;rcases (insN_mem x w r).1 hw with rfl|hw
   ·exact (E6 _ _).1 c
   ·exact h1 w hw
  ·rw [if_neg c];by_cases e:y=x
   ·rw [if_pos e];exact h
   ·rw [if_neg e];have hxy:ltN x y:=by
     rcases to_N.tri x y with q|q|q
     ·exact q
     ·exact absurd q.symm e
     ·exact absurd ((E6 _ _).2 q) c
    refine By.2 ⟨fun w hw=> ?_,h⟩;rcases An.1 hw with rfl|hw
    ·exact hxy
    ·exact to_N.tr _ _ _ hxy (h1 w hw)
def At9 (l:List (List UInt8)):List (List UInt8):=l.foldl (fun a x=>Yx x a) []
def At8 (l:List (List UInt8)):At9 l=setN l:=by
 have:∀(l a:List (List UInt8)),a.Pairwise ltN→(l.foldl (fun a x=>Yx x a) a).Pairwise ltN∧∀z,z∈l.foldl (fun a x=>Yx x a) a↔z∈a∨z∈l:=by
  intro l
  induction l with
  |nil=>intro a h;exact ⟨h,fun z=>by simp⟩
  |cons x r ih=>
   intro a h;obtain ⟨h1,h2⟩:=ih (Yx x a) (Sl x a h);refine ⟨h1,fun z=> ?_⟩;rw [Fb0,h2,insN_mem,An]
   grind
 obtain ⟨h1,h2⟩:=this l [] List.Pairwise.nil;exact Rh to_N _ _ h1 (Md l) fun x=>by rw [Jp];rw [At9,h2 x];simp
def Br0 (l:List Rec) (g:List (List UInt8)) (i:Nat) (x:Rec) (hx:l[i]? =some x) (hw:x.name.length≤9223372036854775807) (hg:∀r∈g,r.length≤9223372036854775807) (N:Nat) (hN:g.length<N) (hl:g.length≤1000000):
  Bx4.ev S N [Ag l,Bv g, .i .i64 (i:Int)]=some (.yld 2 [.i .i64 (Kw x.name g:Int)]):=by
 have key:Bx4.ev S N [Ag l,Bv g, .i .i64 (i:Int)]=some (.yld 2 [.i .i64 ((0+Kw x.name g:Nat):Int)]):=by
  refine Dh g (fun k=>[.i .i64 (k:Int)]) (fun k r=> .yld 2 [.i .i64 ((k+Kw x.name r:Nat):Int)]) rfl hN (fun k c r hd hk hc=> ?_) ?_
  ·have h1:=Tf c x.name (hg c (Ar hc)) hw;by_cases h:Iv c x.name<0
   ·left;simp (disch:=omega) only [Yn,hc,hx,h1,h,EVM,EVC,xe,EVP,EV,simprocAttr];refine ⟨trivial,?_⟩;simp only [Kw,if_pos h];congr 3;push_cast;omega
   ·right;simp (disch:=omega) only [Yn,hc,hx,h1,EVM,EVC,xe,EVP,EV,simprocAttr];simp [Kw,h,Out.goes]
  ·simp (disch:=omega) only [Yn,EVM,EVC,xe,EVP,EV,simprocAttr];simp [Kw,Out.goes]
 simpa using key
def Bp9 (l:List Rec) (hl:l.length≤1000000) (hw:∀r∈l,r.name.length≤9223372036854775807):S Bj3 1 [Ag l]=some [Bv (setN (l.map Rec.name))]:=by
 refine Fp6 (N:=l.length+1) rfl ?_;have key:Dx0.ev S (l.length+1) [Ag l]=some (.yld 0 [Bv (At9 (l.map Rec.name))]):=by
  refine D5 l (fun i (g:List (List UInt8))=>[Bv g, .i .i64 (i:Int)]) (fun i g r=> .yld 0 [Bv ((r.map Rec.name).foldl (fun acc x=>Yx x acc) g)]) (fun i g=>g.length≤i∧∀r∈g,r.length≤9223372036854775807) [] rfl ⟨Af _,fun r h=>by cases h⟩ (by omega) (fun i g c r hd hi hc hI=> ?_) (fun g hI=> ?_)
  ·left;obtain ⟨h1,h2⟩:=hI;have hcw:=hw c (Ar hc);have h3:=Br0 l g i c hc hcw h2 (l.length+1) (by omega) (by omega);have h4:=qw c.name g;have h5:=qm c.name g;refine ⟨Yx c.name g,?_,⟨by omega,fun r hr=> ?_⟩,rfl⟩
   ·rw [Bb6];cases h6:g[Kw c.name g]? with
    |none=>
     have h7:=List.getElem?_eq_none_iff.1 h6;have h8:Kw c.name g=g.length:=by omega
     simp (disch:=first|omega|(simp;omega)) only [Yn,hc,h3,h8,EVM,EVC,xe,EVP,EV,simprocAttr];simp
    |some y=>
     have h7:=(Av.1 h6).1;by_cases h9:y=c.name
     ·simp (disch:=omega) only [Yn,hc,h3,h6,h9,EVM,EVC,xe,EVP,EV,simprocAttr]
     ·simp (disch:=first|omega|(simp;omega)) only [Yn,hc,h3,h6,h9,EVM,EVC,xe,EVP,EV,simprocAttr];simp
   ·rcases (insN_mem c.name r g).1 hr with h|h
    ·subst h;exact hcw
    ·exact h2 r h
  ·simp (disch:=omega) only [Yn,EVM,EVC,xe,EVP,EV,simprocAttr];simp [Out.goes]
 rw [At8] at key;simp (disch:=omega) only [Yn,key,EVM,EVC,xe,EVP,EV,simprocAttr]
def R8 (n:List UInt8):Rec:=⟨n,0,0,⟨false,0,0,[],[],[],0,0,0,0,0,0,0⟩⟩
def xn (z:Zone) (n:List UInt8):List (List UInt8):=if ed z n=true then [] else if under n z.origin=true then upN z.origin n else []
def gp (n:List UInt8):(parentN n).length≤254:=by
 unfold parentN;split
 ·rename_i h;exact qf h.1 1
 ·simp
def Af7 (z:Zone) (acc:List Rec) (n:List UInt8) (p1 p2 p3 p4:PV) (x:Rec) (i:Nat) (N:Nat) (hx:z.recs[i]? =some x) (hxn:x.name=n) (hn:n.length≤9223372036854775807) (ho:z.origin.length≤9223372036854775807) (ha:acc.length≤1000000) (hN:1000<N) (hp1:p1=Ag acc) (hp2:p2= .i .i64 (i:Int)):
  Bx5.ev S N [z.pv,p1,p2,p3,p4]=some (.yld 2 [Ag (acc++(if under n z.origin=true then upN z.origin n else []).map R8)]):=by
 subst hp1 hp2;have init:E.evs [z.pv,Ag acc, .i .i64 (i:Int),p3,p4] [(.v 1),(.proj 0 (.idx 16 (.proj 1 (.v 0)) (.v 2))),(.c (.i .i64 (0)))]=some [Ag acc, .s n, .i .i64 0]:=by simp (disch:=omega) only [hx,hxn,EVM,EVC,xe,EVP,EV,simprocAttr]
 rcases Aq (under n z.origin) with hu|hu
 ·rw [if_pos hu];obtain ⟨v1,v2,_⟩:=Ct.1 hu;have hlb:=F2 n;have h0:jn ((lbl n).drop 0)=n:=i8 v1;generalize hm:(lbl n).length - (lbl z.origin).length=m at*;have hup:∀k,k≤m→(upN z.origin n)[k]? =some (jn ((lbl n).drop k)):=fun k hk=>Og (by omega);have hul:(upN z.origin n).length=m+1:=by simp [upN,hm]
  have e0:(upN z.origin n).take (m+1)=upN z.origin n:=Dj (by omega);have:=E2 (fn:=S) (N:=N) (η:=[z.pv,Ag acc, .i .i64 (i:Int),p3,p4]) (id:=3) (init:=[(.v 1),(.proj 0 (.idx 16 (.proj 1 (.v 0)) (.v 2))),(.c (.i .i64 (0)))]) (body:=tx) (m+1)
   (fun k=>[Ag (acc++((upN z.origin n).take k).map R8), .s (if k≤m then jn ((lbl n).drop k) else parentN z.origin), .i .i64 (k:Int)])
   (fun _=> .yld 2 [Ag (acc++(upN z.origin n).map R8)]) ?_ (by omega) (fun k hk=> ?_) ?_
  ·exact this
  ·rw [init,if_pos (B9 _),h0];simp
  ·have hk':k≤m:=by omega
   rw [if_pos hk'];have q4:=qf v1 k;have hcu:under (jn ((lbl n).drop k)) z.origin=true:=((Jg hu).1 (Ar (hup k hk'))).2;have k2:=Gf (jn ((lbl n).drop k)) z.origin (by omega) ho;have k1:=Av7 (jn ((lbl n).drop k)) (by omega);rw [hcu] at k2;have q5:((upN z.origin n).take (k+1)).map R8=((upN z.origin n).take k).map R8++[R8 (jn ((lbl n).drop k))]:=by rw [Ck,hup k hk',Fz9];rfl
   have q6:(acc++((upN z.origin n).take k).map R8).length≤1000300:=by rw [Ab,Dr,As];omega
   by_cases hlt:k<m
   ·left;rw [if_pos (by omega)];obtain ⟨q1,q2⟩:=Az8 hu (k:=k) (by omega);rw [q1,q2] at k1;rw [q5,←Am];generalize acc++((upN z.origin n).take k).map R8=a at*;refine ⟨?_,rfl⟩;generalize jn ((lbl n).drop (k+1))=nx at*;generalize jn ((lbl n).drop k)=cu at*;simp (disch:=omega) only [Q7,k1,k2,R8,EVM,EVC,xe,EVP,EV,simprocAttr]
   ·have ek:k=m:=by omega
    subst ek;rw [if_neg (by omega)];have q3:jn ((lbl n).drop k)=z.origin:=(Y5 hu (by omega)).2 (by omega);rw [q3] at k1 k2 q5 ⊢;rcases Aq (Sn z.origin) with hp|hp
    ·left;rw [hp] at k1;rw [q5,←Am];generalize acc++((upN z.origin n).take k).map R8=a at*;refine ⟨?_,rfl⟩;generalize parentN z.origin=nx at*;simp (disch:=omega) only [Q7,k1,k2,R8,EVM,EVC,xe,EVP,EV,simprocAttr]
    ·right;rw [hp] at k1;rw [e0] at q5;rw [q5,←Am];generalize acc++((upN z.origin n).take k).map R8=a at*;refine ⟨?_,rfl⟩;generalize parentN z.origin=nx at*;simp (disch:=omega) only [Q7,k1,k2,R8,EVM,EVC,xe,EVP,EV,simprocAttr]
  ·rw [e0,if_neg (by omega)];refine ⟨?_,rfl⟩;have k2:=Gf (parentN z.origin) z.origin (by have:=gp z.origin;omega) ho;rw [As6 v2] at k2;generalize acc++(upN z.origin n).map R8=a at*;generalize parentN z.origin=nx at*;simp (disch:=omega) only [Q7,k2,EVM,EVC,xe,EVP,EV,simprocAttr]
 ·rw [hu];have k2:=Gf n z.origin hn ho;rw [hu] at k2;have:=E2 (fn:=S) (N:=N) (η:=[z.pv,Ag acc, .i .i64 (i:Int),p3,p4]) (id:=3) (init:=[(.v 1),(.proj 0 (.idx 16 (.proj 1 (.v 0)) (.v 2))),(.c (.i .i64 (0)))]) (body:=tx) 0
   (fun k=>[Ag acc, .s n, .i .i64 0]) (fun _=> .yld 2 [Ag acc]) init (by omega) (fun k hk=>by omega) ?_
  ·rw [if_neg (by simp),List.map_nil,Dw];exact this
  ·refine ⟨?_,rfl⟩;simp (disch:=omega) only [Q7,k2,EVM,EVC,xe,EVP,EV,simprocAttr]
def o5 (z:Zone) (x:List UInt8):x∈z.recs.flatMap (fun r=>xn z r.name)↔Br7 z x:=by
 unfold Br7 xn;simp only [List.mem_flatMap];constructor
 ·rintro ⟨r,hr,h⟩;rcases Aq (ed z r.name) with h1|h1
  ·rw [if_pos h1] at h;cases h
  ·rcases Aq (under r.name z.origin) with h2|h2
   ·rw [if_neg (by simp [h1]),if_pos h2] at h;obtain ⟨h4,h5⟩:=(Jg h2).1 h;exact ⟨r,hr,h2,h1,h4,h5⟩
   ·rw [if_neg (by simp [h1]),if_neg (by simp [h2])] at h;cases h
 ·rintro ⟨r,hr,h1,h2,h4,h5⟩;exact ⟨r,hr,by rw [if_neg (by simp [h2]),if_pos h1];exact (Jg h1).2 ⟨h4,h5⟩⟩
def o6 (z:Zone) (n:List UInt8):(xn z n).length≤256:=by
 unfold xn;split
 ·simp
 ·split
  ·exact Wq _ _
  ·simp
def At7 (l:List (List UInt8)):(l.map R8).map Rec.name=l:=by rw [List.map_map];exact (List.map_congr_left fun _ _=>rfl).trans (List.map_id l)
def Rp (z:Zone) (hz:z.wf) (hl:z.recs.length≤1000):S ym 1 [z.pv]=some [Bv (namesN z)]:=by
 refine Ft7 (N:=z.recs.length+1001) rfl ?_;have g1:=hz.origin;unfold Mc at g1;have key:Dy2.ev S (z.recs.length+1001) [z.pv]=some (.yld 0 [Ag ([]++(z.recs.flatMap fun r=>xn z r.name).map R8)]):=by
  refine D5 z.recs (fun i (b:List Rec)=>[Ag b, .i .i64 (i:Int)]) (fun i b r=> .yld 0 [Ag (b++(r.flatMap fun r=>xn z r.name).map R8)]) (fun i b=>b.length≤256*i) [] rfl (B9 _) (by omega) (fun i b c r hd hi hc hI=> ?_) (fun b hI=> ?_)
  ·left;have g2:=(hz.recs.2 c (Ar hc)).name;unfold Mc at g2;have k1:=Dm3 z c.name hz (by omega) g2;have hh:=Dr9 z c.name;have hol:=o6 z c.name;refine ⟨b++(xn z c.name).map R8,?_,by rw [Ab,Dr];omega,by simp⟩;have k5:∀p3 p4,Bx5.ev S (z.recs.length+1001) [z.pv,Ag b, .i .i64 (i:Int),p3,p4]=some (.yld 2 [Ag (b++(if under c.name z.origin=true then upN z.origin c.name else []).map R8)]):=fun p3 p4=>Af7 z b c.name _ _ p3 p4 c i _ hc rfl g2 g1 (by omega) (by omega) rfl rfl;unfold xn;by_cases h1:Bs0 z c.name=[]
   ·have h2:ed z c.name=false:=by rw [hh];simp [h1]
    rw [if_neg (by simp [h2])];rw [h1] at k1;generalize b++(if under c.name z.origin=true then upN z.origin c.name else []).map R8=b' at*;simp (disch:=omega) only [Q7,hc,k1,k5,EVM,EVC,xe,EVP,EV,simprocAttr]
    try simp (disch:=omega) only [Q7,hc,k1,k5,ne_eq,not_true,decide_false,EVM,EVC,xe,EVP,EV,simprocAttr]
   ·by_cases h2:Bs0 z c.name=c.name
    ·have h3:ed z c.name=false:=by rw [hh];simp [h2]
     rw [if_neg (by simp [h3])];rw [h2] at k1;have h4:decide (c.name≠[])=true:=by rw [h2] at h1;simpa using h1
     rw [h4] at k1;generalize b++(if under c.name z.origin=true then upN z.origin c.name else []).map R8=b' at*;simp (disch:=omega) only [Q7,hc,k1,k5,EVM,EVC,xe,EVP,EV,simprocAttr]
    ·have h3:ed z c.name=true:=by rw [hh];simp [h1,h2]
     rw [if_pos h3];have h4:decide (Bs0 z c.name≠[])=true:=by simpa using h1
     rw [h4] at k1;simp (disch:=omega) only [Q7,hc,k1,h2,EVM,EVC,xe,EVP,EV,simprocAttr]
     try simp
  ·simp (disch:=omega) only [Q7,EVM,EVC,xe,EVP,EV,simprocAttr];simp [Out.goes]
 rw [Cj] at key;have hxl:(z.recs.flatMap fun r=>xn z r.name).length≤256*z.recs.length:=by
  have:∀l:List Rec,(l.flatMap fun r=>xn z r.name).length≤256*l.length:=by
   intro l
   induction l with
   |nil=>simp
   |cons x r ih=>
    have:=o6 z x.name;rw [D9,Ab,A5];omega
  exact this _
 have hxw:∀x∈z.recs.flatMap fun r=>xn z r.name,x.length≤9223372036854775807:=fun x hx=>by obtain ⟨r,hr,_,_,h4,_⟩:=(o5 z x).1 hx;have:=Jd (Ct.1 h4).2.1;omega
 have he:setN (z.recs.flatMap fun r=>xn z r.name)=namesN z:=pq z _ (o5 z);generalize (z.recs.flatMap fun r=>xn z r.name)=un at*;have k6:=Bp9 (un.map R8) (by rw [Dr];omega) (fun r hr=>by obtain ⟨x,hx,rfl⟩:=Eb.1 hr;exact hxw x hx)
 rw [At7,he] at k6;generalize un.map R8=ur at*;generalize namesN z=nz at*;simp (disch:=omega) only [Q7,key,k6,EVM,EVC,xe,EVP,EV,simprocAttr]
end Go.X.G
/- What exists in a zone, and what encloses a name; names with another end. -/
namespace Go.X.G
open Go Go.X
def exB (z:Zone) (x:List UInt8):Bool:=z.recs.any fun r=>under r.name z.origin && !ed z r.name && under r.name x && under x z.origin
def Db2 (z:Zone) (x:List UInt8):exB z x=true↔Br7 z x:=by unfold exB Br7;simp only [List.any_eq_true,Ay,Br,and_assoc]
def Xg (z:Zone) (x:List UInt8):decide (x∈namesN z)=exB z x:=by rw [Ds,Db2,←Un];simp
def Ld (z:Zone) (hl:z.recs.length≤1000):(namesN z).length≤1000000:=by
 have h1:=Wg (Ey2 z);have h2:∀l:List Rec,(l.flatMap fun r=>upN z.origin r.name).length≤256*l.length:=by
  intro l
  induction l with
  |nil=>simp
  |cons x r ih=>
   have:=Wq z.origin x.name;rw [D9,Ab,A5];omega
 have h3:=h2 (z.recs.filter fun r=>under r.name z.origin && !ed z r.name);have h4:=Ft (fun r=>under r.name z.origin && !ed z r.name) z.recs;show (setN (Ey2 z)).length≤1000000;unfold Ey2 at h1 ⊢;omega
def uw (z:Zone) (n:List UInt8) (hz:z.wf) (hl:z.recs.length≤1000):S Bv8 2 [z.pv, .s n]=some [.b (exB z n)]:=by refine Gv6 (N:=1) rfl ?_;have k1:=Yg z hz hl;have k2:=P0 (namesN z) n (Ld z hl);rw [Xg] at k2;generalize namesN z=nz at*;simp (disch:=omega) only [Fh6,k1,k2,EVM,EVC,xe,EVP,EV,simprocAttr]
def wq (z:Zone) (n:List UInt8) (hz:z.wf) (hl:z.recs.length≤1000):S Bv1 2 [z.pv, .s n]=some [.b (exB z n)]:=by
 have hn:=Ld z hl;refine Gq3 (N:=(namesN z).length+1) rfl ?_;have k1:=Rp z hz hl;rw [←Xg];generalize namesN z=nz at*;have key:Dz0.ev S (nz.length+1) [z.pv, .s n,Bv nz]=some (if n∈nz then .ret [.b true] else .yld 0 []):=by
  refine Dh nz (fun i=>[.i .i64 (i:Int)]) (fun i r=>if n∈r then .ret [.b true] else .yld 0 []) rfl (by omega) (fun i c r hd hi hc=> ?_) ?_
  ·by_cases h:c=n
   ·right;simp (disch:=omega) only [Ay5,hc,h,EVM,EVC,xe,EVP,EV,simprocAttr];simp [Out.goes]
   ·left;have h2:¬n=c:=fun e=>h e.symm;simp (disch:=omega) only [Ay5,hc,h,EVM,EVC,xe,EVP,EV,simprocAttr];simp [h2]
  ·simp (disch:=omega) only [Ay5,EVM,EVC,xe,EVP,EV,simprocAttr];simp [Out.goes]
 by_cases h:n∈nz
 ·rw [if_pos h] at key;simp (disch:=omega) only [Ay5,k1,key,EVM,EVC,xe,EVP,EV,simprocAttr]
  try simp [h]
 ·rw [if_neg h] at key;simp (disch:=omega) only [Ay5,k1,key,EVM,EVC,xe,EVP,EV,simprocAttr]
  try simp [h]
def Br9 (z:Zone) (n:List UInt8):Option (List UInt8):=(upN z.origin n).find? (exB z)
def P5 (z:Zone) (n:List UInt8):List UInt8:=if under n z.origin=true then (Br9 z n).getD [] else []
def Dq1 {n:List UInt8} (h:vld n=true):n≠[]:=fun e=>by subst e;simp [vld,nm] at h
def N4 {z:Zone} {n e:List UInt8} (hu:under n z.origin=true) (h:Br9 z n=some e):under n e=true∧exB z e=true:=by unfold Br9 at h;have h1:=List.mem_of_find?_eq_some h;have h2:=List.find?_some h;exact ⟨((Jg hu).1 h1).1,h2⟩
def Yh (z:Zone) (n:List UInt8) (hz:z.wf) (hl:z.recs.length≤1000) (hn:n.length≤9223372036854775807):S Bv7 2 [z.pv, .s n]=some [.s (P5 z n), .b (decide (P5 z n≠[]))]:=by
 refine Gv4 (N:=1000) rfl ?_;have g1:=hz.origin;unfold Mc at g1;have k0:=Lk n z.origin hn g1;unfold P5;rcases Aq (under n z.origin) with hu|hu
 ·rw [if_pos hu];rw [hu] at k0;have k1:=Yg z hz hl;have hnl:=Ld z hl;have k2:∀x,S iw 2 [Bv (namesN z), .s x]=some [.b (exB z x)]:=fun x=>by rw [←Xg];exact P0 (namesN z) x hnl
  generalize namesN z=nz at*;obtain ⟨v1,v2,_⟩:=Ct.1 hu;have hlb:=F2 n;have h0:jn ((lbl n).drop 0)=n:=i8 v1;let res:Option (List UInt8)→Out:=fun o=>match o with|some e=> .yld 0 [.s e]|none=> .ret [.s [], .b false]
  have key:Dz6.ev S 1000 [z.pv, .s n, .b true,Bv nz]=some (res (Br9 z n)):=by
   have:=E2 (fn:=S) (N:=1000) (η:=[z.pv, .s n, .b true,Bv nz]) (id:=1) (init:=[(.v 1)]) (body:=Bn5) ((lbl n).length - (lbl z.origin).length)
    (fun k=>[.s (jn ((lbl n).drop k))]) (fun k=>res (((upN z.origin n).drop k).find? (exB z))) ?_ (by omega) (fun k hk=> ?_) ?_
   ·exact this
   ·rw [h0];simp (disch:=omega) only [EVM,EVC,xe,EVP,EV,simprocAttr]
   ·have hup:(upN z.origin n)[k]? =some (jn ((lbl n).drop k)):=Og (Nat.le_of_lt hk);have hd:(upN z.origin n).drop k=jn ((lbl n).drop k)::(upN z.origin n).drop (k+1):=by obtain ⟨h1,h2⟩:=Av.1 hup;rw [Cf h1,h2]
    obtain ⟨q1,q2⟩:=Az8 hu hk;have q3:¬jn ((lbl n).drop k)=z.origin:=fun h=>by have:=(Y5 hu (Nat.le_of_lt hk)).1 h;omega
    have q4:=qf v1 k;have k1:=Vp (jn ((lbl n).drop k)) (by omega);rw [q1,q2] at k1;have k3:=k2 (jn ((lbl n).drop k));rw [hd];generalize jn ((lbl n).drop (k+1))=nx at*;generalize jn ((lbl n).drop k)=cu at*;rcases Aq (exB z cu) with h5|h5
    ·right;rw [h5] at k3;rw [List.find?_cons_of_pos h5];refine ⟨?_,rfl⟩;simp (disch:=omega) only [fc,k3,EVM,EVC,xe,EVP,EV,simprocAttr];rfl
    ·left;rw [h5] at k3;rw [List.find?_cons_of_neg (by simp [h5])];refine ⟨?_,rfl⟩;simp (disch:=omega) only [fc,k1,k3,q3,EVM,EVC,xe,EVP,EV,simprocAttr]
   ·have hup:(upN z.origin n)[(lbl n).length - (lbl z.origin).length]? =some (jn ((lbl n).drop ((lbl n).length - (lbl z.origin).length))):=Og (Af _);have hd:(upN z.origin n).drop ((lbl n).length - (lbl z.origin).length)=[jn ((lbl n).drop ((lbl n).length - (lbl z.origin).length))]:=by obtain ⟨h1,h2⟩:=Av.1 hup;have h9:(upN z.origin n).drop ((lbl n).length - (lbl z.origin).length+1)=[]:=V1 (by simp [upN]);rw [Cf h1,h2,h9]
    have q3:=(Y5 hu (Af _)).2 rfl;rw [hd,q3];have k3:=k2 z.origin;rcases Aq (exB z z.origin) with h5|h5
    ·rw [h5] at k3;rw [List.find?_cons_of_pos h5];refine ⟨?_,rfl⟩;simp (disch:=omega) only [fc,k3,EVM,EVC,xe,EVP,EV,simprocAttr];rfl
    ·rw [h5] at k3;rw [List.find?_cons_of_neg (by simp [h5]),List.find?_nil];refine ⟨?_,rfl⟩;simp (disch:=omega) only [fc,k3,EVM,EVC,xe,EVP,EV,simprocAttr];rfl
  cases he:Br9 z n with
  |none=>
   rw [he] at key;simp only [res] at key;simp (disch:=omega) only [fc,k0,k1,key,EVM,EVC,xe,EVP,EV,simprocAttr];simp
  |some e=>
   rw [he] at key;simp only [res] at key;have h6:=Dq1 (Ct.1 (N4 hu he).1).2.1;simp (disch:=omega) only [fc,k0,k1,key,EVM,EVC,xe,EVP,EV,simprocAttr];simp [h6]
 ·rw [if_neg (by simp [hu])];rw [hu] at k0;simp (disch:=omega) only [fc,k0,EVM,EVC,xe,EVP,EV,simprocAttr]
  try simp
def bestF (n:List UInt8):List UInt8→List (List UInt8)→List UInt8
 |b,[]=>b
 |b,x::r=>bestF n (if under n x && (decide (b=[])||decide ((lbl b).length<(lbl x).length)) then x else b) r
def X7 (n:List UInt8):∀(l:List (List UInt8)) (b:List UInt8),(b=[]∨under n b=true)→
  (bestF n b l=[]→b=[]∧∀x∈l,under n x=false)∧
  (bestF n b l≠[]→under n (bestF n b l)=true∧(bestF n b l=b∨bestF n b l∈l)∧(b≠[]→(lbl b).length≤(lbl (bestF n b l)).length)∧∀x∈l,under n x=true→(lbl x).length≤(lbl (bestF n b l)).length)
 |[],b,hb=>by simp only [bestF];refine ⟨fun h=>⟨h,fun r hr=>by simp at hr⟩,fun h=>⟨hb.resolve_left h, .inl trivial,fun _=>Af _,fun r hr=>by simp at hr⟩⟩
 |x::rs,b,hb=>by
  simp only [bestF];have hne:under n x=true→x≠[]:=fun h=>Dq1 (Ct.1 h).2.1;by_cases hc:(under n x && (decide (b=[])||decide ((lbl b).length<(lbl x).length)))=true
  ·rw [if_pos hc];simp only [Ay,A0,decide_eq_true_eq] at hc;obtain ⟨c2,c3⟩:=hc;obtain ⟨h1,h2⟩:=X7 n rs x (.inr c2);refine ⟨fun h=>absurd (h1 h).1 (hne c2),fun h=> ?_⟩;obtain ⟨g1,g2,g3,g4⟩:=h2 h;refine ⟨g1, .inr ?_,fun hb0=> ?_,fun y hy hy2=> ?_⟩
   ·rcases g2 with g2|g2
    ·rw [g2];exact .head _
    ·exact .tail _ g2
   ·have:=g3 (hne c2);rcases c3 with c3|c3
    ·exact absurd c3 hb0
    ·omega
   ·rcases An.1 hy with rfl|hy
    ·exact g3 (hne c2)
    ·exact g4 y hy hy2
  ·rw [if_neg hc];obtain ⟨h1,h2⟩:=X7 n rs b hb;have hr:under n x=true→b≠[]∧(lbl x).length≤(lbl b).length:=by intro c2;simp only [c2,Ey4,A0,decide_eq_true_eq,not_or,Nat.not_lt] at hc;exact hc
   refine ⟨fun h=> ?_,fun h=> ?_⟩
   ·obtain ⟨g1,g2⟩:=h1 h;refine ⟨g1,fun y hy=> ?_⟩;rcases An.1 hy with rfl|hy
    ·rcases Aq (under n y) with h3|h3
     ·exact absurd g1 (hr h3).1
     ·exact h3
    ·exact g2 y hy
   ·obtain ⟨g1,g2,g3,g4⟩:=h2 h;refine ⟨g1,?_,g3,fun y hy hy2=> ?_⟩
    ·rcases g2 with g2|g2
     ·exact .inl g2
     ·exact .inr (.tail _ g2)
    ·rcases An.1 hy with rfl|hy
     ·obtain ⟨q1,q2⟩:=hr hy2;have:=g3 q1;omega
     ·exact g4 y hy hy2
def Bt5 {a b c:List UInt8} (h1:under a b=true) (h2:under b c=true):under a c=true:=by obtain ⟨v1,_,s1⟩:=Ct.1 h1;obtain ⟨_,v3,s2⟩:=Ct.1 h2;exact Ct.2 ⟨v1,v3,s2.trans s1⟩
def Bl4 (z:Zone) (n:List UInt8):bestF n [] (namesN z)=P5 z n:=by
 obtain ⟨h1,h2⟩:=X7 n (namesN z) [] (.inl rfl);have hin:∀x,x∈namesN z↔exB z x=true:=fun x=>by rw [←Xg];simp
 have hor:∀x,exB z x=true→under x z.origin=true:=fun x hx=>by obtain ⟨_,_,_,_,_,h⟩:=(Db2 z x).1 hx;exact h
 unfold P5;by_cases hb:bestF n [] (namesN z)=[]
 ·have:=(h1 hb).2;rw [hb];rcases Aq (under n z.origin) with hu|hu
  ·rw [if_pos hu];cases he:Br9 z n with
   |none=>rfl
   |some e=>
    obtain ⟨g1,g2⟩:=N4 hu he;have:=this e ((hin e).2 g2);rw [g1] at this;cases this
  ·rw [if_neg (by simp [hu])]
 ·obtain ⟨g1,g2,_,g4⟩:=h2 hb;have g3:exB z (bestF n [] (namesN z))=true:=(hin _).1 (g2.resolve_left hb);have hu:under n z.origin=true:=Bt5 g1 (hor _ g3);rw [if_pos hu];generalize bestF n [] (namesN z)=b at*;have hm:b∈upN z.origin n:=(Jg hu).2 ⟨g1,hor _ g3⟩;cases he:Br9 z n with
  |none=>
   unfold Br9 at he;rw [List.find?_eq_none] at he;exact absurd g3 (he b hm)
  |some e=>
   obtain ⟨q1,q2⟩:=N4 hu he;have q3:=g4 e ((hin e).2 q2) q1;have q4:(lbl b).length≤(lbl e).length:=by
    unfold Br9 at he;obtain ⟨_,pa,pb,he2,he3⟩:=List.find?_eq_some_iff_append.1 he;obtain ⟨v1,v2,vs⟩:=Ct.1 hu;have hbm:=hm;rw [he2] at hbm;rcases B4.1 hbm with hbm|hbm
    ·have:=he3 b hbm;rw [g3] at this;cases this
    ·rcases An.1 hbm with rfl|hbm
     ·exact Af _
     ·obtain ⟨j,hj⟩:=Dt hbm;have e1:(upN z.origin n)[pa.length]? =some e:=by rw [he2,A3 (Af _)];simp
      have e2:(upN z.origin n)[pa.length+1+j]? =some b:=by rw [he2,A3 (by omega),show pa.length+1+j - pa.length=j+1 by omega];simpa using hj
      have l2:=(Av.1 e2).1;rw [show (upN z.origin n).length=(lbl n).length - (lbl z.origin).length+1 by simp [upN]] at l2;rw [Og (by omega)] at e1 e2;injection e1 with e1;injection e2 with e2;rw [←e1,←e2,(Jf v1 _).2,(Jf v1 _).2,Bn,Bn];omega
   obtain ⟨_,vb,sb⟩:=Ct.1 g1;obtain ⟨_,ve,se⟩:=Ct.1 q1;rw [Q2] at sb se;show b=e;refine Sb vb ve ?_;rw [sb,se,Nat.le_antisymm q4 q3]
def Zr (z:Zone) (n:List UInt8) (hz:z.wf) (hl:z.recs.length≤1000) (hn:n.length≤9223372036854775807):S Bv0 2 [z.pv, .s n]=some [.s (P5 z n), .b (decide (P5 z n≠[]))]:=by
 have hnl:=Ld z hl;refine Gq1 (N:=(namesN z).length+1) rfl ?_;have k1:=Rp z hz hl;have hv:∀x∈namesN z,x.length≤254:=fun x hx=>by obtain ⟨_,_,_,_,_,h⟩:=(Un z x).1 hx;exact Jd (Ct.1 h).1
 rw [←Bl4];generalize namesN z=nz at*;have key:Dy8.ev S (nz.length+1) [z.pv, .s n,Bv nz]=some (.yld 0 [.s (bestF n [] nz)]):=by
  refine D5 nz (fun i (b:List UInt8)=>[.s b, .i .i64 (i:Int)]) (fun i b r=> .yld 0 [.s (bestF n b r)]) (fun i b=>b.length≤254) [] rfl (by simp) (by omega) (fun i b c r hd hi hc hI=> ?_) (fun b hI=> ?_)
  ·left;have g2:=hv c (Ar hc);have k2:=Gf n c hn (by omega);refine ⟨if under n c && (decide (b=[])||decide ((lbl b).length<(lbl c).length)) then c else b,?_,by split<;>omega,rfl⟩;rcases Aq (under n c) with h1|h1
   ·rw [h1] at k2;by_cases h2:b=[]
    ·simp (disch:=omega) only [uy,hc,h1,h2,k2,EVM,EVC,xe,EVP,EV,simprocAttr];simp
    ·have k3:=Hk b (by omega);have k4:=Hk c (by omega);by_cases h3:(lbl b).length<(lbl c).length
     ·have h4:((lbl b).length:Int)<((lbl c).length:Int):=by omega
      simp (disch:=omega) only [uy,hc,h1,h2,h4,k2,k3,k4,EVM,EVC,xe,EVP,EV,simprocAttr];simp [h3,h2]
     ·have h4:¬((lbl b).length:Int)<((lbl c).length:Int):=by omega
      simp (disch:=omega) only [uy,hc,h1,h2,h4,k2,k3,k4,EVM,EVC,xe,EVP,EV,simprocAttr];simp [h3,h2]
   ·rw [h1] at k2;simp (disch:=omega) only [uy,hc,h1,k2,EVM,EVC,xe,EVP,EV,simprocAttr];simp
  ·simp (disch:=omega) only [uy,EVM,EVC,xe,EVP,EV,simprocAttr];simp [bestF,Out.goes]
 generalize bestF n [] nz=be at*;simp (disch:=omega) only [uy,k1,key,EVM,EVC,xe,EVP,EV,simprocAttr]
 try simp
end Go.X.G
/- Names with another end; redirections; what records of a name say. -/
namespace Go.X
structure Res where
 kind:Int
 owner:List UInt8
 wild:Bool
 target:List UInt8
 recs:List Rec
 deriving DecidableEq
def Res.cells (x:Res):List PV:=[.i .i64 x.kind, .s x.owner, .b x.wild, .s x.target,Ag x.recs]
def Res.pv (x:Res):PV:= .a x.cells
def Zf (l:List Rec) (k:IntKind) (z:Int) (n:List UInt8) (x:Rec) (h0:0≤z) (h3:l[z.toNat]? =some x):
  Kv 16 0 [.s n] (Ag l) (.i k z)=some (Ag (l.set z.toNat {x with name:=n})):=by
 have h4:(l.map Rec.pv)[z.toNat]? =some x.pv:=by rw [Bc,h3];rfl
 simp only [Kv,Ag,h0,h4,and_self,if_true,Ax];have h5:Mf x.pv 0 [.s n]=some (Rec.pv {x with name:=n}):=rfl;rw [h5];simp [List.map_set]
end Go.X
namespace Go.X.G
open Go Go.X
end Go.X.G
/- What a zone says about a question: the program and the reference. -/
namespace Go.X.G
open Go Go.X
def Bs4 (z:Zone) (n:List UInt8) (t:Int) (hl:z.recs.length≤1000000):S Bq5 3 [z.pv, .s n, .i .i64 t]=some [Ag (findR z.recs n t)]:=by refine Gj9 (N:=1) rfl ?_;have k1:=Dj8 z.recs n t hl;simp (disch:=omega) only [Fg5,k1,EVM,EVC,xe,EVP,EV,simprocAttr]
def Aj2 (z:Zone) (n:List UInt8) (t:Int):(findR z.recs n t).length≤z.recs.length:=Ft _ _
end Go.X.G
/- Wildcards; what a zone says about a question. -/
namespace Go.X.G
open Go Go.X
def Wl (n:List UInt8) (r:Rec):Rec:={r with name:=n}
def o4 (l:List Rec) (n:List UInt8) (i:Nat) (c:Rec) (r g:List Rec) (hd:l.drop i=c::r) (hi:i<l.length) (hc:l[i]? =some c) (hg:g=(l.take i).map (Wl n)++l.drop i):
  g[i]? =some c∧g.length=l.length∧g.set i {c with name:=n}=(l.take (i+1)).map (Wl n)++l.drop (i+1):=by
 have hA:((l.take i).map (Wl n)).length=i:=by rw [Dr,As];omega
 have hd1:l.drop (i+1)=r:=by rw [←Cm (i:=1) (j:=i),hd];rfl
 have ht:(l.take (i+1)).map (Wl n)=(l.take i).map (Wl n)++[Wl n c]:=by rw [Ck,hc,Fz9];rfl
 rw [ht,hd1];rw [hd] at hg;have hlen:l.length=i+(r.length+1):=by have:=congrArg List.length hd;rw [Bn,A5] at this;omega
 generalize (l.take i).map (Wl n)=A at*;subst hg;refine ⟨?_,?_,?_⟩
 ·rw [A3 (by omega),hA];simp
 ·rw [Ab,A5,hA];omega
 ·rw [Lx _ _ (by omega),hA];simp [Wl]
def rv (z:Zone) (n:List UInt8):(P5 z n).length≤254:=by
 unfold P5;rcases Aq (under n z.origin) with hu|hu
 ·rw [if_pos hu];cases h:Br9 z n with
  |none=>simp
  |some e=>exact Jd (Ct.1 (N4 hu h).1).2.1
 ·rw [if_neg (by simp [hu])];simp
end Go.X.G
/- Stable sorting, in plain words: what is sorted and keeps the order of what is alike is one list alone. -/
namespace Go.X.G
open Go Go.X
structure TP {α:Type} (le:α→α→Bool):Prop where
 tr:∀a b c,le a b=true→le b c=true→le a c=true
 tot:∀a b,le a b=true∨le b a=true
def TP.refl {α:Type} {le:α→α→Bool} (h:TP le) (a:α):le a a=true:=by rcases h.tot a a with q|q<;>exact q
def eqv {α:Type} (le:α→α→Bool) (a b:α):Bool:=le a b && le b a
structure Stab {α:Type} (le:α→α→Bool) (r l:List α):Prop where
 sorted:r.Pairwise fun a b=>le a b=true
 cls:∀x,r.filter (eqv le x)=l.filter (eqv le x)
def Stab.mem {α:Type} {le:α→α→Bool} (ht:TP le) {r l:List α} (h:Stab le r l) (x:α):x∈r↔x∈l:=by
 have e:eqv le x x=true:=by unfold eqv;rw [ht.refl];rfl
 have h1:x∈r↔x∈r.filter (eqv le x):=by rw [Dp];simp [e]
 have h2:x∈l↔x∈l.filter (eqv le x):=by rw [Dp];simp [e]
 rw [h1,h.cls,←h2]
def ob {α:Type} {le:α→α→Bool} (ht:TP le):∀(r s:List α),(r.Pairwise fun a b=>le a b=true)→(s.Pairwise fun a b=>le a b=true)→(∀x,r.filter (eqv le x)=s.filter (eqv le x))→r=s
 |[],s,_,_,h=>by
  cases s with
  |nil=>rfl
  |cons y t=>
   have:=h y;rw [List.filter_nil,D6 (by unfold eqv;rw [ht.refl];rfl)] at this;cases this
 |x::r,[],_,_,h=>by have:=h x;rw [List.filter_nil,D6 (by unfold eqv;rw [ht.refl];rfl)] at this;cases this
 |x::r,y::s,hr,hs,h=>by
  obtain ⟨r1,r2⟩:=By.1 hr;obtain ⟨s1,s2⟩:=By.1 hs;have hmem:∀z,z∈x::r↔z∈y::s:=fun z=>by
   have e:eqv le z z=true:=by unfold eqv;rw [ht.refl];rfl
   have a1:z∈x::r↔z∈(x::r).filter (eqv le z):=by rw [Dp];simp [e]
   have a2:z∈y::s↔z∈(y::s).filter (eqv le z):=by rw [Dp];simp [e]
   rw [a1,h,←a2]
  have hxy:le x y=true:=by
   rcases An.1 ((hmem y).2 (.head _)) with q|q
   ·rw [q];exact ht.refl x
   ·exact r1 y q
  have hyx:le y x=true:=by
   rcases An.1 ((hmem x).1 (.head _)) with q|q
   ·rw [q];exact ht.refl y
   ·exact s1 x q
  have e:x=y:=by have:=h x;rw [D6 (by unfold eqv;rw [ht.refl];rfl),D6 (by unfold eqv;rw [hxy,hyx];rfl)] at this;injection this
  subst e;have:r=s:=ob ht r s r2 s2 fun z=>by
   have:=h z;simp only [Q4] at this;split at this
   ·injection this
   ·exact this
  rw [this]
def Stab.one {α:Type} {le:α→α→Bool} (ht:TP le) {r s l:List α} (h1:Stab le r l) (h2:Stab le s l):r=s:=
 ob ht r s h1.sorted h2.sorted fun x=>by rw [h1.cls,h2.cls]
def mrg {α:Type} (le:α→α→Bool):List α→List α→List α
 |[],b=>b
 |x::a,[]=>x::a
 |x::a,y::b=>if le x y=true then x::mrg le a (y::b) else y::mrg le (x::a) b
termination_by a b=>a.length+b.length
def Ks {α:Type} (le:α→α→Bool) (a:List α):mrg le a []=a:=by cases a<;>simp [mrg]
def mrg_mem {α:Type} (le:α→α→Bool) (z:α):∀(a b:List α),z∈mrg le a b↔z∈a∨z∈b
 |[],b=>by simp [mrg]
 |x::a,[]=>by simp [mrg]
 |x::a,y::b=>by
  unfold mrg;split
  ·rw [An,mrg_mem le z a (y::b)];simp only [An];grind
  ·rw [An,mrg_mem le z (x::a) b];simp only [An];grind
termination_by a b=>a.length+b.length
def O7 {α:Type} {le:α→α→Bool} (ht:TP le):∀(a b:List α),(a.Pairwise fun x y=>le x y=true)→(b.Pairwise fun x y=>le x y=true)→(mrg le a b).Pairwise fun x y=>le x y=true
 |[],b,_,hb=>by simpa [mrg] using hb
 |x::a,[],ha,_=>by simpa [mrg] using ha
 |x::a,y::b,ha,hb=>by
  obtain ⟨a1,a2⟩:=By.1 ha;obtain ⟨b1,b2⟩:=By.1 hb;unfold mrg;split
  ·rename_i h;refine By.2 ⟨fun z hz=> ?_,O7 ht a (y::b) a2 hb⟩;rcases (mrg_mem le z a (y::b)).1 hz with hz|hz
   ·exact a1 z hz
   ·rcases An.1 hz with rfl|hz
    ·exact h
    ·exact ht.tr _ _ _ h (b1 z hz)
  ·rename_i h;have h':le y x=true:=(ht.tot x y).resolve_left h;refine By.2 ⟨fun z hz=> ?_,O7 ht (x::a) b ha b2⟩;rcases (mrg_mem le z (x::a) b).1 hz with hz|hz
   ·rcases An.1 hz with rfl|hz
    ·exact h'
    ·exact ht.tr _ _ _ h' (a1 z hz)
   ·exact b1 z hz
termination_by a b=>a.length+b.length
def iy {α:Type} {le:α→α→Bool} (ht:TP le) (z:α):∀(a b:List α),(a.Pairwise fun x y=>le x y=true)→(mrg le a b).filter (eqv le z)=a.filter (eqv le z)++b.filter (eqv le z)
 |[],b,_=>by simp [mrg]
 |x::a,[],_=>by simp [mrg]
 |x::a,y::b,ha=>by
  obtain ⟨a1,a2⟩:=By.1 ha;unfold mrg;split
  ·simp only [Q4];rw [iy ht z a (y::b) a2];simp only [Q4];split<;>simp
  ·rename_i h;rw [Q4,iy ht z (x::a) b ha];by_cases hy:eqv le z y=true
   ·-- then nothing of the first list is like z
    have hno:(x::a).filter (eqv le z)=[]:=by
     rw [V0];intro w hw hzw;unfold eqv at hy hzw;simp only [Ay] at hy hzw;have hxw:le x w=true:=by
      rcases An.1 hw with rfl|hw
      ·exact ht.refl _
      ·exact a1 w hw
     exact h (ht.tr _ _ _ hxw (ht.tr _ _ _ hzw.2 hy.1))
    rw [hno,D6 hy,if_pos hy];rfl
   ·rw [if_neg hy,Q3 hy]
termination_by a b=>a.length+b.length
def Stab.mrg {α:Type} {le:α→α→Bool} (ht:TP le) {r s l m:List α} (h1:Stab le r l) (h2:Stab le s m):Stab le (mrg le r s) (l++m):=
 ⟨O7 ht r s h1.sorted h2.sorted,fun x=>by rw [iy ht x r s h1.sorted,h1.cls,h2.cls,Fj]⟩
def Kr {α:Type} (le:α→α→Bool) (a2 b2:List α):∀(a1 b1:List α),(∀x∈a1,∀y∈b2,le x y=true)→(∀x∈a2,∀y∈b1,le x y=false)→mrg le (a1++a2) (b1++b2)=mrg le a1 b1++mrg le a2 b2
 |[],[],_,_=>by simp [mrg]
 |x::a1,[],h1,h2=>by
  rw [Ks,Cj];have ih:=Kr le a2 b2 a1 [] (fun w hw=>h1 w (.tail _ hw)) h2;rw [Ks,Cj] at ih;cases b2 with
  |nil=>rw [Ks,Ks]
  |cons y b=>
   rw [B0];have e:mrg le (x::(a1++a2)) (y::b)=x::mrg le (a1++a2) (y::b):=by
    conv=>lhs;unfold mrg
    rw [if_pos (h1 x (.head _) y (.head _))]
   rw [e,ih,B0]
 |[],y::b1,h1,h2=>by
  have ih:=Kr le a2 b2 [] b1 h1 (fun x hx w hw=>h2 x hx w (.tail _ hw));cases a2 with
  |nil=>simp [mrg]
  |cons x a=>
   rw [Cj] at ih ⊢;rw [B0];have e:mrg le (x::a) (y::(b1++b2))=y::mrg le (x::a) (b1++b2):=by
    conv=>lhs;unfold mrg
    rw [if_neg (by rw [h2 x (.head _) y (.head _)];simp)]
   rw [e,ih];simp [mrg]
 |x::a1,y::b1,h1,h2=>by
  rw [B0,B0];by_cases h:le x y=true
  ·have ih:=Kr le a2 b2 a1 (y::b1) (fun w hw=>h1 w (.tail _ hw)) h2;have e1:mrg le (x::(a1++a2)) (y::(b1++b2))=x::mrg le (a1++a2) (y::(b1++b2)):=by
    conv=>lhs;unfold mrg
    rw [if_pos h]
   have e2:mrg le (x::a1) (y::b1)=x::mrg le a1 (y::b1):=by
    conv=>lhs;unfold mrg
    rw [if_pos h]
   rw [e1,e2,B0,←ih];rfl
  ·have ih:=Kr le a2 b2 (x::a1) b1 h1 (fun w hw v hv=>h2 w hw v (.tail _ hv));have e1:mrg le (x::(a1++a2)) (y::(b1++b2))=y::mrg le (x::(a1++a2)) (b1++b2):=by
    conv=>lhs;unfold mrg
    rw [if_neg h]
   have e2:mrg le (x::a1) (y::b1)=y::mrg le (x::a1) b1:=by
    conv=>lhs;unfold mrg
    rw [if_neg h]
   rw [e1,e2,B0,←ih];rfl
termination_by a1 b1=>a1.length+b1.length
end Go.X.G
/- The order of records; what a checked zone is like. -/
namespace Go.X.G
open Go Go.X
def TO.prod {α β:Type} {l1:α→α→Prop} {l2:β→β→Prop} (h1:TO l1) (h2:TO l2):TO (fun p q:α×β=>l1 p.1 q.1∨(p.1=q.1∧l2 p.2 q.2)) where
 irr:=fun p h=>by
  rcases h with h|⟨_,h⟩
  ·exact h1.irr _ h
  ·exact h2.irr _ h
 tr:=fun p q r a b=>by
  rcases a with a|⟨a,a'⟩<;>rcases b with b|⟨b,b'⟩
  ·exact .inl (h1.tr _ _ _ a b)
  ·exact .inl (b▸a)
  ·exact .inl (a▸b)
  ·exact .inr ⟨a.trans b,h2.tr _ _ _ a' b'⟩
 tri:=fun p q=>by
  rcases h1.tri p.1 q.1 with a|a|a
  ·exact .inl (.inl a)
  ·rcases h2.tri p.2 q.2 with b|b|b
   ·exact .inl (.inr ⟨a,b⟩)
   ·exact .inr (.inl (Prod.ext a b))
   ·exact .inr (.inr (.inr ⟨a.symm,b⟩))
  ·exact .inr (.inr (.inl a))
def Fb3:TO (fun a b:Int=>a<b):=⟨fun a h=>by omega,fun a b c h1 h2=>by omega,fun a b=>by omega⟩
def rp (a b:Int):j9 a b<0↔a<b:=by unfold j9;split<;>(try split)<;>omega
def N9 (a b:Int):j9 a b=0↔a=b:=by unfold j9;split<;>(try split)<;>omega
abbrev Key:=List UInt8×Int×List UInt8
abbrev ltK:Key→Key→Prop:=fun p q=>ltN p.1 q.1∨(p.1=q.1∧(p.2.1<q.2.1∨(p.2.1=q.2.1∧ltB p.2.2 q.2.2)))
def Gr1:TO ltK:=to_N.prod (Fb3.prod Dq3)
def Gp8 (r:Rec):Key:=(r.name,r.typ,Ip r.typ r.data)
abbrev ltR (a b:Rec):Prop:=ltK (Gp8 a) (Gp8 b)
structure ZOk (z:Zone):Prop where
 origin:vld z.origin=true
 small:z.recs.length≤2048
 valid:∀r∈z.recs,Dq2 r=true
 rising:z.recs.Pairwise ltR
 soa:(findR z.recs z.origin 6).length=1
 ns:Db1 z.recs z.origin 2=true
 recs:∀r∈z.recs,Rn z r=true
def ZOk.beside {z:Zone} (h:ZOk z) {r x:Rec} (hr:r∈z.recs) (hx:x∈z.recs):H9 r x=true:=by have:=h.recs r hr;unfold Rn at this;simp only [Ay] at this;have h2:=this.1.2;unfold Pv at h2;exact Cy.1 h2 x hx
def ZOk.under {z:Zone} (h:ZOk z) {r:Rec} (hr:r∈z.recs):under r.name z.origin=true:=by have:=h.recs r hr;unfold Rn at this;simp only [Ay] at this;exact this.1.1.1
def ZOk.single {z:Zone} (h:ZOk z) (n:List UInt8) (t:Int) (ht:t=6∨t=5∨t=39):(findR z.recs n t).length≤1:=by
 have hp:(findR z.recs n t).Pairwise ltR:=h.rising.filter _;have hm:∀x∈findR z.recs n t,x∈z.recs∧x.name=n∧x.typ=t:=fun x hx=>by obtain ⟨h1,h2⟩:=Dp.1 hx;simp only [isK,Ay,decide_eq_true_eq] at h2;exact ⟨h1,h2.1,h2.2⟩
 generalize findR z.recs n t=l at*
 match l,hp,hm with
 |[],_,_=>simp
 |[_],_,_=>simp
 |a::b::r,hp,hm=>
  exfalso;have hab:ltR a b:=(By.1 hp).1 b (.head _);obtain ⟨a1,a2,a3⟩:=hm a (.head _);obtain ⟨b1,b2,b3⟩:=hm b (.tail _ (.head _));have hb:=h.beside a1 b1;have e:b=a:=by
   unfold H9 at hb;rw [a2,a3,b2,b3] at hb;have ht':(decide (t=6)||decide (t=5)||decide (t=39))=true:=by rcases ht with h|h|h<;>simp [h]
   rw [ht'] at hb;simp only [decide_true,d8,d9,Od,Ey4,Ay,Br,decide_eq_false_iff_not,ne_eq,Classical.not_not] at hb;exact hb.1.2
  rw [e] at hab;exact Gr1.irr _ hab
end Go.X.G
/- The order of any records; what is sorted stably and made compact is what the reference Zz. -/
namespace Go.X.G
open Go Go.X
def Ek3 (t:Int) (d:Dat):Int×List UInt8:=if Dc t d=true then (0,Ip t d) else (1,[])
abbrev ltD:Int×List UInt8→Int×List UInt8→Prop:=fun p q=>p.1<q.1∨(p.1=q.1∧ltB p.2 q.2)
def Gr2:TO ltD:=Fb3.prod Dq3
def Cs9 (t:Int) (a b:Dat):Ct0 t a b<0↔ltD (Ek3 t a) (Ek3 t b):=by unfold Ct0 Ek3 ltD;rcases Aq (Dc t a) with h1|h1<;>rcases Aq (Dc t b) with h2|h2<;>simp [h1,h2,X2,Dq3.irr]
def Bf1 (t:Int) (a b:Dat):Ct0 t a b=0↔Ek3 t a=Ek3 t b:=by unfold Ct0 Ek3;rcases Aq (Dc t a) with h1|h1<;>rcases Aq (Dc t b) with h2|h2<;>simp [h1,h2,Jz]
abbrev Fz7:=List UInt8×Int×Int×List UInt8
abbrev ltF:Fz7→Fz7→Prop:=fun p q=>ltN p.1 q.1∨(p.1=q.1∧(p.2.1<q.2.1∨(p.2.1=q.2.1∧ltD p.2.2 q.2.2)))
def to_F:TO ltF:=to_N.prod (Fb3.prod Gr2)
def Fp (r:Rec):Fz7:=(r.name,r.typ,Ek3 r.typ r.data)
def X4 (a b:Rec):Qq a b<0↔ltF (Fp a) (Fp b):=by
 unfold Qq ltF Fp;simp only;by_cases h1:Iv a.name b.name=0
 ·rw [if_neg (by simp [h1])];have e1:=N8.1 h1;have n1:¬ltN a.name b.name:=by rw [e1];exact to_N.irr _
  by_cases h2:j9 a.typ b.typ=0
  ·rw [if_neg (by simp [h2])];have e2:=(N9 _ _).1 h2;rw [e2,Cs9];constructor
   ·intro h;exact .inr ⟨e1, .inr ⟨rfl,h⟩⟩
   ·rintro (h|⟨_,h|⟨_,h⟩⟩)
    ·exact absurd h n1
    ·omega
    ·exact h
  ·rw [if_pos h2,rp];have e2:a.typ≠b.typ:=fun e=>h2 ((N9 _ _).2 e);constructor
   ·intro h;exact .inr ⟨e1, .inl h⟩
   ·rintro (h|⟨_,h|⟨h,_⟩⟩)
    ·exact absurd h n1
    ·exact h
    ·exact absurd h e2
 ·rw [if_pos h1,E6];have e1:a.name≠b.name:=fun e=>h1 (N8.2 e);constructor
  ·intro h;exact .inl h
  ·rintro (h|⟨h,_⟩)
   ·exact h
   ·exact absurd h e1
def Ls (a b:Rec):Qq a b=0↔Fp a=Fp b:=by
 unfold Qq Fp;by_cases h1:Iv a.name b.name=0
 ·rw [if_neg (by simp [h1])];have e1:=N8.1 h1;by_cases h2:j9 a.typ b.typ=0
  ·rw [if_neg (by simp [h2])];have e2:=(N9 _ _).1 h2;rw [e2,Bf1];simp [e1]
  ·rw [if_pos h2];have e2:a.typ≠b.typ:=fun e=>h2 ((N9 _ _).2 e);constructor
   ·intro h;exact absurd h h2
   ·intro h;injection h with _ h;injection h with h _;exact absurd h e2
 ·rw [if_pos h1];have e1:a.name≠b.name:=fun e=>h1 (N8.2 e);constructor
  ·intro h;exact absurd h h1
  ·intro h;injection h with h _;exact absurd h e1
def Ek9 (a b:Rec):Int:=if Qq a b≠0 then Qq a b else j9 a.ttl b.ttl
abbrev ltT:Fz7×Int→Fz7×Int→Prop:=fun p q=>ltF p.1 q.1∨(p.1=q.1∧p.2<q.2)
def to_T:TO ltT:=to_F.prod Fb3
def Cs8 (a b:Rec):Ek9 a b<0↔ltT (Fp a,a.ttl) (Fp b,b.ttl):=by
 unfold Ek9;by_cases h:Qq a b=0
 ·have e:=(Ls a b).1 h;rw [if_neg (by simp [h]),rp];simp only [ltT,e,true_and];exact ⟨.inr,fun q=>q.resolve_left (to_F.irr _)⟩
 ·rw [if_pos h,X4];have e:Fp a≠Fp b:=fun e=>h ((Ls a b).2 e);simp only [ltT,e,false_and,or_false]
def leR (a b:Rec):Bool:= !decide (Ek9 b a<0)
def Ml (a b:Rec):leR a b=true↔¬ltT (Fp b,b.ttl) (Fp a,a.ttl):=by unfold leR;simp [←Cs8]
def Fm2:TP leR where
 tr:=fun a b c h1 h2=>by rw [Ml] at*;exact to_T.ntr h2 h1
 tot:=fun a b=>by
  simp only [Ml];rcases to_T.tri (Fp a,a.ttl) (Fp b,b.ttl) with h|h|h
  ·exact .inl (to_T.asym h)
  ·rw [h];exact .inl (to_T.irr _)
  ·exact .inr (to_T.asym h)
def Bc5 (a b:Rec):eqv leR a b=true↔Fp a=Fp b∧a.ttl=b.ttl:=by
 unfold eqv;rw [Ay,Ml,Ml];constructor
 ·rintro ⟨h1,h2⟩;rcases to_T.tri (Fp a,a.ttl) (Fp b,b.ttl) with h|h|h
  ·exact absurd h h2
  ·injection h with h3 h4;exact ⟨h3,h4⟩
  ·exact absurd h h1
 ·rintro ⟨h1,h2⟩;rw [h1,h2];exact ⟨to_T.irr _,to_T.irr _⟩
def Wz {α:Type} {P:List α→Prop} (h0:P []) (h1:∀l x,P l→P (l++[x])):∀(n:Nat) (l:List α),l.length=n→P l
 |0,l,h=>by rw [Bw h];exact h0
 |n+1,l,h=>by
  have hne:l≠[]:=fun e=>by rw [e] at h;simp at h
  rw [←List.dropLast_concat_getLast hne];exact h1 _ _ (Wz h0 h1 n _ (by rw [List.length_dropLast];omega))
def Dd7 (l:List Rec) (z:Rec):Prop:=∃l1 l2,l=l1++z::l2∧(∀y∈l1,Fp y=Fp z→z.ttl<y.ttl)∧∀y∈l2,Fp y=Fp z→z.ttl≤y.ttl
def Dd7.mem {l:List Rec} {z:Rec} (h:Dd7 l z):z∈l:=by obtain ⟨l1,l2,rfl,_⟩:=h;simp
def Ih (l:List Rec) (x z:Rec):Dd7 (l++[x]) z↔(z=x∧∀y∈l,Fp y=Fp x→x.ttl<y.ttl)∨(Dd7 l z∧(Fp z=Fp x→z.ttl≤x.ttl)):=by
 constructor
 ·rintro ⟨l1,l2,h,h1,h2⟩;rcases List.eq_nil_or_concat l2 with rfl|⟨l3,w,rfl⟩
  ·obtain ⟨q1,q2⟩:=List.append_inj' h rfl;injection q2 with q2 _;subst q1;subst q2;exact .inl ⟨rfl,h1⟩
  ·rw [List.concat_eq_append,←B0,←Am] at h;obtain ⟨q1,q2⟩:=List.append_inj' h rfl;injection q2 with q2 _;subst q1;subst q2;refine .inr ⟨⟨l1,l3,rfl,h1,fun y hy=>h2 y (by simp [hy])⟩,fun e=>h2 x (by simp) e.symm⟩
 ·rintro (⟨rfl,h⟩|⟨⟨l1,l2,rfl,h1,h2⟩,h⟩)
  ·exact ⟨l,[],rfl,h,fun y hy=>by simp at hy⟩
  ·refine ⟨l1,l2++[x],by simp,h1,fun y hy e=> ?_⟩;rcases B4.1 hy with hy|hy
   ·exact h2 y hy e
   ·have:y=x:=by simpa using hy
    subst this;exact h e.symm
def Ew2 (l:List Rec):∀y∈l,∃z,Dd7 l z∧Fp z=Fp y∧z.ttl≤y.ttl:=by
 refine Wz (P:=fun l=>∀y∈l,∃z,Dd7 l z∧Fp z=Fp y∧z.ttl≤y.ttl) ?_ ?_ _ l rfl
 ·intro y h;simp at h
 ·intro l x ih y hy;by_cases hx:∀w∈l,Fp w=Fp x→x.ttl<w.ttl
  ·rcases B4.1 hy with hy|hy
   ·obtain ⟨z,h1,h2,h3⟩:=ih y hy;by_cases e:Fp z=Fp x∧x.ttl<z.ttl
    ·exact ⟨x,(Ih l x x).2 (.inl ⟨rfl,hx⟩),by rw [←e.1,h2],by have:=e.2;omega⟩
    ·exact ⟨z,(Ih l x z).2 (.inr ⟨h1,fun q=>Int.le_of_not_gt fun r=>e ⟨q,r⟩⟩),h2,h3⟩
   ·have:y=x:=by simpa using hy
    subst this;exact ⟨y,(Ih l y y).2 (.inl ⟨rfl,hx⟩),rfl,Gp4 _⟩
  ·have:∃w∈l,Fp w=Fp x∧w.ttl≤x.ttl:=by apply Classical.byContradiction;intro h;exact hx fun w hw e=>Int.lt_of_not_ge fun q=>h ⟨w,hw,e,q⟩
   obtain ⟨w,hw,hw1,hw2⟩:=this;obtain ⟨z,h1,h2,h3⟩:=ih w hw;rcases B4.1 hy with hy|hy
   ·obtain ⟨z',g1,g2,g3⟩:=ih y hy;by_cases e:Fp z'=Fp x∧x.ttl<z'.ttl
    ·exact ⟨z,(Ih l x z).2 (.inr ⟨h1,fun _=>by omega⟩),by rw [h2,hw1,←e.1,g2],by have:=e.2;omega⟩
    ·exact ⟨z',(Ih l x z').2 (.inr ⟨g1,fun q=>Int.le_of_not_gt fun r=>e ⟨q,r⟩⟩),g2,g3⟩
   ·have:y=x:=by simpa using hy
    subst this;exact ⟨z,(Ih l y z).2 (.inr ⟨h1,fun _=>by omega⟩),by rw [h2,hw1],by omega⟩
abbrev Dq7 (l:List Rec):Prop:=l.Pairwise fun a b=>ltF (Fp a) (Fp b)
def Bb4 (x:Rec):∀(l:List Rec),Dq7 l→(Dq7 (Xb x l)∧∀z,z∈Xb x l↔(z=x∧∀y∈l,Fp y=Fp x→x.ttl<y.ttl)∨(z∈l∧(Fp z=Fp x→z.ttl≤x.ttl)))
 |[],_=>by simp [Xb]
 |y::r,h=>by
  obtain ⟨h1,h2⟩:=By.1 h;obtain ⟨i1,i2⟩:=Bb4 x r h2;simp only [Xb];by_cases c:Qq y x<0
  ·rw [if_pos c];have c':=(X4 y x).1 c;have ne:Fp y≠Fp x:=fun e=>to_F.irr _ (by rw [e] at c';exact c');refine ⟨By.2 ⟨fun w hw=> ?_,i1⟩,fun z=> ?_⟩
   ·rcases (i2 w).1 hw with ⟨rfl,_⟩|⟨hw,_⟩
    ·exact c'
    ·exact h1 w hw
   ·rw [An,i2];simp only [An,forall_eq_or_imp,ne,false_implies,true_and];constructor
    ·rintro (rfl|h|⟨h,h'⟩)
     ·exact .inr ⟨.inl rfl,fun e=>absurd e ne⟩
     ·exact .inl h
     ·exact .inr ⟨.inr h,h'⟩
    ·rintro (h|⟨rfl|h,h'⟩)
     ·exact .inr (.inl h)
     ·exact .inl rfl
     ·exact .inr (.inr ⟨h,h'⟩)
  ·rw [if_neg c];by_cases e:Qq y x=0
   ·have ke:=(Ls y x).1 e;have hr:∀w∈r,Fp w≠Fp x:=fun w hw q=>to_F.irr (Fp y) (by have:=h1 w hw;rw [q,←ke] at this;exact this);rw [if_pos e];by_cases t:x.ttl<y.ttl
    ·rw [if_pos t];refine ⟨By.2 ⟨fun w hw=>by rw [←ke];exact h1 w hw,h2⟩,fun z=> ?_⟩;simp only [An,forall_eq_or_imp,ke,t,true_implies,true_and];constructor
     ·rintro (rfl|h)
      ·exact .inl ⟨rfl,fun w hw q=>absurd q (hr w hw)⟩
      ·exact .inr ⟨.inr h,fun q=>absurd q (hr z h)⟩
     ·rintro (⟨h,_⟩|⟨rfl|h,h'⟩)
      ·exact .inl h
      ·have:=h' ke;omega
      ·exact .inr h
    ·rw [if_neg t];refine ⟨h,fun z=> ?_⟩;simp only [An,forall_eq_or_imp,ke,t,false_and,and_false,false_or,forall_const,true_implies];constructor
     ·rintro (rfl|h)
      ·exact ⟨.inl rfl,fun _=>by omega⟩
      ·exact ⟨.inr h,fun q=>absurd q (hr z h)⟩
     ·exact fun h=>h.1
   ·rw [if_neg e];have hxy:ltF (Fp x) (Fp y):=by
     rcases to_F.tri (Fp x) (Fp y) with q|q|q
     ·exact q
     ·exact absurd ((Ls y x).2 q.symm) e
     ·exact absurd ((X4 y x).2 q) c
    have hall:∀w∈y::r,ltF (Fp x) (Fp w):=fun w hw=>by
     rcases An.1 hw with rfl|hw
     ·exact hxy
     ·exact to_F.tr _ _ _ hxy (h1 w hw)
    have hne:∀w∈y::r,Fp w≠Fp x:=fun w hw q=>to_F.irr _ (by have:=hall w hw;rw [q] at this;exact this);refine ⟨By.2 ⟨hall,h⟩,fun z=> ?_⟩;rw [An];constructor
    ·rintro (rfl|h)
     ·exact .inl ⟨rfl,fun w hw q=>absurd q (hne w hw)⟩
     ·exact .inr ⟨h,fun q=>absurd q (hne z h)⟩
    ·rintro (⟨h,_⟩|⟨h,_⟩)
     ·exact .inl h
     ·exact .inr h
def Ub (l:List Rec):Dq7 (Hr l)∧∀z,z∈Hr l↔Dd7 l z:=by
 refine Wz (P:=fun l=>Dq7 (Hr l)∧∀z,z∈Hr l↔Dd7 l z) ?_ ?_ _ l rfl
 ·refine ⟨List.Pairwise.nil,fun z=>⟨fun h=>by simp [Hr] at h,fun h=>by have:=h.mem;simp at this⟩⟩
 ·intro l x ih;have e:Hr (l++[x])=Xb x (Hr l):=by simp [Hr]
  obtain ⟨i1,i2⟩:=Bb4 x (Hr l) ih.1;rw [e];refine ⟨i1,fun z=> ?_⟩;rw [i2,Ih,ih.2];have:(∀y∈Hr l,Fp y=Fp x→x.ttl<y.ttl)↔∀y∈l,Fp y=Fp x→x.ttl<y.ttl:=by
   constructor
   ·intro h y hy q;obtain ⟨w,w1,w2,w3⟩:=Ew2 l y hy;have:=h w ((ih.2 w).2 w1) (by rw [w2,q]);omega
   ·intro h y hy q;exact h y ((ih.2 y).1 hy).mem q
  rw [this]
def Ad8:∀(a b:List Rec),Dq7 a→Dq7 b→(∀x,x∈a↔x∈b)→a=b
 |[],[],_,_,_=>rfl
 |[],y::b,_,_,h=>absurd ((h y).2 (.head _)) (by simp)
 |x::a,[],_,_,h=>absurd ((h x).1 (.head _)) (by simp)
 |x::a,y::b,ha,hb,h=>by
  have ha':=By.1 ha;have hb':=By.1 hb;have hxy:x=y:=by
   rcases An.1 ((h x).1 (.head _)) with h1|h1
   ·exact h1
   ·rcases An.1 ((h y).2 (.head _)) with h2|h2
    ·exact h2.symm
    ·exact absurd (hb'.1 x h1) (to_F.asym (ha'.1 y h2))
  subst hxy;rw [Ad8 a b ha'.2 hb'.2 fun z=> ?_];constructor
  ·intro hz;rcases An.1 ((h z).1 (.tail _ hz)) with rfl|h1
   ·exact absurd (ha'.1 z hz) (to_F.irr _)
   ·exact h1
  ·intro hz;rcases An.1 ((h z).2 (.tail _ hz)) with rfl|h1
   ·exact absurd (hb'.1 z hz) (to_F.irr _)
   ·exact h1
abbrev eqF:Rec→Rec→Bool:=fun a b=>decide (Qq a b=0)
def Dc0:∀(r:List Rec) (p:Rec),(p::r).Pairwise (fun a b=>leR a b=true)→(Dq7 (p::Qk eqF p r)∧∀z,z∈Qk eqF p r↔∃s1 s2,r=s1++z::s2∧∀y∈p::s1,Fp y≠Fp z)
 |[],p,_=>by simp [Qk]
 |c::r,p,h=>by
  obtain ⟨h1,h2⟩:=By.1 h;obtain ⟨i1,i2⟩:=Dc0 r c h2;have hpc:=(Ml p c).1 (h1 c (.head _));simp only [Qk];by_cases e:Qq c p=0
  ·rw [if_pos (by simp [e])];have ke:=(Ls c p).1 e;refine ⟨?_,fun z=> ?_⟩
   ·obtain ⟨j1,j2⟩:=By.1 i1;exact By.2 ⟨fun w hw=>by rw [←ke];exact j1 w hw,j2⟩
   ·rw [i2];constructor
    ·rintro ⟨s1,s2,rfl,q⟩;refine ⟨c::s1,s2,rfl,fun y hy=> ?_⟩;rcases An.1 hy with rfl|hy
     ·rw [←ke];exact q c (.head _)
     ·exact q y hy
    ·rintro ⟨s1,s2,h,q⟩;cases s1 with
     |nil=>
      injection h with h _;subst h;exact absurd ke.symm (q p (.head _))
     |cons w s1=>
      injection h with h h';subst h;exact ⟨s1,s2,h',fun y hy=>q y (.tail _ hy)⟩
  ·rw [if_neg (by simp [e])];have ne:Fp c≠Fp p:=fun q=>e ((Ls c p).2 q);have hlt:ltF (Fp p) (Fp c):=by
    rcases to_F.tri (Fp p) (Fp c) with q|q|q
    ·exact q
    ·exact absurd q.symm ne
    ·exact absurd (.inl q) hpc
   obtain ⟨j1,j2⟩:=By.1 i1;refine ⟨By.2 ⟨fun w hw=> ?_,i1⟩,fun z=> ?_⟩
   ·rcases An.1 hw with rfl|hw
    ·exact hlt
    ·exact to_F.tr _ _ _ hlt (j1 w hw)
   ·rw [An];constructor
    ·rintro (rfl|hz)
     ·exact ⟨[],r,rfl,fun y hy=>by have:y=p:=by simpa using hy
                                   subst this;exact ne.symm⟩
     ·obtain ⟨s1,s2,rfl,q⟩:=(i2 z).1 hz;refine ⟨c::s1,s2,rfl,fun y hy=> ?_⟩;rcases An.1 hy with rfl|hy
      ·intro q2;exact to_F.irr _ (by have:=to_F.tr _ _ _ hlt (j1 z hz);rw [q2] at this;exact this)
      ·exact q y hy
    ·rintro ⟨s1,s2,h,q⟩;cases s1 with
     |nil=>injection h with h _;exact .inl h.symm
     |cons w s1=>
      injection h with h h';subst h;exact .inr ((i2 z).2 ⟨s1,s2,h',fun y hy=>q y (.tail _ hy)⟩)
def Gn7 (s:List Rec) (h:s.Pairwise fun a b=>leR a b=true):Dq7 (cpt eqF s)∧∀z,z∈cpt eqF s↔∃s1 s2,s=s1++z::s2∧∀y∈s1,Fp y≠Fp z:=by
 cases s with
 |nil=>simp [cpt]
 |cons p r=>
  obtain ⟨i1,i2⟩:=Dc0 r p h;refine ⟨i1,fun z=> ?_⟩;show z∈p::Qk eqF p r↔_;rw [An,i2];constructor
  ·rintro (rfl|⟨s1,s2,rfl,q⟩)
   ·exact ⟨[],r,rfl,by simp⟩
   ·exact ⟨p::s1,s2,rfl,q⟩
  ·rintro ⟨s1,s2,h,q⟩;cases s1 with
   |nil=>injection h with h _;exact .inl h.symm
   |cons w s1=>
    injection h with h h';subst h;exact .inr ⟨s1,s2,h',q⟩
def Cc6 {s l:List Rec} (h:Stab leR s l):cpt eqF s=Hr l:=by
 obtain ⟨i1,i2⟩:=Gn7 s h.sorted;obtain ⟨j1,j2⟩:=Ub l;refine Ad8 _ _ i1 j1 fun z=> ?_;rw [i2,j2];have hz:eqv leR z z=true:=(Bc5 z z).2 ⟨rfl,rfl⟩;have hm:=h.mem Fm2;constructor
 ·rintro ⟨s1,s2,rfl,q⟩;have hs1:s1.filter (eqv leR z)=[]:=by rw [V0];intro y hy hyz;exact q y hy ((Bc5 z y).1 hyz).1.symm
  have hc:=h.cls z;rw [Fj,hs1,Cj,D6 hz] at hc;obtain ⟨l1,l2,rfl,g1,_,_⟩:=List.filter_eq_cons_iff.1 hc.symm;have key:∀y,y∈l1++z::l2→Fp y=Fp z→z.ttl≤y.ttl:=fun y hy e=>by
   rcases B4.1 ((hm y).2 hy) with w|w
   ·exact absurd e (q y w)
   ·rcases An.1 w with rfl|w
    ·exact Gp4 _
    ·have:=(Ml z y).1 ((By.1 (M1.1 h.sorted).2.1).1 y w);exact Int.le_of_not_gt fun t=>this (.inr ⟨e,t⟩)
  refine ⟨l1,l2,rfl,fun y hy e=> ?_,fun y hy e=>key y (by simp [hy]) e⟩;have k1:=key y (by simp [hy]) e;have k2:=g1 y hy;rw [Bc5] at k2;have:z.ttl≠y.ttl:=fun t=>k2 ⟨e.symm,t⟩;omega
 ·rintro ⟨l1,l2,rfl,q1,q2⟩;have hl1:l1.filter (eqv leR z)=[]:=by rw [V0];intro y hy hyz;obtain ⟨a,b⟩:=(Bc5 z y).1 hyz;have:=q1 y hy a.symm;omega
  have hc:=h.cls z;rw [Fj,hl1,Cj,D6 hz] at hc;obtain ⟨s1,s2,rfl,g1,_,_⟩:=List.filter_eq_cons_iff.1 hc;refine ⟨s1,s2,rfl,fun y hy e=> ?_⟩;have k1:=(Ml y z).1 ((M1.1 h.sorted).2.2 y hy z (by simp));have k2:¬z.ttl<y.ttl:=fun t=>k1 (.inr ⟨e.symm,t⟩);have k3:z.ttl≤y.ttl:=by
   rcases B4.1 ((hm y).1 (by simp [hy])) with w|w
   ·have:=q1 y w e;omega
   ·rcases An.1 w with rfl|w
    ·exact Gp4 _
    ·exact q2 y w e
  exact g1 y hy ((Bc5 z y).2 ⟨e.symm,by omega⟩)
end Go.X.G
/- Valid data are known by their bytes; records that are alike. -/
namespace Go.X.G
open Go Go.X
end Go.X.G
/- Types of records: the program's table. -/
namespace Go.X.G
open Go Go.X
structure Kd where
 num:Int
 mne:List UInt8
 fls:List UInt8
def Kd.pv (k:Kd):PV:= .a [.i .i64 k.num, .s k.mne, .s k.fls]
def i7 (l:List Kd):PV:= .l 3 (l.map Kd.pv)
def kds:List Kd:=[⟨1,[65],[52]⟩,⟨2,[78,83],[104]⟩,⟨5,[67,78,65,77,69],[104]⟩,⟨6,[83,79,65],[104,109,118,119,120,121,122]⟩,⟨12,[80,84,82],[104]⟩,⟨15,[77,88],[65,104]⟩,⟨16,[84,88,84],[116]⟩,⟨28,[65,65,65,65],[54]⟩,⟨33,[83,82,86],[65,66,67,104]⟩,⟨39,[68,78,65,77,69],[104]⟩,⟨43,[68,83],[65,98,99,114]⟩,⟨46,[82,82,83,73,71],[65,115,98,120,121,122,70,104,114]⟩,⟨47,[78,83,69,67],[104,110]⟩,⟨48,[68,78,83,75,69,89],[65,98,99,114]⟩]
def Wr (k:Kd):Bh 0 k.pv=some (.i .i64 k.num):=rfl
def Wp (k:Kd):Bh 1 k.pv=some (.s k.mne):=rfl
def Cr (k:Kd):Bh 2 k.pv=some (.s k.fls):=rfl
def Ab8 (k:Kd):Jn 0 3 k.pv=some k.pv:=rfl
def Pl (k:Kd):P4 3 k.pv=some k.pv:=rfl
def O8 (l:List Kd):Gd (i7 l)=some (.i .i64 (l.length:Int)):=by simp [i7,Gd]
def jk (l:List Kd) (k:IntKind) (z:Int) (h:0≤z):Ht 3 (i7 l) (.i k z)=(l[z.toNat]?).map Kd.pv:=by simp [i7,jj _ _ _ _ h]
def qb:S Ur 0 []=some [i7 kds]:=Eh5 (N:=1) rfl (by kernel_rfl)
def Ss (k:Kd):PV.flat k.pv=true:=rfl
def qd (t:Int):S U0 1 [.i .i64 t]=some (match kds.find? (fun k=>decide (k.num=t)) with|some k=>[k.pv, .b true]|none=>[Kd.pv ⟨0,[],[]⟩, .b false]):=by
 refine El9 (N:=20) rfl ?_;have key:∀l:List Kd,l.length≤15→Bz3.ev S 20 [.i .i64 t,i7 l]=some (match l.find? (fun k=>decide (k.num=t)) with|some k=> .ret [k.pv, .b true]|none=> .yld 0 [.i .i64 0, .s [], .s []]):=by
  intro l hl;refine Dh l (fun i=>[.i .i64 (i:Int), .i .i64 0, .s [], .s []]) (fun i r=>match r.find? (fun k=>decide (k.num=t)) with|some k=> .ret [k.pv, .b true]|none=> .yld 0 [.i .i64 0, .s [], .s []]) rfl (by omega) (fun i c r hd hi hc=> ?_) ?_
  ·by_cases h:c.num=t
   ·right;simp (disch:=omega) only [Y2,hc,h,Wr,Wp,Cr,Ab8,Pl,O8,jk,xe,EVP,EV,simprocAttr];simp [h,Out.goes]
   ·left;simp (disch:=omega) only [Y2,hc,h,Wr,Wp,Cr,Ab8,Pl,O8,jk,xe,EVP,EV,simprocAttr];simp [h]
  ·simp (disch:=omega) only [Y2,Wr,Wp,Cr,Ab8,Pl,O8,jk,xe,EVP,EV,simprocAttr];simp [Out.goes]
 have hk:=key kds (by decide);have hkd:=qb;cases h:kds.find? (fun k=>decide (k.num=t)) with
 |some k=>
  rw [h] at hk;simp (disch:=omega) only [Y2,hkd,hk,O8,xe,EVP,EV,simprocAttr]
 |none=>
  rw [h] at hk;simp (disch:=omega) only [Y2,hkd,hk,O8,xe,EVP,EV,simprocAttr];rfl
def rk (t:Int):(kds.find? (fun k=>decide (k.num=t))).isSome=knw t:=by
 rw [Ds,List.find?_isSome];simp [kds,knw]
 grind
def C1 (t:Int):S ab 1 [.i .i64 t]=some [.b (knw t)]:=by
 refine Eg9 (N:=1) rfl ?_;have h:=qd t;have h2:=rk t;cases hk:kds.find? (fun k=>decide (k.num=t)) with
 |some k=>
  rw [hk] at h h2;simp only [Option.isSome_some] at h2;simp (disch:=omega) only [Dk7,h,Ss,Pl,xe,EVP,EV,simprocAttr];rw [←h2]
 |none=>
  rw [hk] at h h2;simp only [Vr] at h2;simp (disch:=omega) only [Dk7,h,Ss,Pl,xe,EVP,EV,simprocAttr];rw [←h2]
end Go.X.G
/- Data of records in the program: which are valid. -/
namespace Go.X.G
open Go Go.X
def d5 (s t:List UInt8) (hs:s.length≤9223372036854775807):S aw 2 [.s s, .s t]=some [.b (t.isPrefixOf s)]:=by
 refine Eg2 (N:=1) rfl ?_;have h:S ak 2 [.s s, .s t]=some [.b (t.isPrefixOf s)]:=by
  refine Eg0 (N:=1) rfl ?_;by_cases hl:(t.length:Int)≤(s.length:Int)
  ·simp (disch:=omega) only [Dk4,hl,EVC,xe,EVP,EV,simprocAttr];congr 4;rw [Ds,List.isPrefixOf_iff_prefix,List.prefix_iff_eq_take];simp;exact ⟨fun h=>h.symm,fun h=>h.symm⟩
  ·simp (disch:=omega) only [Dk4,hl,EVC,xe,EVP,EV,simprocAttr];congr 4;rw [eq_comm,Bool.eq_false_iff];intro h;have:=(List.isPrefixOf_iff_prefix.1 h).length_le;omega
 simp (disch:=omega) only [Ez4,h,EVC,xe,EVP,EV,simprocAttr]
def C8 (n:List UInt8) (hn:n.length≤9223372036854775807):S Mq 1 [.s n]=some [.b (Fh n)]:=by
 refine Eh3 (N:=1) rfl ?_;have h1:=Bt n hn;have h2:=d5 n [42] hn;unfold Fh;rcases Aq (vld n) with h|h
 ·rw [h] at h1;have e:([42]:List UInt8).isPrefixOf n=decide (n[0]? =some 42):=by
   cases n with
   |nil=>rfl
   |cons c r=>rw [Ds];simp [List.isPrefixOf];exact ⟨fun h=>h.symm,fun h=>h.symm⟩
  rw [e] at h2;simp (disch:=omega) only [Dq0,h1,h2,h,EVC,xe,EVP,EV,simprocAttr];by_cases h3:n[0]? =some 42<;>simp [h3]
 ·rw [h] at h1;simp (disch:=omega) only [Dq0,h1,h,EVC,xe,EVP,EV,simprocAttr];rfl
def Cs (n m:Int):S Gz 2 [.i .i64 n, .i .i64 m]=some [.b (inB n m)]:=by refine Eh1 (N:=1) rfl ?_;unfold inB;by_cases h:0≤n<;>simp (disch:=omega) only [Ez6,h,EVC,xe,EVP,EV,simprocAttr]<;>simp
def D1 (s:List UInt8) (hs:s.length≤9223372036854775807):S Sk 1 [.s s]=some [.b (F4 s)]:=by
 refine Eh0 (N:=1) rfl ?_;unfold F4;by_cases h:(1:Int)≤(s.length:Int)
 ·have h':1≤s.length:=by omega
  simp (disch:=omega) only [Dk8,h,EVC,xe,EVP,EV,simprocAttr];by_cases h2:s.length≤255
  ·have h3:(s.length:Int)≤255:=by omega
   simp [h',h2,h3]
  ·have h3:¬(s.length:Int)≤255:=by omega
   simp [h2,h3]
 ·have h':¬1≤s.length:=by omega
  simp (disch:=omega) only [Dk8,h,EVC,xe,EVP,EV,simprocAttr];simp [h']
def Cn (d:Dat):S Up 1 [Il d]=some [.b (Dl d)]:=by
 refine Eh4 (N:=1) rfl ?_;unfold Dl;rcases Aq d.v6 with h|h
 ·simp (disch:=omega) only [Ay9,h,EVC,xe,EVP,EV,simprocAttr];simp
 ·by_cases h2:d.hi=0
  ·simp (disch:=omega) only [Ay9,h,h2,EVC,xe,EVP,EV,simprocAttr];by_cases h3:d.lo≤4294967295
   ·have:d.lo<4294967296:=by omega
    simp [h3,this]
   ·have:¬d.lo<4294967296:=by omega
    simp [h3,this]
  ·simp (disch:=omega) only [Ay9,h,h2,EVC,xe,EVP,EV,simprocAttr];simp
def C0 (n:Int):S af 1 [.i .i64 n]=some [.b (inB n 4294967295)]:=by
 refine Eh2 (N:=1) rfl ?_;unfold inB;by_cases h:0≤n
 ·simp (disch:=omega) only [Dk9,h,EVC,xe,EVP,EV,simprocAttr];by_cases h3:n≤4294967295
  ·have:n<4294967296:=by omega
   simp [h3,this]
  ·have:¬n<4294967296:=by omega
   simp [h3,this]
 ·simp (disch:=omega) only [Dk9,h,EVC,xe,EVP,EV,simprocAttr];simp
def Dk2:Int:=501935916552294
def D2:S az 0 []=some [.i .u64 Dk2]:=by
 refine Eg8 (N:=20) rfl ?_;have key:By7.ev S 20 [i7 kds]=some (.yld 0 [.i .u64 Dk2]):=by kernel_rfl
 simp (disch:=omega) only [Ez5,qb,key,O8,EVC,xe,EVP,EV,simprocAttr]
def tt (x:Int):∀(k i:Nat),t6 x i k=true↔∀j,i≤j→j<i+k→bit x j=1→knw (j:Int)=true
 |0,i=>by simp only [t6,true_iff];intro j h1 h2;omega
 |k+1,i=>by
  simp only [t6,Ay,A0,Br,decide_eq_false_iff_not];rw [tt x k (i+1)];constructor
  ·rintro ⟨h1,h2⟩ j h3 h4 h5;rcases Nat.lt_or_eq_of_le h3 with h|h
   ·exact h2 j (by omega) (by omega) h5
   ·subst h;rcases h1 with h1|h1
    ·exact absurd h5 h1
    ·exact h1
  ·intro h;refine ⟨?_,fun j h1 h2 h3=>h j (by omega) (by omega) h3⟩;by_cases hb:bit x i=1
   ·exact .inr (h i (Af _) (by omega) hb)
   ·exact .inl hb
def tl:∀i:Nat,i<64→(BitVec.ofInt 64 Dk2).getLsbD i=knw (i:Int):=by decide
def Bl1 (x:Int) (h0:0≤x) (h1:x≤18446744073709551615) (i:Nat) (hi:i<64):bit x i=1↔(BitVec.ofInt 64 x).getLsbD i=true:=by
 obtain ⟨n,rfl⟩:∃n:Nat,x=n:=⟨x.toNat,by omega⟩;have e:BitVec.ofInt 64 (n:Int)=BitVec.ofNat 64 n:=by simp
 rw [e,BitVec.getLsbD_ofNat];simp only [hi,decide_true,Ey4,Nat.testBit_eq_decide_div_mod_eq,decide_eq_true_eq];unfold bit;constructor
 ·intro h;have:(((n / 2 ^ i % 2:Nat)):Int)=1:=by push_cast;exact h
  omega
 ·intro h;have:(((n / 2 ^ i % 2:Nat)):Int)=1:=by omega
  push_cast at this;exact this
def Ej (x:Int) (h0:0≤x) (h1:x≤18446744073709551615):decide (IntKind.u64.wrap ((BitVec.ofInt IntKind.u64.bits x &&& ~~~ BitVec.ofInt IntKind.u64.bits Dk2).toNat:Int)=0)=t6 x 0 64:=by
 have hb:IntKind.u64.bits=64:=rfl;have hw:IntKind.u64.wrap ((BitVec.ofInt 64 x &&& ~~~ BitVec.ofInt 64 Dk2).toNat:Int)=((BitVec.ofInt 64 x &&& ~~~ BitVec.ofInt 64 Dk2).toNat:Int):=by have:=(BitVec.ofInt 64 x &&& ~~~ BitVec.ofInt 64 Dk2).isLt;rw [Fh8]<;>omega
 rw [hb,hw,Ds,decide_eq_true_eq,tt];constructor
 ·intro h j _ hj hb1;have hz:(BitVec.ofInt 64 x &&& ~~~ BitVec.ofInt 64 Dk2)=0#64:=BitVec.eq_of_toNat_eq (by simp only [BitVec.toNat_ofNat];omega);have:=congrArg (fun v=>v.getLsbD j) hz;simp only [BitVec.getLsbD_and,BitVec.getLsbD_not,BitVec.getLsbD_zero] at this;rw [(Bl1 x h0 h1 j (by omega)).1 hb1,tl j (by omega)] at this;have hj':j<64:=by omega
  simpa [hj'] using this
 ·intro h;have hz:(BitVec.ofInt 64 x &&& ~~~ BitVec.ofInt 64 Dk2)=0#64:=by
   apply BitVec.eq_of_getLsbD_eq;intro i hi;simp only [BitVec.getLsbD_and,BitVec.getLsbD_not,BitVec.getLsbD_zero];rw [tl i hi];rcases Aq ((BitVec.ofInt 64 x).getLsbD i) with q|q
   ·rw [h i (B9 _) (by omega) ((Bl1 x h0 h1 i hi).2 q)];simp
   ·rw [q];rfl
  rw [hz];rfl
end Go.X.G
