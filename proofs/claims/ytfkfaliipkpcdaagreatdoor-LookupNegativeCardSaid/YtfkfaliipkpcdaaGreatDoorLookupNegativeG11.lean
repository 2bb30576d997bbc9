/- Questions and messages. -/
import Derived.Test.YtfkfaliipkpcdaaGreatDoorLookupNegativeG10
import Derived.Test.YtfkfaliipkpcdaaGreatDoorLookupNegativeG9
open Bool renaming eq_false_or_eq_true→Aq,and_eq_true→Aw,false_eq_true→Ad,or_eq_true→An,not_eq_true'→A8,eq_iff_iff→Cp,not_eq_false→Fh,not_true→Kz,false_or→Kb,and_true→O8,true_and→Hz3
open Classical renaming not_not→I4
open Int renaming toNat_natCast→G3
open List renaming getElem?_eq_some_iff→Av,length_append→Ay,getElem?_eq_getElem→Ab,mem_cons→Am,length_take→Ap,length_cons→As,append_assoc→A0,getElem?_append_right→A4,pairwise_cons→A5,getElem?_drop→A6,length_nil→A9,mem_of_getElem?→Bv,length_pos_iff→Bw,all_eq_true→Bd,mem_filter→Bf,getElem?_map→Bh,mem_append→Bn,take_append_drop→Bp,length_drop→B3,mem_singleton→B5,any_eq_true→B6,nil_append→Cv,take_add_one→Cw,drop_eq_getElem_cons→Cz,drop_drop→Cm,getElem?_of_mem→C4,take_length→C7,getElem_mem→Dy,mem_map→Dd,length_singleton→Df,append_nil→Dp,take_of_length_le→Dr,filter_append→Ds,drop_zero→D7,length_map→Ey,length_filter_le→Ef,suffix_iff_eq_drop→Et,isSuffixOf_iff_suffix→E6,map_cons→F2,flatMap_cons→G1,getLast_eq_getElem→I2,drop_of_length_le→J0,drop_eq_nil_of_le→J1,set_append_right→Ln,drop_set_of_lt→Q6,length_mergeSort→jw,getElem_take→qt,take_left→Ap4,map_mergeSort→Ip1,findIdx?_cons→Ip2
open Nat renaming le_refl→Af,zero_le→Cl,le_trans→C6,add_zero→Dv,zero_add→D4,min_eq_left→Jx,add_sub_cancel→K1
open Option renaming bind_some→Az,map_some→A3,getD_some→B8
open Option.some renaming injEq→Ak
set_option maxHeartbeats 1000000
set_option linter.unusedVariables false
set_option linter.unusedSimpArgs false
namespace Go.X
open Go
structure Ques where
 name:List UInt8
 typ:Int
 deriving DecidableEq
structure Msg where
 id:Int
 op:Int
 code:Int
 resp:Bool
 aa:Bool
 tc:Bool
 rd:Bool
 ra:Bool
 ad:Bool
 cd:Bool
 dok:Bool
 size:Int
 q:Ques
 ans:List Rec
 auth:List Rec
 ext:List Rec
 deriving DecidableEq
structure Ques.wf (x:Ques):Prop where
 name:W7 x.name
 typ:jj x.typ
structure Msg.wf (m:Msg):Prop where
 id:jj m.id
 op:jj m.op
 code:jj m.code
 size:jj m.size
 q:m.q.wf
 ans:Bv7 m.ans
 auth:Bv7 m.auth
 ext:Bv7 m.ext
def Ques.cells (x:Ques):List PV:=[.s x.name, .i .i64 x.typ]
def Ques.pv (x:Ques):PV:= .a x.cells
def Msg.cells (m:Msg):List PV:= .i .i64 m.id:: .i .i64 m.op:: .i .i64 m.code:: .b m.resp:: .b m.aa:: .b m.tc:: .b m.rd:: .b m.ra:: .b m.ad:: .b m.cd:: .b m.dok:: .i .i64 m.size:: .s m.q.name:: .i .i64 m.q.typ::Ag m.ans::Ag m.auth::Ag m.ext::[]
def Msg.pv (m:Msg):PV:= .a m.cells
def shQ:Sh:= .st [.s, .i .i64]
theorem Gf6 {cs:List PV} (h:shQ.okC cs):∃q:Ques,q.wf∧cs=q.cells:=by obtain ⟨a0,r0,rfl,h0,h⟩:=Dx (c7 h);obtain ⟨a1,r1,rfl,h1,h⟩:=Dx h;obtain rfl:=N7 h;obtain ⟨x0,rfl,k0⟩:=Ad8 h0;obtain ⟨x1,rfl,k1⟩:=J7 h1;exact ⟨⟨x0,x1⟩,⟨k0,k1⟩,rfl⟩
theorem Jy2 {p:PV} (h:shQ.ok p):∃q:Ques,q.wf∧p=q.pv:=by obtain ⟨ds,rfl,h⟩:∃ds,p= .a ds∧shQ.okC ds:=h;obtain ⟨r,hr,rfl⟩:=Gf6 h;exact ⟨r,hr,rfl⟩
theorem Bc8 (m:Msg):Bs 0 m.pv=some (.i .i64 m.id):=rfl
theorem Bc7 (m:Msg):Bs 1 m.pv=some (.i .i64 m.op):=rfl
theorem Bc6 (m:Msg):Bs 2 m.pv=some (.i .i64 m.code):=rfl
theorem Bc5 (m:Msg):Bs 3 m.pv=some (.b m.resp):=rfl
theorem Bc4 (m:Msg):Bs 4 m.pv=some (.b m.aa):=rfl
theorem Bc3 (m:Msg):Bs 5 m.pv=some (.b m.tc):=rfl
theorem Bc2 (m:Msg):Bs 6 m.pv=some (.b m.rd):=rfl
theorem Bc1 (m:Msg):Bs 7 m.pv=some (.b m.ra):=rfl
theorem Bc0 (m:Msg):Bs 8 m.pv=some (.b m.ad):=rfl
theorem Bb9 (m:Msg):Bs 9 m.pv=some (.b m.cd):=rfl
theorem Ac8 (m:Msg):Bs 10 m.pv=some (.b m.dok):=rfl
theorem Ac7 (m:Msg):Bs 11 m.pv=some (.i .i64 m.size):=rfl
theorem Ac6 (m:Msg):Bs 12 m.pv=some (.s m.q.name):=rfl
theorem Ac5 (m:Msg):Bs 13 m.pv=some (.i .i64 m.q.typ):=rfl
theorem Ac4 (m:Msg):Bs 14 m.pv=some (Ag m.ans):=rfl
theorem Ac3 (m:Msg):Bs 15 m.pv=some (Ag m.auth):=rfl
theorem Ac2 (m:Msg):Bs 16 m.pv=some (Ag m.ext):=rfl
theorem Gb3 (m:Msg):Jb 0 17 m.pv=some m.pv:=rfl
theorem Gm4 (m:Msg):Q0 17 m.pv=some m.pv:=rfl
theorem Bj6 (m:Msg):Jb 12 2 m.pv=some m.q.pv:=rfl
theorem It3 (x:Ques):Jb 0 2 x.pv=some x.pv:=rfl
theorem Jg1 (x:Ques):Q0 2 x.pv=some x.pv:=rfl
theorem Gd6 (x:Ques):Bs 0 x.pv=some (.s x.name):=rfl
theorem Gd5 (x:Ques):Bs 1 x.pv=some (.i .i64 x.typ):=rfl
theorem Id0 (n:List UInt8) (t:Int):PV.a [.s n, .i .i64 t]=Ques.pv ⟨n,t⟩:=rfl
theorem Jg5 (x:Ques):(⟨x.name,x.typ⟩:Ques)=x:=rfl
theorem Eh8 (x0 x1 x2:Int) (b0 b1 b2 b3 b4 b5 b6 b7:Bool) (x3:Int) (n:List UInt8) (t:Int) (l0 l1 l2:List Rec):PV.a [.i .i64 x0, .i .i64 x1, .i .i64 x2, .b b0, .b b1, .b b2, .b b3, .b b4, .b b5, .b b6, .b b7, .i .i64 x3, .s n, .i .i64 t,Ag l0,Ag l1,Ag l2]=Msg.pv ⟨x0,x1,x2,b0,b1,b2,b3,b4,b5,b6,b7,x3,⟨n,t⟩,l0,l1,l2⟩:=rfl
theorem Jm3 (neg:Bool) (x y:Ques):K0 neg true [.s,(.i .i64)] x.pv y.pv=some (.b (if neg then decide (x≠y) else decide (x=y))):=by
 have:Gz [.s,(.i .i64)] x.cells y.cells=some (decide (x=y)):=by simp only [Ques.cells,Gz,Dr4,if_true,Ak];rw [Cp];cases x;cases y;simp
 simp only [K0,Ques.pv,this,A3];cases neg<;>simp
set_option linter.defProp false in
def EVM:=(And.intro @Bc8 (And.intro @Bc7 (And.intro @Bc6 (And.intro @Bc5 (And.intro @Bc4 (And.intro @Bc3 (And.intro @Bc2 (And.intro @Bc1 (And.intro @Bc0 (And.intro @Bb9 (And.intro @Ac8 (And.intro @Ac7 (And.intro @Ac6 (And.intro @Ac5 (And.intro @Ac4 (And.intro @Ac3 (And.intro @Ac2 (And.intro @Gb3 (And.intro @Gm4 (And.intro @Bj6 (And.intro @It3 (And.intro @Jg1 (And.intro @Gd6 (And.intro @Gd5 (And.intro @Id0 (And.intro @Jg5 (And.intro @Eh8 @Jm3)))))))))))))))))))))))))))
end Go.X
/- Closures and sets of strings, evaluated. -/
namespace Go.X
open Go
def In6 (fn:Fns) (η:List PV) (fl:Bool) (ar:List E) (m:Nat):PV→Option (List PV)
 | .f f caps=>(E.evs η ar).bind fun vs=>results fl m η (fn f vs.length (vs++caps))
 |_=>none
theorem rz {fn:Fns} {η:List PV} (fl:Bool) (c:E) (ar:List E) (m:Nat):W.ev fn η (.clo none fl c ar m)=(c.ev η).bind (In6 fn η fl ar m):=by
 rw [Gy8];congr 1;funext q;cases q with
 |f f caps=>rfl
 |_=>cases h:E.evs η ar<;>rfl
theorem Il1 {fn:Fns} {η:List PV} (fl:Bool) (ar:List E) (m:Nat) (f:Nat) (caps:List PV):In6 fn η fl ar m (.f f caps)=(E.evs η ar).bind fun vs=>results fl m η (fn f vs.length (vs++caps)):=rfl
theorem Ij2 (f:Nat) (caps:List PV):Bs 0 (.f f caps)=some (.f f caps):=rfl
theorem Hh7 (f:Nat) (caps:List PV):H7 (.f f caps)=some (.f f caps):=rfl
def Mh (ks:List (List UInt8)):PV:= .m (ks.map fun k=>(.s k, .b true))
theorem Gc6:PV.m []=Mh []:=rfl
theorem Eb1 (ks:List (List UInt8)):Bs 0 (Mh ks)=some (Mh ks):=rfl
theorem Ey2 (ks:List (List UInt8)):H7 (Mh ks)=some (Mh ks):=rfl
theorem fw (k:List UInt8):∀ks:List (List UInt8),X3 (.s k) (ks.map fun k=>(.s k, .b true))=some (if k∈ks then some (.b true) else none)
 |[]=>by simp [X3]
 |x::ks=>by
  simp only [F2,X3,ff];by_cases h:k=x
  ·subst h;simp
  ·have h2:(k==x)=false:=by simpa using h
   rw [h2];simp only [fw k ks,Am,h,false_or]
theorem xf (k:List UInt8):∀ks:List (List UInt8),Fj7 (.s k) (.b true) (ks.map fun k=>(.s k, .b true))=some ((if k∈ks then ks else ks++[k]).map fun k=>(.s k, .b true))
 |[]=>by simp [Fj7]
 |x::ks=>by
  simp only [F2,Fj7,ff];by_cases h:k=x
  ·subst h;simp
  ·have h2:(k==x)=false:=by simpa using h
   rw [h2];simp only [xf k ks,Am,h,false_or,A3];by_cases h3:k∈ks<;>simp [h3]
theorem Ed7 (k:List UInt8) (ks:List (List UInt8)):fq (Mh ks) (.s k) (.b false)=some (.b (decide (k∈ks))):=by simp only [fq,Mh,Bt5,if_true,fw,A3];by_cases h:k∈ks<;>simp [h]
theorem Ed6 (k:List UInt8) (ks:List (List UInt8)):fk (Mh ks) (.s k) (.b true)=some (Mh (if k∈ks then ks else ks++[k])):=by simp only [fk,Mh,Bt5,if_true,xf,A3]
theorem Bn6 (a b:List Rec):Jn 1 [Ag a,Ag b]=some (.l 1 ([a,b].map Ag)):=rfl
def Il0 (fn:Fns) (η:List PV) (fl:Bool) (c:E) (ar:List E) (m:Nat):PV→Option (List PV)
 | .b true=>(c.ev η).bind (In6 fn η fl ar m)
 | .b false=>some (η++List.replicate m .u)
 |_=>none
theorem I5 {fn:Fns} {η:List PV} (g:E) (fl:Bool) (c:E) (ar:List E) (m:Nat):W.ev fn η (.clo (some g) fl c ar m)=(g.ev η).bind (Il0 fn η fl c ar m):=by
 have h:=rz (fn:=fn) (η:=η) fl c ar m;simp only [W.ev,Er] at h ⊢;congr 1;funext q;cases q with
 |b x=>cases x with
  |true=>exact h
  |false=>rfl
 |_=>rfl
theorem Lf (fn:Fns) (η:List PV) (fl:Bool) (c:E) (ar:List E) (m:Nat) (x:Bool):Il0 fn η fl c ar m (.b x)=if x=true then (c.ev η).bind (In6 fn η fl ar m) else some (η++List.replicate m .u):=by cases x<;>rfl
set_option linter.defProp false in
def EVC:=(And.intro @rz (And.intro @Il1 (And.intro @Ij2 (And.intro @Hh7 (And.intro @Gc6 (And.intro @Eb1 (And.intro @Ey2 (And.intro @Ed7 (And.intro @Ed6 @Bn6)))))))))
end Go.X
/- Addresses and tasks. -/
namespace Go.X
structure Adr where
 v6:Bool
 hi:Int
 lo:Int
 deriving DecidableEq
structure Tk where
 q:Ques
 name:List UInt8
 zone:List UInt8
 hosts:List (List UInt8)
 addrs:List Adr
 tried:List Adr
 state:Int
 more:Int
 dst:Adr
 asked:Ques
 sent:Int
 chain:List Rec
 last:Msg
 err:Int
def Adr.pv (x:Adr):PV:= .a [.b x.v6, .i .u64 x.hi, .i .u64 x.lo]
def Fj (l:List Adr):PV:= .l 3 (l.map Adr.pv)
def Dat.adr (d:Dat):Adr:=⟨d.v6,d.hi,d.lo⟩
def Tk.cells (t:Tk):List PV:=[.s t.q.name, .i .i64 t.q.typ, .s t.name, .s t.zone,Bg t.hosts,Fj t.addrs,Fj t.tried, .i .i64 t.state, .i .i64 t.more, .b t.dst.v6, .i .u64 t.dst.hi, .i .u64 t.dst.lo, .s t.asked.name, .i .i64 t.asked.typ, .i .i64 t.sent,Ag t.chain, .i .i64 t.last.id, .i .i64 t.last.op, .i .i64 t.last.code, .b t.last.resp, .b t.last.aa, .b t.last.tc, .b t.last.rd, .b t.last.ra, .b t.last.ad, .b t.last.cd, .b t.last.dok, .i .i64 t.last.size, .s t.last.q.name, .i .i64 t.last.q.typ,Ag t.last.ans,Ag t.last.auth,Ag t.last.ext, .i .i64 t.err]
def Tk.pv (t:Tk):PV:= .a t.cells
theorem Eb0 (t:Tk):Bs 0 t.pv=some (.s t.q.name):=rfl
theorem Ez9 (t:Tk):Bs 1 t.pv=some (.i .i64 t.q.typ):=rfl
theorem Ez8 (t:Tk):Bs 2 t.pv=some (.s t.name):=rfl
theorem Ez7 (t:Tk):Bs 3 t.pv=some (.s t.zone):=rfl
theorem Ez6 (t:Tk):Bs 4 t.pv=some (Bg t.hosts):=rfl
theorem Ez5 (t:Tk):Bs 5 t.pv=some (Fj t.addrs):=rfl
theorem Ez4 (t:Tk):Bs 6 t.pv=some (Fj t.tried):=rfl
theorem Ez3 (t:Tk):Bs 7 t.pv=some (.i .i64 t.state):=rfl
theorem Ez2 (t:Tk):Bs 8 t.pv=some (.i .i64 t.more):=rfl
theorem Ez1 (t:Tk):Bs 9 t.pv=some (.b t.dst.v6):=rfl
theorem Bz0 (t:Tk):Bs 10 t.pv=some (.i .u64 t.dst.hi):=rfl
theorem By9 (t:Tk):Bs 11 t.pv=some (.i .u64 t.dst.lo):=rfl
theorem By8 (t:Tk):Bs 12 t.pv=some (.s t.asked.name):=rfl
theorem By7 (t:Tk):Bs 13 t.pv=some (.i .i64 t.asked.typ):=rfl
theorem By6 (t:Tk):Bs 14 t.pv=some (.i .i64 t.sent):=rfl
theorem By5 (t:Tk):Bs 15 t.pv=some (Ag t.chain):=rfl
theorem By4 (t:Tk):Bs 16 t.pv=some (.i .i64 t.last.id):=rfl
theorem By3 (t:Tk):Bs 17 t.pv=some (.i .i64 t.last.op):=rfl
theorem By2 (t:Tk):Bs 18 t.pv=some (.i .i64 t.last.code):=rfl
theorem By1 (t:Tk):Bs 19 t.pv=some (.b t.last.resp):=rfl
theorem By0 (t:Tk):Bs 20 t.pv=some (.b t.last.aa):=rfl
theorem Bx9 (t:Tk):Bs 21 t.pv=some (.b t.last.tc):=rfl
theorem Bx8 (t:Tk):Bs 22 t.pv=some (.b t.last.rd):=rfl
theorem Bx7 (t:Tk):Bs 23 t.pv=some (.b t.last.ra):=rfl
theorem Bx6 (t:Tk):Bs 24 t.pv=some (.b t.last.ad):=rfl
theorem Bx5 (t:Tk):Bs 25 t.pv=some (.b t.last.cd):=rfl
theorem Bx4 (t:Tk):Bs 26 t.pv=some (.b t.last.dok):=rfl
theorem Bx3 (t:Tk):Bs 27 t.pv=some (.i .i64 t.last.size):=rfl
theorem Bx2 (t:Tk):Bs 28 t.pv=some (.s t.last.q.name):=rfl
theorem Bx1 (t:Tk):Bs 29 t.pv=some (.i .i64 t.last.q.typ):=rfl
theorem Bx0 (t:Tk):Bs 30 t.pv=some (Ag t.last.ans):=rfl
theorem Bw9 (t:Tk):Bs 31 t.pv=some (Ag t.last.auth):=rfl
theorem Bw8 (t:Tk):Bs 32 t.pv=some (Ag t.last.ext):=rfl
theorem Bw7 (t:Tk):Bs 33 t.pv=some (.i .i64 t.err):=rfl
theorem Hg4 (t:Tk):Jb 0 34 t.pv=some t.pv:=rfl
theorem Id5 (t:Tk):Q0 34 t.pv=some t.pv:=rfl
theorem Ax5 (t:Tk):Jb 9 3 t.pv=some t.dst.pv:=rfl
theorem az (t:Tk):Jb 12 2 t.pv=some t.asked.pv:=rfl
theorem Ew8 (t:Tk):Jb 0 2 t.pv=some t.q.pv:=rfl
theorem j7 (t:Tk):Jb 16 17 t.pv=some t.last.pv:=rfl
theorem Gm0 (x0:List UInt8) (x1:Int) (x2:List UInt8) (x3:List UInt8) (x4:List (List UInt8)) (x5:List Adr) (x6:List Adr) (x7:Int) (x8:Int) (x9:Bool) (x10:Int) (x11:Int) (x12:List UInt8) (x13:Int) (x14:Int) (x15:List Rec) (x16:Int) (x17:Int) (x18:Int) (x19:Bool) (x20:Bool) (x21:Bool) (x22:Bool) (x23:Bool) (x24:Bool) (x25:Bool) (x26:Bool) (x27:Int) (x28:List UInt8) (x29:Int) (x30:List Rec) (x31:List Rec) (x32:List Rec) (x33:Int):PV.a [.s x0, .i .i64 x1, .s x2, .s x3,Bg x4,Fj x5,Fj x6, .i .i64 x7, .i .i64 x8, .b x9, .i .u64 x10, .i .u64 x11, .s x12, .i .i64 x13, .i .i64 x14,Ag x15, .i .i64 x16, .i .i64 x17, .i .i64 x18, .b x19, .b x20, .b x21, .b x22, .b x23, .b x24, .b x25, .b x26, .i .i64 x27, .s x28, .i .i64 x29,Ag x30,Ag x31,Ag x32, .i .i64 x33]=Tk.pv ⟨⟨x0,x1⟩,x2,x3,x4,x5,x6,x7,x8,⟨x9,x10,x11⟩,⟨x12,x13⟩,x14,x15,⟨x16,x17,x18,x19,x20,x21,x22,x23,x24,x25,x26,x27,⟨x28,x29⟩,x30,x31,x32⟩,x33⟩:=rfl
theorem Ig5 (t:Tk):(⟨t.q,t.name,t.zone,t.hosts,t.addrs,t.tried,t.state,t.more,t.dst,t.asked,t.sent,t.chain,t.last,t.err⟩:Tk)=t:=rfl
theorem Gp0 (m:Msg):(⟨m.id,m.op,m.code,m.resp,m.aa,m.tc,m.rd,m.ra,m.ad,m.cd,m.dok,m.size,m.q,m.ans,m.auth,m.ext⟩:Msg)=m:=rfl
theorem Gp1 (x:Adr):(⟨x.v6,x.hi,x.lo⟩:Adr)=x:=rfl
theorem Im3 (d:Dat):Js d=d.adr.pv:=rfl
theorem Eh9 (v:Bool) (h l:Int):PV.a [.b v, .i .u64 h, .i .u64 l]=Adr.pv ⟨v,h,l⟩:=rfl
theorem Hx6 (d:Dat):(⟨d.v6,d.hi,d.lo⟩:Adr)=d.adr:=rfl
theorem Gb5 (x:Adr):Jb 0 3 x.pv=some x.pv:=rfl
theorem Gm6 (x:Adr):Q0 3 x.pv=some x.pv:=rfl
theorem Bf2 (x:Adr):Bs 0 x.pv=some (.b x.v6):=rfl
theorem Bf1 (x:Adr):Bs 1 x.pv=some (.i .u64 x.hi):=rfl
theorem Bf0 (x:Adr):Bs 2 x.pv=some (.i .u64 x.lo):=rfl
theorem El2 (x:Adr):PV.flat x.pv=true:=rfl
theorem Ep7:PV.l 3 []=Fj []:=rfl
theorem Gh8 (x:Adr):Jn 3 [x.pv]=some (Fj [x]):=rfl
theorem Bq4 (l:List Adr):H7 (Fj l)=some (Fj l):=rfl
theorem Bd9 (l:List Adr):Bs 0 (Fj l)=some (Fj l):=rfl
theorem Id2 (x:Ques):PV.flat x.pv=true:=rfl
theorem Hh3 (n:Int):H7 (.i .u64 n)=some (.i .u64 n):=rfl
theorem Ht9 (n:Int):Bs 0 (.i .u64 n)=some (.i .u64 n):=rfl
theorem Ef6 (l:List Adr):F4 (Fj l)=some (.i .i64 (l.length:Int)):=by simp [Fj,F4]
theorem Eh0 (l:List Adr) (k:IntKind) (z:Int) (h:0≤z):Gt 3 (Fj l) (.i k z)=(l[z.toNat]?).map Adr.pv:=by simp [Fj,Yk _ _ _ _ h]
theorem Dn5 (l:List Adr) (x:Adr) (h:l.length+1≤1073741824):H3 3 (Fj l) (Fj [x])=some (Fj (l++[x])):=by have:=T4 3 (l.map Adr.pv) ([x].map Adr.pv) (by simpa using h);simpa [Fj] using this
theorem Ep6 (l m:List Adr) (h:l.length+m.length≤1073741824):H3 3 (Fj l) (Fj m)=some (Fj (l++m)):=by have:=T4 3 (l.map Adr.pv) (m.map Adr.pv) (by simpa using h);simpa [Fj] using this
theorem Ed9 (l:List Adr) (k k':IntKind) (a b:Int) (h1:0≤a) (h2:a≤b) (h3:b≤(l.length:Int)):G6 3 (Fj l) (.i k a) (.i k' b)=some (Fj ((l.take b.toNat).drop a.toNat)):=by have:=Bn3 3 (l.map Adr.pv) k k' a b h1 h2 (by simpa using h3);simpa [Fj,List.map_take,List.map_drop] using this
theorem Ig9 (neg:Bool) (x y:Adr):K0 neg true [.b,(.i .u64),(.i .u64)] x.pv y.pv=some (.b (if neg then decide (x≠y) else decide (x=y))):=by
 have:Gz [.b,(.i .u64),(.i .u64)] [.b x.v6, .i .u64 x.hi, .i .u64 x.lo] [.b y.v6, .i .u64 y.hi, .i .u64 y.lo]=some (decide (x=y)):=by simp only [Gz,Dr4,if_true,Ak];rw [Cp];cases x;cases y;simp
 simp only [K0,Adr.pv,this,A3];cases neg<;>simp
set_option linter.defProp false in
def EVT:=(And.intro @Eb0 (And.intro @Ez9 (And.intro @Ez8 (And.intro @Ez7 (And.intro @Ez6 (And.intro @Ez5 (And.intro @Ez4 (And.intro @Ez3 (And.intro @Ez2 (And.intro @Ez1 (And.intro @Bz0 (And.intro @By9 (And.intro @By8 (And.intro @By7 (And.intro @By6 (And.intro @By5 (And.intro @By4 (And.intro @By3 (And.intro @By2 (And.intro @By1 (And.intro @By0 (And.intro @Bx9 (And.intro @Bx8 (And.intro @Bx7 (And.intro @Bx6 (And.intro @Bx5 (And.intro @Bx4 (And.intro @Bx3 (And.intro @Bx2 (And.intro @Bx1 (And.intro @Bx0 (And.intro @Bw9 (And.intro @Bw8 (And.intro @Bw7 (And.intro @Hg4 (And.intro @Id5 (And.intro @Ax5 (And.intro @az (And.intro @Ew8 (And.intro @j7 (And.intro @Gm0 (And.intro @Ig5 (And.intro @Gp0 (And.intro @Gp1 (And.intro @Im3 (And.intro @Eh9 (And.intro @Hx6 (And.intro @Gb5 (And.intro @Gm6 (And.intro @Bf2 (And.intro @Bf1 (And.intro @Bf0 (And.intro @El2 (And.intro @Ep7 (And.intro @Gh8 (And.intro @Bq4 (And.intro @Bd9 (And.intro @Id2 (And.intro @Hh3 (And.intro @Ht9 (And.intro @Ef6 (And.intro @Eh0 (And.intro @Dn5 (And.intro @Ep6 (And.intro @Ed9 @Ig9)))))))))))))))))))))))))))))))))))))))))))))))))))))))))))))))))
end Go.X
/- Functions of the package slices, for texts, records and addresses. -/
namespace Go.X.G
open Go Go.X
theorem Dp2 (l:List (List UInt8)) (x:List UInt8) (hl:l.length≤1000000):∃k:Int,(0≤k↔x∈l)∧S Bh0 2 [Bg l, .s x]=some [.i .i64 k]:=by
 have go:∀(i:Nat) (l:List (List UInt8)),∃k:Int,k=(match l.findIdx? (·=x) with|some j=>((i+j:Nat):Int)|none=> -1)∧(0≤k↔x∈l):=by
  intro i l;refine ⟨_,rfl,?_⟩;cases h:l.findIdx? (·=x) with
  |none=>
   rw [List.findIdx?_eq_none_iff] at h;simp only;constructor
   ·intro h2;omega
   ·intro h2;have:=h x h2;simp at this
  |some j=>
   simp only;constructor
   ·intro _;rw [List.findIdx?_eq_some_iff_getElem] at h;obtain ⟨h1,h2,_⟩:=h;simp at h2;rw [←h2];exact Dy _
   ·intro _;omega
 obtain ⟨k,hk,hk2⟩:=go 0 l;refine ⟨k,hk2,?_⟩;refine Jk4 (N:=l.length+1) rfl ?_;have key:Fk4.ev S (l.length+1) [Bg l, .s x]=some (match l.findIdx? (·=x) with|some j=> .ret [.i .i64 ((0+j:Nat):Int)]|none=> .yld 0 []):=by
  refine Fc l (fun i=>[.i .i64 (i:Int)]) (fun i r=>match r.findIdx? (·=x) with|some j=> .ret [.i .i64 ((i+j:Nat):Int)]|none=> .yld 0 []) rfl (by omega) (fun i c r hd hi hc=> ?_) ?_
  ·by_cases h:x=c
   ·right;simp (disch:=omega) only [Ar5,hc,h,EVM,EVC,xe,EVP,EV,simprocAttr];simp [Ip2,Out.goes]
   ·left;have h':¬c=x:=fun e=>h e.symm;simp (disch:=omega) only [Ar5,hc,h,EVM,EVC,xe,EVP,EV,simprocAttr];refine ⟨trivial,?_⟩;simp only [Ip2,h',decide_false,Ad,if_false];cases r.findIdx? (·=x) with
    |none=>rfl
    |some j=>simp;omega
  ·simp (disch:=omega) only [Ar5,EVM,EVC,xe,EVP,EV,simprocAttr];simp [Out.goes]
 rw [hk];cases h:l.findIdx? (·=x) with
 |none=>
  rw [h] at key;simp (disch:=omega) only [Ar5,key,EVM,EVC,xe,EVP,EV,simprocAttr]
 |some j=>
  rw [h] at key;simp (disch:=omega) only [Ar5,key,EVM,EVC,xe,EVP,EV,simprocAttr]
theorem Jw (l:List (List UInt8)) (x:List UInt8) (hl:l.length≤1000000):S X2 2 [Bg l, .s x]=some [.b (decide (x∈l))]:=by refine Jv8 (N:=1) rfl ?_;obtain ⟨k,h1,h2⟩:=Dp2 l x hl;simp (disch:=omega) only [Ir5,h2,EVM,EVC,xe,EVP,EV,simprocAttr];simp [h1]
def ixG {α:Type} (p:α→Bool) (k:Nat):List α→Int
 |[]=> -1
 |r::rs=>if p r=true then (k:Int) else ixG p (k+1) rs
theorem my {α:Type} (p:α→Bool):∀(l:List α) (k:Nat),(0≤ixG p k l↔l.any p=true)∧ixG p k l≤k+l.length∧ -1≤ixG p k l
 |[],k=>by simp [ixG]
 |r::rs,k=>by
  have ih:=my p rs (k+1);rcases Aq (p r) with h|h
  ·simp [ixG,h];omega
  ·simp only [ixG,h,List.any_cons,Kb,As];refine ⟨by simpa using ih.1,?_,by simpa using ih.2.2⟩;have:=ih.2.1;simp only [Ad,if_false] at this ⊢;omega
theorem Zf (l:List (List UInt8)) (g:Nat) (caps:List PV) (p:List UInt8→Bool) (hl:l.length≤1000000) (h:∀r∈l,S g 1 (.s r::caps)=some [.b (p r)]):S dn 2 [Bg l, .f g caps]=some [.i .i64 (ixG p 0 l)]:=by
 refine Hn5 (N:=l.length+1) rfl ?_;have key:Bs3.ev S (l.length+1) [Bg l, .f g caps]=some (if ixG p 0 l= -1 then .yld 0 [] else .ret [.i .i64 (ixG p 0 l)]):=by
  refine Fc l (fun i=>[.i .i64 (i:Int)]) (fun i r=>if ixG p i r= -1 then .yld 0 [] else .ret [.i .i64 (ixG p i r)]) rfl (by omega) (fun i c r hd hi hc=> ?_) ?_
  ·have hp:=h c (Bv hc);rcases Aq (p c) with h1|h1
   ·rw [h1] at hp;right;have h2:¬((i:Int)= -1):=by omega
    simp (disch:=omega) only [Z2,hc,hp,EVT,EVC,xe,EVP,EV,simprocAttr];simp [ixG,h1,h2,Out.goes]
   ·rw [h1] at hp;left;simp (disch:=omega) only [Z2,hc,hp,EVT,EVC,xe,EVP,EV,simprocAttr];simp [ixG,h1]
  ·simp (disch:=omega) only [Z2,EVT,EVC,xe,EVP,EV,simprocAttr];simp [ixG,Out.goes]
 by_cases h1:ixG p 0 l= -1
 ·rw [if_pos h1] at key;simp (disch:=omega) only [Z2,key,h1,EVT,EVC,xe,EVP,EV,simprocAttr]
 ·rw [if_neg h1] at key;simp (disch:=omega) only [Z2,key,EVT,EVC,xe,EVP,EV,simprocAttr]
theorem Q4 (l:List (List UInt8)) (g:Nat) (caps:List PV) (p:List UInt8→Bool) (hl:l.length≤1000000) (h:∀r∈l,S g 1 (.s r::caps)=some [.b (p r)]):S d9 2 [Bg l, .f g caps]=some [.b (l.any p)]:=by
 refine Hr7 (N:=1) rfl ?_;simp (disch:=omega) only [Hc3,Zf l g caps p hl h,EVC,xe,EVP,EV,simprocAttr];have:=(my p l 0).1;rcases Aq (l.any p) with h1|h1
 ·rw [h1] at this ⊢;simp [this.2 rfl]
 ·rw [h1] at this ⊢;have h2:¬(0≤ixG p 0 l):=fun h=>by simpa using this.1 h
  simp [h2]
theorem i6 (l:List Rec) (hl:l.length≤1000000):S Af2 1 [Ag l]=some [Ag l]:=by
 refine Jj7 (N:=1) rfl ?_;have h0:H3 16 (Ag []) (Ag l)=some (Ag l):=by simpa using Iq [] l (by simp;omega)
 simp (disch:=omega) only [Ip6,h0,EVT,EVC,xe,EVP,EV,simprocAttr]
theorem fg {α:Type} (p:α→Bool):∀(l:List α) (k:Nat),0≤ixG p k l→∃j,ixG p k l=((k+j:Nat):Int)∧j<l.length∧(∀x∈l.take j,p x=false)∧∃x,l[j]? =some x∧p x=true
 |[],k,h=>by simp [ixG] at h
 |r::rs,k,h=>by
  rcases Aq (p r) with h1|h1
  ·exact ⟨0,by simp [ixG,h1],by simp,by simp,r,rfl,h1⟩
  ·have e:ixG p k (r::rs)=ixG p (k+1) rs:=by simp [ixG,h1]
   rw [e] at h ⊢;obtain ⟨j,g1,g2,g3,x,g4,g5⟩:=fg p rs (k+1) h;refine ⟨j+1,by rw [g1];congr 1;omega,by simp;omega,fun y hy=> ?_,x,by simpa using g4,g5⟩;simp only [List.take_succ_cons,Am] at hy;rcases hy with rfl|hy
   ·exact h1
   ·exact g3 y hy
theorem Jr {α:Type} (p:α→Bool) {l:List α} (h:∀x∈l,p x=false):l.filter (fun x=> !p x)=l:=by rw [List.filter_eq_self];intro x hx;simp [h x hx]
def ixF (p:Rec→Bool) (k:Nat):List Rec→Int
 |[]=> -1
 |r::rs=>if p r=true then (k:Int) else ixF p (k+1) rs
theorem Bt6 (p:Rec→Bool):∀(l:List Rec) (k:Nat),(0≤ixF p k l↔l.any p=true)∧ixF p k l≤k+l.length∧ -1≤ixF p k l
 |[],k=>by simp [ixF]
 |r::rs,k=>by
  have ih:=Bt6 p rs (k+1);rcases Aq (p r) with h|h
  ·simp [ixF,h];omega
  ·simp only [ixF,h,List.any_cons,Kb,As];refine ⟨by simpa using ih.1,?_,by simpa using ih.2.2⟩;have:=ih.2.1;simp only [Ad,if_false] at this ⊢;omega
theorem O0 (l:List Rec) (g:Nat) (caps:List PV) (p:Rec→Bool) (hl:l.length≤1000000) (h:∀r∈l,S g 1 (r.pv::caps)=some [.b (p r)]):S lf 2 [Ag l, .f g caps]=some [.i .i64 (ixF p 0 l)]:=by
 refine Jj9 (N:=l.length+1) rfl ?_;have key:Fk2.ev S (l.length+1) [Ag l, .f g caps]=some (if ixF p 0 l= -1 then .yld 0 [] else .ret [.i .i64 (ixF p 0 l)]):=by
  refine Fc l (fun i=>[.i .i64 (i:Int)]) (fun i r=>if ixF p i r= -1 then .yld 0 [] else .ret [.i .i64 (ixF p i r)]) rfl (by omega) (fun i c r hd hi hc=> ?_) ?_
  ·have hp:=h c (Bv hc);rcases Aq (p c) with h1|h1
   ·rw [h1] at hp;right;have h2:¬((i:Int)= -1):=by omega
    simp (disch:=omega) only [Ar2,hc,hp,EVC,xe,EVP,EV,simprocAttr];simp [ixF,h1,h2,Out.goes]
   ·rw [h1] at hp;left;simp (disch:=omega) only [Ar2,hc,hp,EVC,xe,EVP,EV,simprocAttr];simp [ixF,h1]
  ·simp (disch:=omega) only [Ar2,EVC,xe,EVP,EV,simprocAttr];simp [ixF,Out.goes]
 by_cases h1:ixF p 0 l= -1
 ·rw [if_pos h1] at key;simp (disch:=omega) only [Ar2,key,h1,EVC,xe,EVP,EV,simprocAttr]
 ·rw [if_neg h1] at key;simp (disch:=omega) only [Ar2,key,EVC,xe,EVP,EV,simprocAttr]
theorem H6 (l:List Rec) (g:Nat) (caps:List PV) (p:Rec→Bool) (hl:l.length≤1000000) (h:∀r∈l,S g 1 (r.pv::caps)=some [.b (p r)]):S lm 2 [Ag l, .f g caps]=some [.b (l.any p)]:=by
 refine Jv1 (N:=1) rfl ?_;simp (disch:=omega) only [Ir4,O0 l g caps p hl h,EVC,xe,EVP,EV,simprocAttr];have:=(Bt6 p l 0).1;rcases Aq (l.any p) with h1|h1
 ·rw [h1] at this ⊢;simp [this.2 rfl]
 ·rw [h1] at this ⊢;have h2:¬(0≤ixF p 0 l):=fun h=>by simpa using this.1 h
  simp [h2]
end Go.X.G
/- Records that go out of a list. -/
namespace Go.X.G
open Go Go.X
theorem bh {step:List PV→Option Out} {id:Nat} {α:Type} (st:α→List PV) (Q:Out→Prop) (I:α→Prop) (μ:α→Nat)
  (h:∀a,I a→(∃b,step (st a)=some (.yld id (st b))∧I b∧μ b<μ a)∨∃o,step (st a)=some o∧o.goes id=false∧Q o):
  ∀(n:Nat) (a:α),I a→μ a<n→∃o,Gq step id n (st a)=some o∧Q o
 |0,a,_,hn=>by omega
 |n+1,a,ha,hn=>by
  simp only [Gq];rcases h a ha with ⟨b,h1,h2,h3⟩|⟨o,h1,h2,h3⟩
  ·rw [h1];simp only [Az,if_true];exact bh st Q I μ h n b h2 (by omega)
  ·rw [h1];refine ⟨o,?_,h3⟩;simp only [Az];cases o with
   |ret vs=>rfl
   |yld j vs=>
    simp only [Out.goes,beq_eq_false_iff_ne,ne_eq] at h2;simp only [];rw [if_neg h2]
theorem G7 {fn:Fns} {N:Nat} {η:List PV} {id:Nat} {init:List E} {body:T} {α:Type} (st:α→List PV) (Q:Out→Prop) (I:α→Prop) (μ:α→Nat) (a0:α)
  (h0:E.evs η init=some (st a0)) (hI:I a0) (hN:μ a0<N)
  (h:∀a,I a→(∃b,body.ev fn N (η++st a)=some (.yld id (st b))∧I b∧μ b<μ a)∨∃o,body.ev fn N (η++st a)=some o∧o.goes id=false∧Q o):
  ∃o,(T.loop id init body).ev fn N η=some o∧Q o:=by
 simp only [T.ev,h0,Az];exact bh st Q I μ h N a0 hI hN
abbrev zr:Rec:=⟨[],0,0,⟨false,0,0,[],[],[],0,0,0,0,0,0,0⟩⟩
abbrev q9:PV:=Rec.pv ⟨[],0,0,⟨false,0,0,[],[],[],0,0,0,0,0,0,0⟩⟩
theorem Ic4 (p:Rec→Bool):∀(l:List Rec) (k:Nat),ixF p k l=ixG p k l
 |[],_=>rfl
 |r::rs,k=>by simp only [ixF,ixG,Ic4 p rs]
theorem Ur (l:List Rec) (g:Nat) (caps:List PV) (p:Rec→Bool) (hl:l.length≤1000000) (h:∀r∈l,S g 1 (r.pv::caps)=some [.b (p r)]):S lf 2 [Ag l, .f g caps]=some [.i .i64 (ixG p 0 l)]:=by rw [←Ic4];exact O0 l g caps p hl h
theorem wm (n:Int) (h0:0≤n) (h1:n≤1073741824):Kt 16 (.i .i64 n) q9=some (Ag (List.replicate n.toNat zr)):=by
 have h2:n≤(LIM:Int):=by simp only [LIM];omega
 have h3:q9.cells.length=16:=rfl;simp only [Kt,h0,h2,h3,and_self,if_true];simp [Ag,Rec.pv,Rec.cells,Dat.cells]
theorem An3 (l:List Rec) (g:Nat) (caps:List PV) (p:Rec→Bool) (hl:l.length≤1000000) (h:∀r∈l,S g 1 (r.pv::caps)=some [.b (p r)]):S d8 1048578 [Ag l, .f g caps]=some [Ag (l.filter fun x=> !p x)]:=by
 refine Hr4 (N:=l.length+1) rfl ?_;have h0:=Ur l g caps p hl h;have hany:=(my p l 0);by_cases hneg:ixG p 0 l= -1
 ·have hf:l.any p=false:=by
   rcases Aq (l.any p) with h1|h1
   ·have:=hany.1.2 h1;omega
   ·exact h1
  have e:l.filter (fun x=> !p x)=l:=Jr p (fun x hx=>by rw [List.any_eq_false] at hf;simpa using hf x hx);rw [hneg] at h0;rw [e];simp (disch:=omega) only [Z5,h0,EVT,EVM,EVC,xe,EVP,EV,simprocAttr]
 ·obtain ⟨j0,g1,g2,g3,x0,g4,g5⟩:=fg p l 0 (by have:=hany.2.2;omega);rw [g1] at h0;simp only [D4] at h0;have key:∃s:List Rec,s.length=l.length∧s.take (l.filter fun x=> !p x).length=l.filter (fun x=> !p x)∧Bs7.ev S (l.length+1) [Ag l, .f g caps, .i .i64 (j0:Int)]=some (.yld 0 [.i .i64 (((l.filter fun x=> !p x).length:Nat):Int),Ag s]):=by
   let nx:Nat×Nat×List Rec→Nat×Nat×List Rec:=fun a=>match l[a.2.1]? with
    |some c=>if p c=true then (a.1,a.2.1+1,a.2.2) else (a.1+1,a.2.1+1,a.2.2.set a.1 c)
    |none=>a
   let fin:Nat→Nat×Nat×List Rec→Nat×Nat×List Rec:=fun n a=>Nat.rec a (fun _ b=>nx b) n;have fin_s:∀n a,fin (n+1) a=nx (fin n a):=fun _ _=>rfl;have fin_c:∀n a,fin (n+1) a=fin n (nx a):=by
    intro n
    induction n with
    |zero=>intro a;rfl
    |succ n ih=>intro a;exact congrArg nx (ih a)
   let I:Nat×Nat×List Rec→Prop:=fun a=>a.1<a.2.1∧a.2.1≤l.length∧a.2.2.length=l.length∧a.2.2.take a.1=(l.take a.2.1).filter (fun x=> !p x)∧a.2.2.drop a.2.1=l.drop a.2.1;have I_nx:∀a,I a→a.2.1<l.length→I (nx a)∧(nx a).2.1=a.2.1+1:=by
    rintro ⟨i,j,s⟩ ⟨i1,i2,i3,i4,i5⟩ hj;simp only at i1 i2 i3 i4 i5 hj;have hc:l[j]? =some l[j]:=Ab hj;have ht:l.take (j+1)=l.take j++[l[j]]:=by rw [Cw,hc];rfl
    have hdrop:s.drop (j+1)=l.drop (j+1):=by rw [←Cm (i:=1) (j:=j),i5,Cm]
    have hlen:i=((l.take j).filter fun x=> !p x).length:=by rw [←i4,Ap];omega
    simp only [nx,hc];rcases Aq (p l[j]) with h1|h1
    ·simp only [h1,if_true];refine ⟨⟨by simp only;omega,by simp only;omega,i3,?_,hdrop⟩,trivial⟩;simp only;rw [ht,Ds,i4];simp [h1]
    ·simp only [h1,Ad,if_false];refine ⟨⟨by simp only;omega,by simp only;omega,by simpa using i3,?_,?_⟩,trivial⟩
     ·simp only;rw [ht,Ds,←i4,Cw,List.getElem?_set_self (by omega),List.take_set_of_le (by omega)];simp [h1]
     ·simp only;rw [Q6 (by omega),hdrop]
   have I_fin:∀n a,I a→a.2.1+n≤l.length→I (fin n a)∧(fin n a).2.1=a.2.1+n:=by
    intro n
    induction n with
    |zero=>intro a ha _;exact ⟨ha,rfl⟩
    |succ n ih=>
     intro a ha hn;obtain ⟨q1,q2⟩:=ih a ha (by omega);obtain ⟨q3,q4⟩:=I_nx _ q1 (by omega);rw [fin_s];exact ⟨q3,by rw [q4,q2];omega⟩
   have I0:I (j0,j0+1,l):=by refine ⟨by simp only;omega,by simp only;omega,rfl,?_,rfl⟩;simp only;rw [Cw,g4,Ds,Jr p g3];simp [g5]
   obtain ⟨z1,z2⟩:=I_fin (l.length - (j0+1)) (j0,j0+1,l) I0 (by simp only;omega);simp only at z2;refine ⟨(fin (l.length - (j0+1)) (j0,j0+1,l)).2.2,z1.2.2.1,?_,?_⟩
   ·have q:=z1.2.2.2.1;have e1:(fin (l.length - (j0+1)) (j0,j0+1,l)).2.1=l.length:=by rw [z2];omega
    rw [e1,C7] at q;rw [←q,Ap,z1.2.2.1];have:=z1.1;rw [Jx (by omega)]
   ·have hlen:(fin (l.length - (j0+1)) (j0,j0+1,l)).1=(l.filter fun x=> !p x).length:=by
     have q:=z1.2.2.2.1;have e1:(fin (l.length - (j0+1)) (j0,j0+1,l)).2.1=l.length:=by rw [z2];omega
     rw [e1,C7] at q;have q2:=congrArg List.length q;have:=z1.1;rw [Ap,z1.2.2.1,Jx (by omega)] at q2;exact q2
    refine Eq.trans (Jm (α:=Nat×Nat×List Rec) (fun a=>[.i .i64 (a.1:Int), .i .i64 (a.2.1:Int),Ag a.2.2]) (fun a=> .yld 0 [.i .i64 ((fin (l.length - a.2.1) a).1:Int),Ag (fin (l.length - a.2.1) a).2.2]) I (fun a=>l.length - a.2.1) (j0,j0+1,l) ?_ I0 (by simp only;omega) ?_) ?_
    ·simp (disch:=omega) only [EVT,EVM,EVC,xe,EVP,EV,simprocAttr]
    ·rintro ⟨i,j,s⟩ hI;obtain ⟨i1,i2,i3,i4,i5⟩:=hI;simp only at i1 i2 i3 i4 i5;by_cases hj:j<l.length
     ·left;have hc:l[j]? =some l[j]:=Ab hj;have hsc:s[j]? =some l[j]:=by have:=congrArg (fun q=>q[0]?) i5;simpa [A6,hc] using this
      have hsi:∃y,s[i]? =some y:=⟨_,Ab (by omega)⟩;obtain ⟨y,hsi⟩:=hsi;obtain ⟨q3,q4⟩:=I_nx (i,j,s) ⟨i1,i2,i3,i4,i5⟩ hj;have hp:=h l[j] (Dy hj);refine ⟨nx (i,j,s),?_,q3,by rw [q4];simp only;omega,?_⟩
      ·have hjs:(j:Int)<(s.length:Int):=by omega
       rcases Aq (p l[j]) with h1|h1
       ·rw [h1] at hp;simp only [nx,hc,h1,if_true];simp (disch:=omega) only [Z5,hjs,hsc,hp,EVT,EVM,EVC,xe,EVP,EV,simprocAttr]
       ·rw [h1] at hp;simp only [nx,hc,h1,Ad,if_false];simp (disch:=omega) only [Z5,hjs,hsc,hsi,hp,EVT,EVM,EVC,xe,EVP,EV,simprocAttr]
      ·have e1:l.length - j=(l.length - (j+1))+1:=by omega
       rw [q4];simp only;rw [e1,fin_c]
     ·right;have hjs:¬(j:Int)<(s.length:Int):=by omega
      have e1:l.length - j=0:=by omega
      simp only [e1];simp (disch:=omega) only [Z5,hjs,EVT,EVM,EVC,xe,EVP,EV,simprocAttr];exact ⟨rfl,rfl⟩
    ·simp only;rw [hlen]
  obtain ⟨s,hs1,hs2,key⟩:=key;have hle:(l.filter fun x=> !p x).length≤l.length:=Ef _ _;have e0:¬((j0:Int)= -1):=by omega
  generalize (l.filter fun x=> !p x)=fl at*;have hsl1:G6 16 (Ag s) (.i .i64 ((fl.length:Nat):Int)) (.i .i64 (s.length:Int))=some (Ag (s.drop fl.length)):=by rw [G5 _ _ _ _ _ (by omega) (by omega) (by omega)];simp
  have hsl2:G6 16 (Ag s) (.i .i64 0) (.i .i64 ((fl.length:Nat):Int))=some (Ag fl):=by rw [G5 _ _ _ _ _ (by omega) (by omega) (by omega)];simp [hs2]
  have hrep:Kt 16 (.i .i64 ((s.length:Int) - (fl.length:Int))) q9=some (Ag (List.replicate (s.length - fl.length) zr)):=by rw [wm _ (by omega) (by omega)];congr 3;omega
  have happ:H3 16 (Ag fl) (Ag (List.replicate (s.length - fl.length) zr))=some (Ag (fl++List.replicate (s.length - fl.length) zr)):=Iq _ _ (by simp;omega);have hsl3:G6 16 (Ag (fl++List.replicate (s.length - fl.length) zr)) (.i .i64 0) (.i .i64 ((fl.length:Nat):Int))=some (Ag fl):=by rw [G5 _ _ _ _ _ (by omega) (by omega) (by simp;omega)];simp
  simp (disch:=omega) only [Z5,h0,e0,key,hsl1,hsl2,hrep,happ,hsl3,EVT,EVM,EVC,xe,EVP,EV,simprocAttr]
def Gs3:PV→PV→Int
 | .s a, .s b=>Jf a b
 |_,_=>0
theorem Zc (l:List (List UInt8)) (hl:l.length≤1000000) (hs:∀x∈l,x.length≤9223372036854775807):S N9 1048578 [Bg l, .f Jl []]=some [Bg (l.mergeSort fun x y=> !decide (Jf y x<0))]:=by
 have hm:∀x∈l.map PV.s,∃a∈l,x= .s a:=fun x hx=>by obtain ⟨a,h1,h2⟩:=Dd.1 hx;exact ⟨a,h1,h2.symm⟩
 have h:=wz (tab:=tab) (xs:=Gn0) (ss:=Ux) (f:=N9) (s:=Bk5) Gb7 Gc3 (g:=Jl) (caps:=[]) (l:=l.map PV.s) (by decide) (by simp;omega)
  (fun x hx=>by obtain ⟨a,_,rfl⟩:=hm x hx;rfl) Gs3
  (fun x hx y hy=>by obtain ⟨a,ha,rfl⟩:=hm x hx;obtain ⟨b,hb,rfl⟩:=hm y hy;exact T6 a b (hs a ha) (hs b hb))
  (fun x hx=>by obtain ⟨a,_,rfl⟩:=hm x hx;show¬Jf a a<0;rw [Fz];exact to_N.irr a)
  (fun x hx y hy z hz h1 h2=>by obtain ⟨a,_,rfl⟩:=hm x hx;obtain ⟨b,_,rfl⟩:=hm y hy;obtain ⟨c,_,rfl⟩:=hm z hz;exact (Fz a c).2 (to_N.tr _ _ _ ((Fz a b).1 h1) ((Fz b c).1 h2)))
  (fun x hx y hy z hz h1 h2=>by obtain ⟨a,_,rfl⟩:=hm x hx;obtain ⟨b,_,rfl⟩:=hm y hy;obtain ⟨c,_,rfl⟩:=hm z hz;exact fun h3=>to_N.ntr (fun q=>h1 ((Fz a b).2 q)) (fun q=>h2 ((Fz b c).2 q)) ((Fz a c).1 h3))
  (fun x hx y hy h1 h2=>by
   obtain ⟨a,_,rfl⟩:=hm x hx;obtain ⟨b,_,rfl⟩:=hm y hy;rcases to_N.tri a b with q|q|q
   ·exact absurd ((Fz a b).2 q) h1
   ·rw [q]
   ·exact absurd ((Fz b a).2 q) h2)
 have e:(l.map PV.s).mergeSort (fun x y=> !decide (Gs3 y x<0))=(l.mergeSort fun x y=> !decide (Jf y x<0)).map PV.s:=(Ip1 (r:=fun x y=> !decide (Jf y x<0)) (s:=fun x y=> !decide (Gs3 y x<0)) (f:=PV.s) fun a _ b _=>rfl).symm;rw [e] at h;exact h
theorem Nq (l:List (List UInt8)) (hl:l.length≤1000000):S S2 1048577 [Bg l]=some [Bg (cpt eqs l)]:=by
 refine Hr5 (N:=l.length+2) rfl ?_;by_cases h2:(l.length:Int)<2
 ·have e:cpt eqs l=l:=by
   match l,h2 with
   |[],_=>rfl
   |[x],_=>rfl
   |_::_::_,h=>simp at h;omega
  rw [e];simp (disch:=omega) only [Ng,h2,EVT,EVM,EVC,xe,EVP,EV,simprocAttr]
 ·-- the inner Gq, from a place where two neighbours are equal
  have inner:∀k:Nat,1≤k→k<l.length→cpt eqs (l.take (k+1))=l.take k→∃s:List (List UInt8),s.length=l.length∧s.take (cpt eqs l).length=cpt eqs l∧Br1.ev S (l.length+2) [Bg l, .i .i64 (k:Int),Bg l]=some (.yld 2 [.i .i64 ((cpt eqs l).length:Int),Bg s]):=by
   intro k hk1 hk hcp;have key:=G7 (fn:=S) (N:=l.length+2) (η:=[Bg l, .i .i64 (k:Int),Bg l]) (id:=3) (init:=[(.v 1),(.c (.i .i64 (1))),(.v 2)]) (body:=pw) (α:=Nat×Nat×List (List UInt8))
    (fun a=>[.i .i64 (a.1:Int), .i .i64 (a.2.1:Int),Bg a.2.2])
    (fun o=>∃s:List (List UInt8),s.length=l.length∧s.take (cpt eqs l).length=cpt eqs l∧o= .yld 2 [.i .i64 ((cpt eqs l).length:Int),Bg s])
    (fun a=>1≤a.2.1∧k+a.2.1≤l.length∧a.1<k+a.2.1∧a.2.2.length=l.length∧a.2.2.take a.1=cpt eqs (l.take (k+a.2.1))∧(cpt eqs (l.take (k+a.2.1))).length=a.1∧a.2.2.drop (k+a.2.1 - 1)=l.drop (k+a.2.1 - 1))
    (fun a=>l.length - a.2.1) (k,1,l) (by simp (disch:=omega) only [EVT,EVM,EVC,xe,EVP,EV,simprocAttr])
    ⟨by simp,by simp;omega,by simp,rfl,by simp only;rw [hcp],by simp only;rw [hcp,Ap];omega,rfl⟩ (by simp only;omega) ?_
   ·obtain ⟨o,h3,s,h4,h5,rfl⟩:=key;exact ⟨s,h4,h5,h3⟩
   ·rintro ⟨i,j,s⟩ ⟨a1,a2,a3,a4,a5,a6,a7⟩;simp only at a1 a2 a3 a4 a5 a6 a7;by_cases hj:k+j<l.length
    ·left;have c1:s[k+j]? =l[k+j]? :=by have:=congrArg (fun q=>q[1]?) a7;simp only [A6] at this;rwa [show k+j - 1+1=k+j by omega] at this
     have c0:s[k+j - 1]? =l[k+j - 1]? :=by have:=congrArg (fun q=>q[0]?) a7;simpa only [A6,Dv] using this
     have g1:l[k+j]? =some (l[k+j]'hj):=Ab hj;have g0:l[k+j - 1]? =some (l[k+j - 1]'(by omega)):=Ab (by omega);have tk:l.take (k+(j+1))=l.take (k+j)++[l[k+j]'hj]:=by rw [show k+(j+1)=(k+j)+1 by omega,Cw,g1];rfl
     have ne:l.take (k+j)≠[]:=by intro h;have:=congrArg List.length h;rw [Ap,A9] at this;omega
     have gl:(l.take (k+j)).getLast ne=l[k+j - 1]'(by omega):=by rw [I2];simp only [qt,Ap];congr 1;omega
     have cs:=My eqs (l[k+j]'hj) (l.take (k+j)) ne;rw [←tk,gl] at cs;generalize l[k+j]'hj=x at*;generalize l[k+j - 1]'(by omega)=y at*;have hjj:(j:Int)<(s.length:Int) - (k:Int):=by omega
     have i1:Gt 1 (Bg s) (.i .i64 ((k:Int)+(j:Int)))=some (.s x):=by rw [Mk _ _ _ (by omega),show ((k:Int)+(j:Int)).toNat=k+j by omega,c1,g1];rfl
     have i0:Gt 1 (Bg s) (.i .i64 ((k:Int)+((j:Int) - 1)))=some (.s y):=by rw [Mk _ _ _ (by omega),show ((k:Int)+((j:Int) - 1)).toNat=k+j - 1 by omega,c0,g0];rfl
     have ls:G6 1 (Bg s) (.i .i64 (k:Int)) (.i .i64 (s.length:Int))=some (Bg (s.drop k)):=by rw [L8 _ _ _ _ _ (by omega) (by omega) (by omega)];simp
     have e1:(s.drop k)[j]? =some x:=by rw [A6,c1,g1]
     have e0:(s.drop k)[j - 1]? =some y:=by rw [A6,show k+(j - 1)=k+j - 1 by omega,c0,g0]
     have si:∃w,s[i]? =some w:=⟨_,Ab (by omega)⟩;obtain ⟨w,si⟩:=si;have ej:((j:Int) - 1).toNat=j - 1:=by omega
     by_cases hxy:x=y
     ·refine ⟨(i,j+1,s),?_,⟨by simp,by simp only;omega,by simp only;omega,a4,?_,?_,?_⟩,by simp only;omega⟩
      ·simp (disch:=omega) only [Ng,hjj,i1,i0,ls,e1,e0,ej,hxy,EVT,EVM,EVC,xe,EVP,EV,simprocAttr]
      ·simp only;rw [cs,a5];simp [eqs,hxy]
      ·simp only;rw [cs,Ay,a6];simp [eqs,hxy]
      ·simp only;rw [show k+(j+1) - 1=(k+j - 1)+1 by omega,←Cm,←Cm,a7]
     ·refine ⟨(i+1,j+1,s.set i x),?_,⟨by simp,by simp only;omega,by simp only;omega,by simpa using a4,?_,?_,?_⟩,by simp only;omega⟩
      ·simp (disch:=omega) only [Ng,hjj,i1,i0,ls,e1,e0,ej,si,hxy,EVT,EVM,EVC,xe,EVP,EV,simprocAttr]
      ·simp only;rw [cs,Cw,List.getElem?_set_self (by omega),List.take_set_of_le (by omega),a5];simp [eqs,hxy]
      ·simp only;rw [cs,Ay,a6];simp [eqs,hxy]
      ·simp only;rw [show k+(j+1) - 1=(k+j - 1)+1 by omega,Q6 (by omega),←Cm,←Cm,a7]
    ·right;have ek:k+j=l.length:=by omega
     rw [ek,C7] at a5 a6;have hjj:¬(j:Int)<(s.length:Int) - (k:Int):=by omega
     refine ⟨.yld 2 [.i .i64 (i:Int),Bg s],?_,rfl,s,a4,by rw [a6];exact a5,by rw [a6]⟩;simp (disch:=omega) only [Ng,hjj,EVT,EVM,EVC,xe,EVP,EV,simprocAttr]
  have key:Bs8.ev S (l.length+2) [Bg l]=some (if cpt eqs l=l then .yld 0 [Bg l] else .ret [Bg (cpt eqs l)]):=by
   have:=G7 (fn:=S) (N:=l.length+2) (η:=[Bg l]) (id:=1) (init:=[(.c (.i .i64 (1))),(.v 0)]) (body:=qj) (α:=Nat)
    (fun k=>[.i .i64 (k:Int),Bg l]) (fun o=>o=if cpt eqs l=l then .yld 0 [Bg l] else .ret [Bg (cpt eqs l)])
    (fun k=>1≤k∧k≤l.length∧cpt eqs (l.take k)=l.take k) (fun k=>l.length - k) 1 (by simp (disch:=omega) only [EVT,EVM,EVC,xe,EVP,EV,simprocAttr])
    ⟨Af 1,by omega,by cases l with
     |nil=>simp at h2
     |cons x r=>rfl⟩ (by omega) ?_
   ·obtain ⟨o,h3,h4⟩:=this;rw [←h4];exact h3
   ·rintro k ⟨k1,k2,k3⟩;by_cases hk:k<l.length
    ·have g1:l[k]? =some l[k]:=Ab hk;have g0:l[k - 1]? =some (l[k - 1]'(by omega)):=Ab (by omega);have tk:l.take (k+1)=l.take k++[l[k]]:=by rw [Cw,g1];rfl
     have ne:l.take k≠[]:=by intro h;have:=congrArg List.length h;rw [Ap,A9] at this;omega
     have gl:(l.take k).getLast ne=l[k - 1]'(by omega):=by rw [I2];simp only [qt,Ap];congr 1;omega
     have cs:=My eqs l[k] (l.take k) ne;rw [←tk,gl,k3] at cs;have hkk:(k:Int)<(l.length:Int):=by omega
     have i1:Gt 1 (Bg l) (.i .i64 (k:Int))=some (.s l[k]):=by rw [Mk _ _ _ (by omega),show ((k:Int)).toNat=k by omega,g1];rfl
     have i0:Gt 1 (Bg l) (.i .i64 ((k:Int) - 1))=some (.s (l[k - 1]'(by omega))):=by rw [Mk _ _ _ (by omega),show ((k:Int) - 1).toNat=k - 1 by omega,g0];rfl
     by_cases hxy:l[k]=l[k - 1]'(by omega)
     ·right;have cs':cpt eqs (l.take (k+1))=l.take k:=by rw [cs];simp [eqs,hxy]
      obtain ⟨s,s1,s2,s3⟩:=inner k k1 hk cs';have hlt:cpt eqs l≠l:=by
       intro h;have q:(cpt eqs l).length≤(cpt eqs (l.take (k+1))).length+(l.drop (k+1)).length:=by
        have:∀(b a:List (List UInt8)),a≠[]→(cpt eqs (a++b)).length≤(cpt eqs a).length+b.length:=by
         intro b
         induction b with
         |nil=>intro a _;simp
         |cons x r ih=>
          intro a ha;have h1:=ih (a++[x]) (by simp);rw [My _ _ _ ha] at h1;rw [show a++x::r=a++[x]++r by simp];refine C6 h1 ?_;rw [Ay];split<;>simp<;>omega
        have h3:=this (l.drop (k+1)) (l.take (k+1)) (by intro h;have:=congrArg List.length h;rw [Ap,A9] at this;omega);rwa [Bp] at h3
       rw [h,cs',Ap,B3] at q;omega
      have hlen:=Ys eqs l;refine ⟨.ret [Bg (cpt eqs l)],?_,rfl,by rw [if_neg hlt]⟩;generalize cpt eqs l=fl at*;have ls:G6 1 (Bg l) (.i .i64 (k:Int)) (.i .i64 (l.length:Int))=some (Bg (l.drop k)):=by rw [L8 _ _ _ _ _ (by omega) (by omega) (by omega)];simp
      have hsl1:G6 1 (Bg s) (.i .i64 ((fl.length:Nat):Int)) (.i .i64 (s.length:Int))=some (Bg (s.drop fl.length)):=by rw [L8 _ _ _ _ _ (by omega) (by omega) (by omega)];simp
      have hsl2:G6 1 (Bg s) (.i .i64 0) (.i .i64 ((fl.length:Nat):Int))=some (Bg fl):=by rw [L8 _ _ _ _ _ (by omega) (by omega) (by omega)];simp [s2]
      have hrep:Kt 1 (.i .i64 ((s.length:Int) - (fl.length:Int))) (.s [])=some (Bg (List.replicate (s.length - fl.length) [])):=by rw [wl _ (by omega) (by omega)];congr 3;omega
      have happ:H3 1 (Bg fl) (Bg (List.replicate (s.length - fl.length) []))=some (Bg (fl++List.replicate (s.length - fl.length) [])):=Av8 _ _ (by simp;omega);have hsl3:G6 1 (Bg (fl++List.replicate (s.length - fl.length) [])) (.i .i64 0) (.i .i64 ((fl.length:Nat):Int))=some (Bg fl):=by rw [L8 _ _ _ _ _ (by omega) (by omega) (by simp;omega)];simp
      simp (disch:=omega) only [Ng,hkk,i1,i0,hxy,ls,s3,hsl1,hsl2,hrep,happ,hsl3,EVT,EVM,EVC,xe,EVP,EV,simprocAttr]
     ·left;refine ⟨k+1,?_,⟨by omega,by omega,?_⟩,by omega⟩
      ·simp (disch:=omega) only [Ng,hkk,i1,i0,hxy,EVT,EVM,EVC,xe,EVP,EV,simprocAttr]
      ·rw [cs,tk];simp [eqs,hxy]
    ·right;have e:k=l.length:=by omega
     subst e;rw [C7] at k3;refine ⟨_,?_,?_,rfl⟩
     ·rw [if_pos k3];simp (disch:=omega) only [Ng,EVT,EVM,EVC,xe,EVP,EV,simprocAttr]
     ·rw [if_pos k3];rfl
  by_cases h:cpt eqs l=l
  ·rw [if_pos h] at key;rw [h];simp (disch:=omega) only [Ng,h2,key,EVT,EVM,EVC,xe,EVP,EV,simprocAttr]
  ·rw [if_neg h] at key;simp (disch:=omega) only [Ng,h2,key,EVT,EVM,EVC,xe,EVP,EV,simprocAttr]
end Go.X.G
/- Delegations and names of a zone, as the program finds them. -/
namespace Go.X.G
open Go Go.X
theorem Gr7 {z:Zone} {n b:List UInt8} {c:Rec} (hI:b=[]∨under n b=true):(if (Dq z c && under n c.name && (decide (b=[])||decide ((lbl c.name).length<(lbl b).length)))=true then c.name else b)=[]∨under n (if (Dq z c && under n c.name && (decide (b=[])||decide ((lbl c.name).length<(lbl b).length)))=true then c.name else b)=true:=by
 split
 ·rename_i h;simp only [Aw] at h;exact .inr h.1.2
 ·exact hI
theorem Ar0 (z:Zone) (n:List UInt8) (hz:z.wf) (hl:z.recs.length≤1000000) (hn:n.length≤9223372036854775807):S Ag2 2 [z.pv, .s n]=some [.s (cutN z n), .b (decide (cutN z n≠[]))]:=by
 refine Jw4 (N:=z.recs.length+1) rfl ?_;have g1:=hz.origin;unfold W7 at g1;have key:Fq8.ev S (z.recs.length+1) [z.pv, .s n]=some (.yld 0 [.s (jq z n [] z.recs)]):=by
  refine Fx z.recs (fun i (b:List UInt8)=>[.s b, .i .i64 (i:Int)]) (fun i b r=> .yld 0 [.s (jq z n b r)]) (fun i b=>b=[]∨under n b=true) [] rfl (.inl rfl) (by omega) (fun i b c r hd hi hc hI=> ?_) (fun b hI=> ?_)
  ·left;have g2:=(hz.recs.2 c (Bv hc)).name;unfold W7 at g2;refine ⟨if Dq z c && under n c.name && (decide (b=[])||decide ((lbl c.name).length<(lbl b).length)) then c.name else b,?_,Gr7 hI,rfl⟩;by_cases h1:c.typ=2
   ·by_cases h2:c.name=z.origin
    ·simp (disch:=omega) only [W2,hc,h1,h2,EVM,EVC,xe,EVP,EV,simprocAttr];simp [Dq,Ev,h2]
    ·have k1:=F7 c.name z.origin g2 g1;have k2:=F7 n c.name hn g2;rcases Aq (under c.name z.origin) with h3|h3
     ·rcases Aq (under n c.name) with h4|h4
      ·by_cases h5:b=[]
       ·rw [h3] at k1;rw [h4] at k2;simp (disch:=omega) only [W2,hc,h1,h2,h3,h4,h5,k1,k2,EVM,EVC,xe,EVP,EV,simprocAttr];simp [Dq,Ev,h1,h2,h3,h4,h5]
       ·have hb:=hI.resolve_left h5;have e:=Dn7 h4 hb;rw [h3] at k1;rw [h4] at k2;by_cases h6:c.name.length<b.length
        ·have h7:=e.1 h6;have h8:(c.name.length:Int)<(b.length:Int):=by omega
         simp (disch:=omega) only [W2,hc,h1,h2,h3,h4,h5,h8,k1,k2,EVM,EVC,xe,EVP,EV,simprocAttr];simp [Dq,Ev,h1,h2,h3,h4,h5,h7]
        ·have h7:¬(lbl c.name).length<(lbl b).length:=fun q=>h6 (e.2 q);have h8:¬(c.name.length:Int)<(b.length:Int):=by omega
         simp (disch:=omega) only [W2,hc,h1,h2,h3,h4,h5,h8,k1,k2,EVM,EVC,xe,EVP,EV,simprocAttr];simp [Dq,Ev,h1,h2,h3,h4,h5,h7]
      ·rw [h3] at k1;rw [h4] at k2;simp (disch:=omega) only [W2,hc,h1,h2,h3,h4,k1,k2,EVM,EVC,xe,EVP,EV,simprocAttr];simp [Dq,Ev,h1,h2,h3,h4]
     ·rw [h3] at k1;simp (disch:=omega) only [W2,hc,h1,h2,h3,k1,EVM,EVC,xe,EVP,EV,simprocAttr];simp [Dq,Ev,h1,h2,h3]
   ·simp (disch:=omega) only [W2,hc,h1,EVM,EVC,xe,EVP,EV,simprocAttr];simp [Dq,h1]
  ·simp (disch:=omega) only [W2,EVM,EVC,xe,EVP,EV,simprocAttr];simp [jq,Out.goes]
 rw [show jq z n [] z.recs=cutN z n from rfl] at key;simp (disch:=omega) only [W2,key,EVM,EVC,xe,EVP,EV,simprocAttr]
 try simp
def cutsN (z:Zone):List (List UInt8):=setN ((z.recs.filter (Dq z)).map Rec.name)
theorem gp (z:Zone) (x:List UInt8):x∈cutsN z↔∃r∈z.recs,Dq z r=true∧r.name=x:=by unfold cutsN;rw [L1,Dd];simp only [Bf,and_assoc]
theorem Ey1 {l:List (List UInt8)} (h:∀x∈l,x.length≤9223372036854775807):∀x∈setN l,x.length≤9223372036854775807:=fun x hx=>h x ((L1 l x).1 hx)
theorem Ds2 (z:Zone) (hz:z.wf) (hl:z.recs.length≤1000000):S ew 1 [z.pv]=some [Bg (cutsN z)]:=by
 refine Hs0 (N:=z.recs.length+1) rfl ?_;have g1:=hz.origin;unfold W7 at g1;have key:Bt0.ev S (z.recs.length+1) [z.pv]=some (.yld 0 [Bg ([]++(z.recs.filter (Dq z)).map Rec.name)]):=by
  refine Fx z.recs (fun i (b:List (List UInt8))=>[Bg b, .i .i64 (i:Int)]) (fun i b r=> .yld 0 [Bg (b++(r.filter (Dq z)).map Rec.name)]) (fun i b=>b.length≤i) [] rfl (Cl _) (by omega) (fun i b c r hd hi hc hI=> ?_) (fun b hI=> ?_)
  ·left;have g2:=(hz.recs.2 c (Bv hc)).name;unfold W7 at g2;refine ⟨if Dq z c then b++[c.name] else b,?_,by split<;>(try rw [Ay,Df])<;>omega,by rcases Aq (Dq z c) with q|q<;>simp [q]⟩;by_cases h1:c.typ=2
   ·by_cases h2:c.name=z.origin
    ·simp (disch:=omega) only [Ut,hc,h1,h2,EVM,EVC,xe,EVP,EV,simprocAttr];simp [Dq,Ev,h2]
    ·have k1:=F7 c.name z.origin g2 g1;rcases Aq (under c.name z.origin) with h3|h3
     ·rw [h3] at k1;simp (disch:=omega) only [Ut,hc,h1,h2,h3,k1,EVM,EVC,xe,EVP,EV,simprocAttr];simp [Dq,Ev,h1,h2,h3]
     ·rw [h3] at k1;simp (disch:=omega) only [Ut,hc,h1,h2,h3,k1,EVM,EVC,xe,EVP,EV,simprocAttr];simp [Dq,Ev,h1,h2,h3]
   ·simp (disch:=omega) only [Ut,hc,h1,EVM,EVC,xe,EVP,EV,simprocAttr];simp [Dq,h1]
  ·simp (disch:=omega) only [Ut,EVM,EVC,xe,EVP,EV,simprocAttr];simp [Out.goes]
 rw [Cv] at key;have hlen:((z.recs.filter (Dq z)).map Rec.name).length≤1000000:=by rw [Ey];exact C6 (Ef _ _) hl
 have hw:∀x∈(z.recs.filter (Dq z)).map Rec.name,x.length≤9223372036854775807:=fun x hx=>by obtain ⟨r,hr,rfl⟩:=Dd.1 hx;exact (hz.recs.2 r (Bf.1 hr).1).name
 have k1:=Zc _ hlen hw;have k2:=Nq (((z.recs.filter (Dq z)).map Rec.name).mergeSort fun x y=> !decide (Jf y x<0)) (by rw [jw];exact hlen);rw [show cpt eqs (((z.recs.filter (Dq z)).map Rec.name).mergeSort fun x y=> !decide (Jf y x<0))=cutsN z from rfl] at k2;generalize ((z.recs.filter (Dq z)).map Rec.name).mergeSort (fun x y=> !decide (Jf y x<0))=so at*;generalize (z.recs.filter (Dq z)).map Rec.name=un at*;simp (disch:=omega) only [Ut,key,k1,k2,D3,Ks,EVM,EVC,xe,EVP,EV,simprocAttr]
theorem Bw2 (l:List Rec) (hl:l.length≤1000000) (hw:∀r∈l,r.wf):S eq 1 [Ag l]=some [Bg (setN (l.map Rec.name))]:=by
 refine Hr9 (N:=l.length+1) rfl ?_;have key:Bs9.ev S (l.length+1) [Ag l]=some (.yld 0 [Bg ([]++l.map Rec.name)]):=by
  refine Fx l (fun i (b:List (List UInt8))=>[Bg b, .i .i64 (i:Int)]) (fun i b r=> .yld 0 [Bg (b++r.map Rec.name)]) (fun i b=>b.length≤i) [] rfl (Cl _) (by omega) (fun i b c r hd hi hc hI=> ?_) (fun b hI=> ?_)
  ·left;refine ⟨b++[c.name],?_,by simp;omega,by simp⟩;simp (disch:=omega) only [At0,hc,EVM,EVC,xe,EVP,EV,simprocAttr]
  ·simp (disch:=omega) only [At0,EVM,EVC,xe,EVP,EV,simprocAttr];simp [Out.goes]
 rw [Cv] at key;have hlen:(l.map Rec.name).length≤1000000:=by rw [Ey];exact hl
 have hw:∀x∈l.map Rec.name,x.length≤9223372036854775807:=fun x hx=>by obtain ⟨r,hr,rfl⟩:=Dd.1 hx;exact (hw r hr).name
 have k1:=Zc _ hlen hw;have k2:=Nq ((l.map Rec.name).mergeSort fun x y=> !decide (Jf y x<0)) (by rw [jw];exact hlen);rw [show cpt eqs ((l.map Rec.name).mergeSort fun x y=> !decide (Jf y x<0))=setN (l.map Rec.name) from rfl] at k2;generalize setN (l.map Rec.name)=se at*;generalize (l.map Rec.name).mergeSort (fun x y=> !decide (Jf y x<0))=so at*;generalize l.map Rec.name=un at*;simp (disch:=omega) only [At0,key,k1,k2,D3,Ks,EVM,EVC,xe,EVP,EV,simprocAttr]
theorem Dp1 (c owner:List UInt8) (hc:c.length≤9223372036854775807) (ho:owner.length≤9223372036854775807):S V1 1 [.s c, .s owner]=some [.b (decide (c≠owner) && under owner c)]:=by
 refine Hr8 (N:=1) rfl ?_;have k1:=F7 owner c ho hc;by_cases h:c=owner
 ·simp (disch:=omega) only [Es4,h,EVM,EVC,xe,EVP,EV,simprocAttr];simp
 ·simp (disch:=omega) only [Es4,h,k1,EVM,EVC,xe,EVP,EV,simprocAttr];simp
theorem Ap9 (z:Zone) (acc:List (List UInt8)) (n:List UInt8) (p1 p2 p3 p4 p5 p6:PV) (N:Nat) (hu:under n z.origin=true) (ha:acc.length≤1000000) (hN:1000<N) (hp2:Gt 1 p2 p4=some (.s n)):
  Bp7.ev S N [z.pv,p1,p2,Bg acc,p4,p5,p6]=some (.yld 2 [Bg (acc++upN z.origin n)]):=by
 obtain ⟨v1,v2,_⟩:=Bt.1 hu;have hlb:=Lj n;have h0:jn ((lbl n).drop 0)=n:=mw v1;have e0:upN z.origin n=(upN z.origin n).take ((lbl n).length - (lbl z.origin).length+1):=by rw [Dr];simp [upN]
 have:=F9 (fn:=S) (N:=N) (η:=[z.pv,p1,p2,Bg acc,p4,p5,p6]) (id:=3) (init:=[(.v 3),(.proj 0 (.idx 1 (.v 2) (.v 4)))]) (body:=Dl2) ((lbl n).length - (lbl z.origin).length) (fun k=>[Bg (acc++(upN z.origin n).take k), .s (jn ((lbl n).drop k))])
  (fun _=> .yld 2 [Bg (acc++upN z.origin n)]) ?_ (by omega) (fun k hk=> ?_) ?_
 ·exact this
 ·rw [h0];simp (disch:=omega) only [hp2,EVM,EVC,xe,EVP,EV,simprocAttr];simp
 ·left;obtain ⟨q1,q2⟩:=At4 hu hk;have q3:¬jn ((lbl n).drop k)=z.origin:=fun h=>by have:=(U1 hu (Nat.le_of_lt hk)).1 h;omega
  have q4:=yq v1 k;have k1:=P4 (jn ((lbl n).drop k)) (by omega);rw [q1,q2] at k1;have q5:(upN z.origin n).take (k+1)=(upN z.origin n).take k++[jn ((lbl n).drop k)]:=by rw [Cw,Pk (Nat.le_of_lt hk)];rfl
  rw [q5,←A0];have q6:(acc++(upN z.origin n).take k).length≤1000300:=by rw [Ay,Ap];omega
  generalize acc++(upN z.origin n).take k=a at*;refine ⟨?_,rfl⟩;generalize jn ((lbl n).drop (k+1))=nx at*;generalize jn ((lbl n).drop k)=cu at*;simp (disch:=omega) only [jf,q3,k1,EVM,EVC,xe,EVP,EV,simprocAttr]
 ·have q3:=(U1 hu (Af _)).2 rfl;have q5:(upN z.origin n)=(upN z.origin n).take ((lbl n).length - (lbl z.origin).length)++[jn ((lbl n).drop ((lbl n).length - (lbl z.origin).length))]:=by have:=Cw (l:=upN z.origin n) (i:=(lbl n).length - (lbl z.origin).length);rw [Pk (Af _)] at this;rw [←e0] at this;exact this
  rw [q3] at q5 ⊢;have q6:(acc++(upN z.origin n).take ((lbl n).length - (lbl z.origin).length)).length≤1000300:=by rw [Ay,Ap];omega
  refine ⟨?_,rfl⟩
  conv=>rhs;rw [q5,←A0]
  generalize acc++(upN z.origin n).take ((lbl n).length - (lbl z.origin).length)=a at*;simp (disch:=omega) only [jf,EVM,EVC,xe,EVP,EV,simprocAttr]
theorem Em6 (z:Zone) (owner:List UInt8):((cutsN z).any fun c=>decide (c≠owner) && under owner c)=O5 z owner:=by
 rw [Cp];unfold O5;simp only [B6,Aw,decide_eq_true_eq,gp];constructor
 ·rintro ⟨x,⟨r,hr,h1,rfl⟩,h2,h3⟩;exact ⟨r,hr,⟨h1,h2⟩,h3⟩
 ·rintro ⟨r,hr,⟨h1,h2⟩,h3⟩;exact ⟨r.name,⟨r,hr,h1,rfl⟩,h2,h3⟩
def H1 (z:Zone) (n:List UInt8):Bool:=under n z.origin && !O5 z n
theorem Zs (z:Zone) (hz:z.wf) (hl:z.recs.length≤1000):S Af7 1 [z.pv]=some [Bg (namesN z)]:=by
 refine Jk9 (N:=z.recs.length+1001) rfl ?_;have g1:=hz.origin;unfold W7 at g1;have k1:=Ds2 z hz (by omega);have k2:=Bw2 z.recs (by omega) (fun r hr=>hz.recs.2 r hr);have hol:(setN (z.recs.map Rec.name)).length≤z.recs.length:=by have:=Xq (z.recs.map Rec.name);rwa [Ey] at this
 have how:∀x∈setN (z.recs.map Rec.name),x.length≤9223372036854775807:=Ey1 fun x hx=>by obtain ⟨r,hr,rfl⟩:=Dd.1 hx;exact (hz.recs.2 r hr).name
 have hcl:(cutsN z).length≤1000000:=by have:=Xq ((z.recs.filter (Dq z)).map Rec.name);rw [Ey] at this;have h2:=Ef (Dq z) z.recs;show (setN ((z.recs.filter (Dq z)).map Rec.name)).length≤1000000;omega
 have hcw:∀x∈cutsN z,x.length≤9223372036854775807:=fun x hx=>by obtain ⟨r,hr,_,rfl⟩:=(gp z x).1 hx;exact (hz.recs.2 r hr).name
 have hmem:∀x,x∈((setN (z.recs.map Rec.name)).filter (H1 z)).flatMap (upN z.origin)↔Fv3 z x:=by
  intro x;unfold Fv3 H1;simp only [List.mem_flatMap,Bf,L1,Dd,Aw,A8];constructor
  ·rintro ⟨o,⟨⟨r,hr,rfl⟩,h1,h2⟩,h3⟩;obtain ⟨h4,h5⟩:=(M3 h1).1 h3;exact ⟨r,hr,h1,h2,h4,h5⟩
  ·rintro ⟨r,hr,h1,h2,h4,h5⟩;exact ⟨r.name,⟨⟨r,hr,rfl⟩,h1,h2⟩,(M3 h1).2 ⟨h4,h5⟩⟩
 generalize hO:setN (z.recs.map Rec.name)=O at*;have key:Fk6.ev S (z.recs.length+1001) [z.pv,Bg (cutsN z),Bg O]=some (.yld 0 [Bg ([]++(O.filter (H1 z)).flatMap (upN z.origin))]):=by
  refine Fx O (fun i (b:List (List UInt8))=>[Bg b, .i .i64 (i:Int)]) (fun i b r=> .yld 0 [Bg (b++(r.filter (H1 z)).flatMap (upN z.origin))]) (fun i b=>b.length≤256*i) [] rfl (Cl _) (by omega) (fun i b c r hd hi hc hI=> ?_) (fun b hI=> ?_)
  ·left;have g2:=how c (Bv hc);have k3:=F7 c z.origin g2 g1;have hid:=Em6 z c;rcases Aq (under c z.origin) with h1|h1
   ·have k4:=Q4 (cutsN z) V1 [.s c] _ hcl (fun x hx=>Dp1 x c (hcw x hx) g2);rw [hid] at k4;rw [h1] at k3;rcases Aq (O5 z c) with h2|h2
    ·refine ⟨b,?_,by omega,by simp [H1,h1,h2]⟩;rw [h2] at k4;generalize cutsN z=cz at*;simp (disch:=omega) only [jf,hc,k3,k4,EVM,EVC,xe,EVP,EV,simprocAttr]
    ·have hu:=jm z.origin c;refine ⟨b++upN z.origin c,?_,by rw [Ay];omega,by simp [H1,h1,h2]⟩;rw [h2] at k4;have k5:∀p5 p6,Bp7.ev S (z.recs.length+1001) [z.pv,Bg (cutsN z),Bg O,Bg b, .i .i64 (i:Int),p5,p6]=some (.yld 2 [Bg (b++upN z.origin c)]):=fun p5 p6=>Ap9 z b c _ _ (Bg b) _ p5 p6 _ h1 (by omega) (by omega) (by rw [Mk _ _ _ (by omega)];simp [hc]);generalize b++upN z.origin c=b' at*;generalize cutsN z=cz at*;simp (disch:=omega) only [jf,hc,k3,k4,k5,EVM,EVC,xe,EVP,EV,simprocAttr]
   ·refine ⟨b,?_,by omega,by simp [H1,h1]⟩;rw [h1] at k3;generalize cutsN z=cz at*;simp (disch:=omega) only [jf,hc,k3,EVM,EVC,xe,EVP,EV,simprocAttr]
  ·generalize cutsN z=cz at*;simp (disch:=omega) only [jf,EVM,EVC,xe,EVP,EV,simprocAttr];simp [Out.goes]
 rw [Cv] at key;have hxl:((O.filter (H1 z)).flatMap (upN z.origin)).length≤256*O.length:=by
  have:∀l:List (List UInt8),(l.flatMap (upN z.origin)).length≤256*l.length:=by
   intro l
   induction l with
   |nil=>simp
   |cons x r ih=>
    have:=jm z.origin x;rw [G1,Ay,As];omega
  refine C6 (this _) ?_;have:=Ef (H1 z) O;omega
 have hxw:∀x∈(O.filter (H1 z)).flatMap (upN z.origin),x.length≤9223372036854775807:=fun x hx=>by obtain ⟨r,hr,_,_,h4,_⟩:=(hmem x).1 hx;have:=Jy (Bt.1 h4).2.1;omega
 have he:setN ((O.filter (H1 z)).flatMap (upN z.origin))=namesN z:=Ed4 z _ hmem;generalize (O.filter (H1 z)).flatMap (upN z.origin)=un at*;have k6:=Zc un (by omega) hxw;have k7:=Nq (un.mergeSort fun x y=> !decide (Jf y x<0)) (by rw [jw];omega);rw [show cpt eqs (un.mergeSort fun x y=> !decide (Jf y x<0))=setN un from rfl,he] at k7;generalize un.mergeSort (fun x y=> !decide (Jf y x<0))=so at*;generalize namesN z=nz at*;generalize cutsN z=cz at*;simp (disch:=omega) only [jf,k1,k2,key,k6,k7,D3,Ks,EVM,EVC,xe,EVP,EV,simprocAttr]
end Go.X.G
/- Delegations and names of a zone, as the reference finds them; what exists. -/
namespace Go.X.G
open Go Go.X
end Go.X.G
/- What exists in a zone, and what encloses a name; names with another end. -/
namespace Go.X.G
open Go Go.X
def exB (z:Zone) (x:List UInt8):Bool:=z.recs.any fun r=>under r.name z.origin && !O5 z r.name && under r.name x && under x z.origin
theorem Qc (z:Zone) (x:List UInt8):exB z x=true↔Fv3 z x:=by unfold exB Fv3;simp only [B6,Aw,A8,and_assoc]
theorem Yc (z:Zone) (x:List UInt8):decide (x∈namesN z)=exB z x:=by rw [Cp,Qc,←Af1];simp
theorem Vz (z:Zone) (hl:z.recs.length≤1000):(namesN z).length≤1000000:=by
 have h1:=Xq (Hz1 z);have h2:∀l:List Rec,(l.flatMap fun r=>upN z.origin r.name).length≤256*l.length:=by
  intro l
  induction l with
  |nil=>simp
  |cons x r ih=>
   have:=jm z.origin x.name;rw [G1,Ay,As];omega
 have h3:=h2 (z.recs.filter fun r=>under r.name z.origin && !O5 z r.name);have h4:=Ef (fun r=>under r.name z.origin && !O5 z r.name) z.recs;show (setN (Hz1 z)).length≤1000000;unfold Hz1 at h1 ⊢;omega
theorem Ax0 (z:Zone) (n:List UInt8) (hz:z.wf) (hl:z.recs.length≤1000):S Bl6 2 [z.pv, .s n]=some [.b (exB z n)]:=by refine Jw2 (N:=1) rfl ?_;have k1:=Zs z hz hl;have k2:=Jw (namesN z) n (Vz z hl);rw [Yc] at k2;generalize namesN z=nz at*;simp (disch:=omega) only [Ir6,k1,k2,EVM,EVC,xe,EVP,EV,simprocAttr]
def An8 (z:Zone) (n:List UInt8):Option (List UInt8):=(upN z.origin n).find? (exB z)
def encN (z:Zone) (n:List UInt8):List UInt8:=if under n z.origin=true then (An8 z n).getD [] else []
theorem rc {n:List UInt8} (h:vld n=true):n≠[]:=fun e=>by subst e;simp [vld,nm] at h
theorem Ly {z:Zone} {n e:List UInt8} (hu:under n z.origin=true) (h:An8 z n=some e):under n e=true∧exB z e=true:=by unfold An8 at h;have h1:=List.mem_of_find?_eq_some h;have h2:=List.find?_some h;exact ⟨((M3 hu).1 h1).1,h2⟩
theorem Zt (z:Zone) (n:List UInt8) (hz:z.wf) (hl:z.recs.length≤1000) (hn:n.length≤9223372036854775807):S Bh2 2 [z.pv, .s n]=some [.s (encN z n), .b (decide (encN z n≠[]))]:=by
 refine Jk6 (N:=1000) rfl ?_;have g1:=hz.origin;unfold W7 at g1;have k0:=F7 n z.origin hn g1;unfold encN;rcases Aq (under n z.origin) with hu|hu
 ·rw [if_pos hu];rw [hu] at k0;have k1:=Zs z hz hl;have hnl:=Vz z hl;have k2:∀x,S X2 2 [Bg (namesN z), .s x]=some [.b (exB z x)]:=fun x=>by rw [←Yc];exact Jw (namesN z) x hnl
  generalize namesN z=nz at*;obtain ⟨v1,v2,_⟩:=Bt.1 hu;have hlb:=Lj n;have h0:jn ((lbl n).drop 0)=n:=mw v1;let res:Option (List UInt8)→Out:=fun o=>match o with|some e=> .yld 0 [.s e]|none=> .ret [.s [], .b false]
  have key:Fk5.ev S 1000 [z.pv, .s n, .b true,Bg nz]=some (res (An8 z n)):=by
   have:=F9 (fn:=S) (N:=1000) (η:=[z.pv, .s n, .b true,Bg nz]) (id:=1) (init:=[(.v 1)]) (body:=Dl5) ((lbl n).length - (lbl z.origin).length)
    (fun k=>[.s (jn ((lbl n).drop k))]) (fun k=>res (((upN z.origin n).drop k).find? (exB z))) ?_ (by omega) (fun k hk=> ?_) ?_
   ·exact this
   ·rw [h0];simp (disch:=omega) only [EVM,EVC,xe,EVP,EV,simprocAttr]
   ·have hup:(upN z.origin n)[k]? =some (jn ((lbl n).drop k)):=Pk (Nat.le_of_lt hk);have hd:(upN z.origin n).drop k=jn ((lbl n).drop k)::(upN z.origin n).drop (k+1):=by obtain ⟨h1,h2⟩:=Av.1 hup;rw [Cz h1,h2]
    obtain ⟨q1,q2⟩:=At4 hu hk;have q3:¬jn ((lbl n).drop k)=z.origin:=fun h=>by have:=(U1 hu (Nat.le_of_lt hk)).1 h;omega
    have q4:=yq v1 k;have k1:=P4 (jn ((lbl n).drop k)) (by omega);rw [q1,q2] at k1;have k3:=k2 (jn ((lbl n).drop k));rw [hd];generalize jn ((lbl n).drop (k+1))=nx at*;generalize jn ((lbl n).drop k)=cu at*;rcases Aq (exB z cu) with h5|h5
    ·right;rw [h5] at k3;rw [List.find?_cons_of_pos h5];refine ⟨?_,rfl⟩;simp (disch:=omega) only [jd,k3,EVM,EVC,xe,EVP,EV,simprocAttr];rfl
    ·left;rw [h5] at k3;rw [List.find?_cons_of_neg (by simp [h5])];refine ⟨?_,rfl⟩;simp (disch:=omega) only [jd,k1,k3,q3,EVM,EVC,xe,EVP,EV,simprocAttr]
   ·have hup:(upN z.origin n)[(lbl n).length - (lbl z.origin).length]? =some (jn ((lbl n).drop ((lbl n).length - (lbl z.origin).length))):=Pk (Af _);have hd:(upN z.origin n).drop ((lbl n).length - (lbl z.origin).length)=[jn ((lbl n).drop ((lbl n).length - (lbl z.origin).length))]:=by obtain ⟨h1,h2⟩:=Av.1 hup;have h9:(upN z.origin n).drop ((lbl n).length - (lbl z.origin).length+1)=[]:=J0 (by simp [upN]);rw [Cz h1,h2,h9]
    have q3:=(U1 hu (Af _)).2 rfl;rw [hd,q3];have k3:=k2 z.origin;rcases Aq (exB z z.origin) with h5|h5
    ·rw [h5] at k3;rw [List.find?_cons_of_pos h5];refine ⟨?_,rfl⟩;simp (disch:=omega) only [jd,k3,EVM,EVC,xe,EVP,EV,simprocAttr];rfl
    ·rw [h5] at k3;rw [List.find?_cons_of_neg (by simp [h5]),List.find?_nil];refine ⟨?_,rfl⟩;simp (disch:=omega) only [jd,k3,EVM,EVC,xe,EVP,EV,simprocAttr];rfl
  cases he:An8 z n with
  |none=>
   rw [he] at key;simp only [res] at key;simp (disch:=omega) only [jd,k0,k1,key,EVM,EVC,xe,EVP,EV,simprocAttr];simp
  |some e=>
   rw [he] at key;simp only [res] at key;have h6:=rc (Bt.1 (Ly hu he).1).2.1;simp (disch:=omega) only [jd,k0,k1,key,EVM,EVC,xe,EVP,EV,simprocAttr];simp [h6]
 ·rw [if_neg (by simp [hu])];rw [hu] at k0;simp (disch:=omega) only [jd,k0,EVM,EVC,xe,EVP,EV,simprocAttr]
  try simp
def bestF (n:List UInt8):List UInt8→List (List UInt8)→List UInt8
 |b,[]=>b
 |b,x::r=>bestF n (if under n x && (decide (b=[])||decide ((lbl b).length<(lbl x).length)) then x else b) r
theorem Rf (n:List UInt8):∀(l:List (List UInt8)) (b:List UInt8),(b=[]∨under n b=true)→
  (bestF n b l=[]→b=[]∧∀x∈l,under n x=false)∧
  (bestF n b l≠[]→under n (bestF n b l)=true∧(bestF n b l=b∨bestF n b l∈l)∧(b≠[]→(lbl b).length≤(lbl (bestF n b l)).length)∧∀x∈l,under n x=true→(lbl x).length≤(lbl (bestF n b l)).length)
 |[],b,hb=>by simp only [bestF];refine ⟨fun h=>⟨h,fun r hr=>by simp at hr⟩,fun h=>⟨hb.resolve_left h, .inl trivial,fun _=>Af _,fun r hr=>by simp at hr⟩⟩
 |x::rs,b,hb=>by
  simp only [bestF];have hne:under n x=true→x≠[]:=fun h=>rc (Bt.1 h).2.1;by_cases hc:(under n x && (decide (b=[])||decide ((lbl b).length<(lbl x).length)))=true
  ·rw [if_pos hc];simp only [Aw,An,decide_eq_true_eq] at hc;obtain ⟨c2,c3⟩:=hc;obtain ⟨h1,h2⟩:=Rf n rs x (.inr c2);refine ⟨fun h=>absurd (h1 h).1 (hne c2),fun h=> ?_⟩;obtain ⟨g1,g2,g3,g4⟩:=h2 h;refine ⟨g1, .inr ?_,fun hb0=> ?_,fun y hy hy2=> ?_⟩
   ·rcases g2 with g2|g2
    ·rw [g2];exact .head _
    ·exact .tail _ g2
   ·have:=g3 (hne c2);rcases c3 with c3|c3
    ·exact absurd c3 hb0
    ·omega
   ·rcases Am.1 hy with rfl|hy
    ·exact g3 (hne c2)
    ·exact g4 y hy hy2
  ·rw [if_neg hc];obtain ⟨h1,h2⟩:=Rf n rs b hb;have hr:under n x=true→b≠[]∧(lbl x).length≤(lbl b).length:=by intro c2;simp only [c2,Hz3,An,decide_eq_true_eq,not_or,Nat.not_lt] at hc;exact hc
   refine ⟨fun h=> ?_,fun h=> ?_⟩
   ·obtain ⟨g1,g2⟩:=h1 h;refine ⟨g1,fun y hy=> ?_⟩;rcases Am.1 hy with rfl|hy
    ·rcases Aq (under n y) with h3|h3
     ·exact absurd g1 (hr h3).1
     ·exact h3
    ·exact g2 y hy
   ·obtain ⟨g1,g2,g3,g4⟩:=h2 h;refine ⟨g1,?_,g3,fun y hy hy2=> ?_⟩
    ·rcases g2 with g2|g2
     ·exact .inl g2
     ·exact .inr (.tail _ g2)
    ·rcases Am.1 hy with rfl|hy
     ·obtain ⟨q1,q2⟩:=hr hy2;have:=g3 q1;omega
     ·exact g4 y hy hy2
theorem Np {a b c:List UInt8} (h1:under a b=true) (h2:under b c=true):under a c=true:=by obtain ⟨v1,_,s1⟩:=Bt.1 h1;obtain ⟨_,v3,s2⟩:=Bt.1 h2;exact Bt.2 ⟨v1,v3,s2.trans s1⟩
theorem Dl1 (z:Zone) (n:List UInt8):bestF n [] (namesN z)=encN z n:=by
 obtain ⟨h1,h2⟩:=Rf n (namesN z) [] (.inl rfl);have hin:∀x,x∈namesN z↔exB z x=true:=fun x=>by rw [←Yc];simp
 have hor:∀x,exB z x=true→under x z.origin=true:=fun x hx=>by obtain ⟨_,_,_,_,_,h⟩:=(Qc z x).1 hx;exact h
 unfold encN;by_cases hb:bestF n [] (namesN z)=[]
 ·have:=(h1 hb).2;rw [hb];rcases Aq (under n z.origin) with hu|hu
  ·rw [if_pos hu];cases he:An8 z n with
   |none=>rfl
   |some e=>
    obtain ⟨g1,g2⟩:=Ly hu he;have:=this e ((hin e).2 g2);rw [g1] at this;cases this
  ·rw [if_neg (by simp [hu])]
 ·obtain ⟨g1,g2,_,g4⟩:=h2 hb;have g3:exB z (bestF n [] (namesN z))=true:=(hin _).1 (g2.resolve_left hb);have hu:under n z.origin=true:=Np g1 (hor _ g3);rw [if_pos hu];generalize bestF n [] (namesN z)=b at*;have hm:b∈upN z.origin n:=(M3 hu).2 ⟨g1,hor _ g3⟩;cases he:An8 z n with
  |none=>
   unfold An8 at he;rw [List.find?_eq_none] at he;exact absurd g3 (he b hm)
  |some e=>
   obtain ⟨q1,q2⟩:=Ly hu he;have q3:=g4 e ((hin e).2 q2) q1;have q4:(lbl b).length≤(lbl e).length:=by
    unfold An8 at he;obtain ⟨_,pa,pb,he2,he3⟩:=List.find?_eq_some_iff_append.1 he;obtain ⟨v1,v2,vs⟩:=Bt.1 hu;have hbm:=hm;rw [he2] at hbm;rcases Bn.1 hbm with hbm|hbm
    ·have:=he3 b hbm;rw [g3] at this;cases this
    ·rcases Am.1 hbm with rfl|hbm
     ·exact Af _
     ·obtain ⟨j,hj⟩:=C4 hbm;have e1:(upN z.origin n)[pa.length]? =some e:=by rw [he2,A4 (Af _)];simp
      have e2:(upN z.origin n)[pa.length+1+j]? =some b:=by rw [he2,A4 (by omega),show pa.length+1+j - pa.length=j+1 by omega];simpa using hj
      have l2:=(Av.1 e2).1;rw [show (upN z.origin n).length=(lbl n).length - (lbl z.origin).length+1 by simp [upN]] at l2;rw [Pk (by omega)] at e1 e2;injection e1 with e1;injection e2 with e2;rw [←e1,←e2,(Ls v1 _).2,(Ls v1 _).2,B3,B3];omega
   obtain ⟨_,vb,sb⟩:=Bt.1 g1;obtain ⟨_,ve,se⟩:=Bt.1 q1;rw [Et] at sb se;show b=e;refine Lk vb ve ?_;rw [sb,se,Nat.le_antisymm q4 q3]
end Go.X.G
/- Names with another end; redirections; what records of a name say. -/
namespace Go.X
structure Res where
 kind:Int
 owner:List UInt8
 wild:Bool
 target:List UInt8
 recs:List Rec
 deriving DecidableEq
def Res.cells (x:Res):List PV:=[.i .i64 x.kind, .s x.owner, .b x.wild, .s x.target,Ag x.recs]
def Res.pv (x:Res):PV:= .a x.cells
theorem Bz7 (x:Res):Bs 0 x.pv=some (.i .i64 x.kind):=rfl
theorem Bz6 (x:Res):Bs 1 x.pv=some (.s x.owner):=rfl
theorem Bz5 (x:Res):Bs 2 x.pv=some (.b x.wild):=rfl
theorem Bz4 (x:Res):Bs 3 x.pv=some (.s x.target):=rfl
theorem Bz3 (x:Res):Bs 4 x.pv=some (Ag x.recs):=rfl
theorem Gb1 (x:Res):Jb 0 5 x.pv=some x.pv:=rfl
theorem Gm2 (x:Res):Q0 5 x.pv=some x.pv:=rfl
theorem Eh6 (k:Int) (o:List UInt8) (w:Bool) (t:List UInt8) (l:List Rec):PV.a [.i .i64 k, .s o, .b w, .s t,Ag l]=Res.pv ⟨k,o,w,t,l⟩:=rfl
theorem Bk8 (l:List Rec) (k:IntKind) (z:Int) (n:List UInt8) (x:Rec) (h0:0≤z) (h3:l[z.toNat]? =some x):
  Qp 16 0 [.s n] (Ag l) (.i k z)=some (Ag (l.set z.toNat {x with name:=n})):=by
 have h4:(l.map Rec.pv)[z.toNat]? =some x.pv:=by rw [Bh,h3];rfl
 simp only [Qp,Ag,h0,h4,and_self,if_true,Az];have h5:Pg x.pv 0 [.s n]=some (Rec.pv {x with name:=n}):=rfl;rw [h5];simp [List.map_set]
set_option linter.defProp false in
def EVR:=(And.intro @Bz7 (And.intro @Bz6 (And.intro @Bz5 (And.intro @Bz4 (And.intro @Bz3 (And.intro @Gb1 (And.intro @Gm2 @Eh6)))))))
end Go.X
namespace Go.X.G
open Go Go.X
def bn (n top to:List UInt8):List (List UInt8):=(lbl n).take ((lbl n).length - (lbl top).length)++lbl to
def replN (n top to:List UInt8):List UInt8×Int:=
 if vld n=true∧vld top=true∧vld to=true∧(lbl to)[0]? ≠some [42] then
  if under n top=true∧n≠top then
   if (flat (bn n top to)).length≤254 then (flat (bn n top to),0) else ([],9)
  else ([],1)
 else ([],2)
theorem f9 {l:List (List UInt8)} (h:Fp true l=true) (h2:l[0]? ≠some [42]):Fp false l=true:=by
 cases l with
 |nil=>rfl
 |cons p r=>
  simp only [Fp,Aw] at h ⊢;refine ⟨⟨h.1.1,?_⟩,h.2⟩;have:p≠[42]:=fun e=>h2 (by rw [e];rfl);simp [this]
theorem Ay4 {n top to:List UInt8} (hu:under n top=true) (hne:n≠top) (ht:vld to=true) (hs:(lbl to)[0]? ≠some [42]):Fp true (bn n top to)=true∧bn n top to≠[]∧(lbl n).take ((lbl n).length - (lbl top).length)≠[]:=by
 obtain ⟨vn,vt,sf⟩:=Bt.1 hu;have hlt:(lbl top).length<(lbl n).length:=by
  have:=sf.length_le;rcases Nat.lt_or_ge (lbl top).length (lbl n).length with h|h
  ·exact h
  ·exact absurd (Jg hu h) hne
 have h1:(lbl n).take ((lbl n).length - (lbl top).length)≠[]:=by intro e;have:=congrArg List.length e;rw [Ap,A9] at this;omega
 have h2:Fp true ((lbl n).take ((lbl n).length - (lbl top).length))=true:=by have:=Q8 vn;rw [←Bp ((lbl n).length - (lbl top).length) (lbl n),Oz,Aw] at this;exact this.1
 refine ⟨?_,by unfold bn;simp [h1],h1⟩;unfold bn;rw [Oz,h2,List.isEmpty_eq_false_iff.2 h1];simp [f9 (Q8 ht) hs]
theorem Zy (s t:List UInt8) (hs:s.length≤9223372036854775807) (h:t.isSuffixOf s=true):S ez 2 [.s s, .s t]=some [.s (s.take (s.length - t.length))]:=by
 have hle:t.length≤s.length:=(E6.1 h).length_le;have k1:=O3 s t hs;rw [h] at k1;have k2:S dp 2 [.s s, .s t]=some [.s (s.take (s.length - t.length))]:=by
  refine Hn6 (N:=1) rfl ?_;have h6:Ay0 (.s s) (.i .i64 0) (.i .i64 ((s.length:Int) - (t.length:Int)))=some (.s (s.take (s.length - t.length))):=by
   rw [Hg6 _ _ _ _ _ (by omega) (by omega) (by omega)];have:((s.length:Int) - (t.length:Int)).toNat=s.length - t.length:=by omega
   rw [this];simp
  simp (disch:=omega) only [Hb6,k1,h6,EVM,EVC,xe,EVP,EV,simprocAttr]
 refine Hs1 (N:=1) rfl ?_;simp (disch:=omega) only [Hc4,k2,EVM,EVC,xe,EVP,EV,simprocAttr]
theorem jb (n top to:List UInt8) (hn:n.length≤9223372036854775807) (ht:top.length≤9223372036854775807) (hto:to.length≤9223372036854775807):S Bh4 3 [.s n, .s top, .s to]=some [.s (replN n top to).1, .i .i64 (replN n top to).2]:=by
 refine Jq0 (N:=1) rfl ?_;have k1:=B4 n hn;have k2:=B4 top ht;have k3:=B4 to hto;unfold replN;rcases Aq (vld n) with v1|v1
 ·rcases Aq (vld top) with v2|v2
  ·rcases Aq (vld to) with v3|v3
   ·rw [v1] at k1;rw [v2] at k2;rw [v3] at k3;have hp:=Nm v3;have hsf:=Pf v3;obtain ⟨c,hc⟩:∃c,to[0]? =some c:=⟨_,Ab hp⟩;rw [hc] at hsf;by_cases hs:c=42
    ·rw [if_neg (by rw [hs] at hsf;simp [hsf.1 rfl])];subst hs;simp (disch:=omega) only [Rp,k1,k2,k3,hc,EVM,EVC,xe,EVP,EV,simprocAttr]
     try simp
    ·have hs':(lbl to)[0]? ≠some [42]:=fun e=>hs (by have:=hsf.2 e;simpa using this);have hcc:¬(c.toNat:Int)=42:=fun e=>hs (by apply UInt8.toNat.inj;have:(42:UInt8).toNat=42:=rfl;omega)
     rw [if_pos ⟨v1,v2,v3,hs'⟩];have tl:=Jy v2;have k4:=Ck8 n top hn (by omega);rw [U3 v1 v2] at k4;by_cases he:n=top
     ·rw [if_neg (by simp [he])];simp (disch:=omega) only [Rp,k1,k2,k3,hc,hcc,he,EVM,EVC,xe,EVP,EV,simprocAttr]
     ·rcases Aq (under n top) with hu|hu
      ·rw [hu] at k4;rw [if_pos ⟨hu,he⟩];obtain ⟨q1,q2,q3⟩:=Ay4 hu he v3 hs';have nl:=Jy v1;have tol:=Jy v3;have hnr:n≠[46]:=by rintro rfl;have:=(Bt.1 hu).2.2.length_le;rw [Ik] at this;exact he (Lk v1 v2 (by rw [Ik];exact (List.length_eq_zero_iff.1 (by simpa using this)).symm))
       have hnf:n=flat (lbl n):=by have:=Mg v1;unfold jn at this;rwa [if_neg (fun h=>hnr ((X6 v1).1 h))] at this
       have hsp:lbl n=(lbl n).take ((lbl n).length - (lbl top).length)++lbl top:=by
        have:=(Bt.1 hu).2.2;rw [Et] at this
        conv=>lhs;rw [←Bp ((lbl n).length - (lbl top).length) (lbl n)]
        rw [←this]
       have hhead:∃hd,hd=flat ((lbl n).take ((lbl n).length - (lbl top).length))∧hd.length≤254∧∀p3 p4 p5 p6,Cl2.ev S 1 [.s n, .s top, .s to,p3,p4,p5,p6]=some (.yld 0 [.s hd]):=by
        refine ⟨_,rfl,?_,fun p3 p4 p5 p6=> ?_⟩
        ·have:(flat (lbl n)).length≤254:=by rw [←hnf];exact nl
         rw [hsp,Mw,Ay] at this;omega
        ·by_cases hr:top=[46]
         ·subst hr;rw [Ik,Dp] at hsp;rw [Ik,←hsp,←hnf];simp (disch:=omega) only [Rp,EVM,EVC,xe,EVP,EV,simprocAttr]
         ·have htf:top=flat (lbl top):=by have:=Mg v2;unfold jn at this;rwa [if_neg (fun h=>hr ((X6 v2).1 h))] at this
          have hna:n=flat ((lbl n).take ((lbl n).length - (lbl top).length))++top:=by
           conv=>lhs;rw [hnf,hsp,Mw]
           rw [←htf]
          have hsuf:top.isSuffixOf n=true:=E6.2 ⟨_,hna.symm⟩;have k5:=Zy n top hn hsuf;have htk:n.take (n.length - top.length)=flat ((lbl n).take ((lbl n).length - (lbl top).length)):=by
           conv=>lhs;rw [hna]
           rw [Ay,K1,Ap4]
          rw [htk] at k5;generalize flat ((lbl n).take ((lbl n).length - (lbl top).length))=hd at*;simp (disch:=omega) only [Rp,k5,hr,EVM,EVC,xe,EVP,EV,simprocAttr]
       obtain ⟨hd,hd1,hd2,hd3⟩:=hhead;have hfin:flat (bn n top to)=if to=[46] then hd else hd++to:=by
        unfold bn;rw [Mw,←hd1];by_cases hr:to=[46]
        ·rw [if_pos hr,hr,Ik];simp [flat]
        ·rw [if_neg hr];have:=Mg v3;unfold jn at this;rw [if_neg (fun h=>hr ((X6 v3).1 h))] at this;rw [←this]
       rw [hfin];by_cases hr:to=[46]
       ·rw [if_pos hr];subst hr;have h1:¬(255:Int)≤(hd.length:Int):=by omega
        rw [if_pos hd2];simp (disch:=omega) only [Rp,k1,k2,k3,k4,hc,hcc,he,hd3,h1,EVM,EVC,xe,EVP,EV,simprocAttr]
       ·rw [if_neg hr];by_cases hlen:(hd++to).length≤254
        ·rw [if_pos hlen];have h1:¬(255:Int)≤((hd++to).length:Int):=by omega
         simp (disch:=first|omega|(rw [Ay] at*;omega)) only [Rp,k1,k2,k3,k4,hc,hcc,he,hd3,hr,h1,EVM,EVC,xe,EVP,EV,simprocAttr]
        ·rw [if_neg hlen];have h1:(255:Int)≤((hd++to).length:Int):=by omega
         simp (disch:=first|omega|(rw [Ay] at*;omega)) only [Rp,k1,k2,k3,k4,hc,hcc,he,hd3,hr,h1,EVM,EVC,xe,EVP,EV,simprocAttr]
      ·rw [hu] at k4;rw [if_neg (by simp [hu])];simp (disch:=omega) only [Rp,k1,k2,k3,k4,hc,hcc,he,EVM,EVC,xe,EVP,EV,simprocAttr]
   ·rw [if_neg (by simp [v3])];rw [v1] at k1;rw [v2] at k2;rw [v3] at k3;simp (disch:=omega) only [Rp,k1,k2,k3,EVM,EVC,xe,EVP,EV,simprocAttr]
  ·rw [if_neg (by simp [v2])];rw [v1] at k1;rw [v2] at k2;simp (disch:=omega) only [Rp,k1,k2,EVM,EVC,xe,EVP,EV,simprocAttr]
 ·rw [if_neg (by simp [v1])];rw [v1] at k1;simp (disch:=omega) only [Rp,k1,EVM,EVC,xe,EVP,EV,simprocAttr]
end Go.X.G
/- What a zone says about a question: the program and the reference. -/
namespace Go.X.G
open Go Go.X
theorem Lr (z:Zone) (n:List UInt8) (t:Int) (hl:z.recs.length≤1000000):S Qs 3 [z.pv, .s n, .i .i64 t]=some [Ag (findR z.recs n t)]:=by refine Hh9 (N:=1) rfl ?_;have k1:=Aw8 z.recs n t hl;simp (disch:=omega) only [Hz8,k1,EVM,EVC,xe,EVP,EV,simprocAttr]
abbrev Ip4:Res:=⟨0,[],false,[],[]⟩
def W8 (s:List UInt8):List UInt8:=if s[0]? =some 42 then [] else s
def dnB (z:Zone) (u:List UInt8):Bool:=decide (0<(findR z.recs u 39).length)
def Gd3 (z:Zone) (n:List UInt8):Option (List UInt8):=((upN z.origin n).drop 1).find? (dnB z)
def Sf (z:Zone) (n u:List UInt8):Res:=
 match findR z.recs u 39 with
 |r::_=>⟨3,u,false,W8 (replN n u r.data.host).1,[r]⟩
 |[]=>Ip4
def Ay5 (z:Zone) (n:List UInt8):Option Res:=(Gd3 z n).map (Sf z n)
def Kg:Option Res→List PV
 |some x=>[x.pv, .b true]
 |none=>[Ip4.pv, .b false]
theorem Yb {z:Zone} (hz:z.wf) {n:List UInt8} {t:Int} {r:Rec} (h:r∈findR z.recs n t):r.wf:=hz.recs.2 r (Bf.1 h).1
theorem G0 (z:Zone) (n:List UInt8) (t:Int):(findR z.recs n t).length≤z.recs.length:=Ef _ _
theorem c42 (c:UInt8):(c.toNat:Int)=42↔c=42:=by
 constructor
 ·intro h;apply UInt8.toNat.inj;have:(42:UInt8).toNat=42:=rfl;omega
 ·rintro rfl;rfl
theorem Gx9 (z:Zone) (n:List UInt8) (hz:z.wf) (hl:z.recs.length≤1000000) (hu:under n z.origin=true) (N:Nat) (hN:1000<N):
  Fq7.ev S N [z.pv, .s n]=some (match Ay5 z n with|some x=> .ret [x.pv, .b true]|none=> .yld 0 [.i .i64 0, .s [], .b false, .s [],Ag []]):=by
 obtain ⟨v1,v2,_⟩:=Bt.1 hu;have hlb:=Lj n;have nl:=Jy v1;have h0:jn ((lbl n).drop 0)=n:=mw v1;let res:Option (List UInt8)→Out:=fun o=>match o.map (Sf z n) with|some x=> .ret [x.pv, .b true]|none=> .yld 0 [.i .i64 0, .s [], .b false, .s [],Ag []]
 have:=F9 (fn:=S) (N:=N) (η:=[z.pv, .s n]) (id:=1) (init:=[(.v 1),(.c (.i .i64 (0))),(.c (.s [])),(.c (.b false)),(.c (.s [])),(.c (.l 16 []))]) (body:=Dl7) ((lbl n).length - (lbl z.origin).length)
  (fun k=>[.s (jn ((lbl n).drop k)), .i .i64 0, .s [], .b false, .s [],Ag []]) (fun k=>res (((upN z.origin n).drop (k+1)).find? (dnB z))) ?_ (by omega) (fun k hk=> ?_) ?_
 ·exact this
 ·rw [h0];simp (disch:=omega) only [EVM,EVC,xe,EVP,EV,simprocAttr]
 ·have hup:(upN z.origin n)[k+1]? =some (jn ((lbl n).drop (k+1))):=Pk hk;have hd:(upN z.origin n).drop (k+1)=jn ((lbl n).drop (k+1))::(upN z.origin n).drop (k+1+1):=by obtain ⟨h1,h2⟩:=Av.1 hup;rw [Cz h1,h2]
  obtain ⟨q1,q2⟩:=At4 hu hk;have q3:¬jn ((lbl n).drop k)=z.origin:=fun h=>by have:=(U1 hu (Nat.le_of_lt hk)).1 h;omega
  have q4:=yq v1 k;have q5:=yq v1 (k+1);have k1:=P4 (jn ((lbl n).drop k)) (by omega);rw [q1,q2] at k1;have k2:=Lr z (jn ((lbl n).drop (k+1))) 39 hl;rw [hd];generalize jn ((lbl n).drop (k+1))=nx at*;generalize jn ((lbl n).drop k)=cu at*;cases hf:findR z.recs nx 39 with
  |nil=>
   left;have h5:dnB z nx=false:=by unfold dnB;rw [hf];rfl
   rw [hf] at k2;rw [List.find?_cons_of_neg (by simp [h5])];refine ⟨?_,rfl⟩;simp (disch:=omega) only [jg,k1,k2,q3,EVM,EVC,EVR,xe,EVP,EV,simprocAttr]
   try rfl
  |cons r rest=>
   right;have h5:dnB z nx=true:=by unfold dnB;rw [hf];simp
   have hrw:=Yb hz (n:=nx) (t:=39) (r:=r) (by rw [hf];exact .head _);have hll:=G0 z nx 39;have hh:=hrw.data.host;unfold W7 at hh;have k3:=jb n nx r.data.host (by omega) (by omega) hh;rw [hf] at k2 hll;rw [List.find?_cons_of_pos h5];have e:res (some nx)= .ret [(Res.mk 3 nx false (W8 (replN n nx r.data.host).1) [r]).pv, .b true]:=by simp only [res,A3,Sf,hf]
   rw [e];refine ⟨?_,rfl⟩;have hpos:(0:Int)<((r::rest).length:Int):=by simp only [As];omega
   have hls:G6 16 (Ag (r::rest)) (.i .i64 0) (.i .i64 1)=some (Ag [r]):=by rw [G5 _ _ _ _ _ (by omega) (by omega) (by omega)];rfl
   have hix:Gt 16 (Ag (r::rest)) (.i .i64 0)=some r.pv:=by rw [Jj _ _ _ (by omega)];rfl
   unfold W8;generalize replN n nx r.data.host=rp at*;obtain ⟨to,er⟩:=rp;generalize (r::rest)=ll at*;cases to with
   |nil=>
    simp (disch:=omega) only [jg,k1,k2,k3,q3,hpos,hls,hix,EVM,EVC,EVR,xe,EVP,EV,simprocAttr]
    try simp
   |cons c tr=>
    by_cases hc:c=42
    ·subst hc;simp (disch:=omega) only [jg,k1,k2,k3,q3,hpos,hls,hix,EVM,EVC,EVR,xe,EVP,EV,simprocAttr]
     try simp
    ·have hc2:¬(c.toNat:Int)=42:=fun h=>hc ((c42 c).1 h);simp (disch:=omega) only [jg,k1,k2,k3,q3,hpos,hls,hix,hc2,EVM,EVC,EVR,xe,EVP,EV,simprocAttr]
     try simp [hc]
 ·have q3:=(U1 hu (Af _)).2 rfl;have h9:(upN z.origin n).drop ((lbl n).length - (lbl z.origin).length+1)=[]:=J0 (by simp [upN]);rw [h9,q3,List.find?_nil];refine ⟨?_,rfl⟩;simp (disch:=omega) only [jg,EVM,EVC,EVR,xe,EVP,EV,simprocAttr]
  try rfl
theorem Zr (z:Zone) (n:List UInt8) (hz:z.wf) (hl:z.recs.length≤1000000) (hu:under n z.origin=true):S Bl7 2 [z.pv, .s n]=some (Kg (Ay5 z n)):=by
 refine Jw3 (N:=1001) rfl ?_;have key:=Gx9 z n hz hl hu 1001 (by omega);cases h:Ay5 z n with
 |none=>
  rw [h] at key;simp (disch:=omega) only [jg,key,Kg,EVM,EVC,EVR,xe,EVP,EV,simprocAttr]
 |some x=>
  rw [h] at key;simp (disch:=omega) only [jg,key,Kg,EVM,EVC,EVR,xe,EVP,EV,simprocAttr]
def allR (z:Zone) (n:List UInt8):List Rec:=z.recs.filter fun r=>decide (r.name=n)
def Ih5 (t:Int):Bool:=decide (t=5)||decide (t=47)||decide (t=46)||decide (t=255)
def typedR (l:List Rec) (t:Int):List Rec:=if t=255 then l else l.filter fun r=>decide (r.typ=t)
def Hz2 (l:List Rec) (t:Int):Option Rec:=if Ih5 t=true then none else l.find? fun r=>decide (r.typ=5)
def saysM (l:List Rec) (t:Int):Res:=
 match Hz2 l t with
 |some c=>⟨2,[],false,c.data.host,[c]⟩
 |none=>if typedR l t=[] then ⟨5,[],false,[],[]⟩ else ⟨1,[],false,[],typedR l t⟩
theorem xj (z:Zone) (n:List UInt8) (hl:z.recs.length≤1000000):S Ag0 2 [z.pv, .s n]=some [Ag (allR z n)]:=by
 refine Jw0 (N:=z.recs.length+1) rfl ?_;have key:Fq6.ev S (z.recs.length+1) [z.pv, .s n]=some (.yld 0 [Ag ([]++allR z n)]):=by
  refine Fx z.recs (fun i (b:List Rec)=>[Ag b, .i .i64 (i:Int)]) (fun i b r=> .yld 0 [Ag (b++r.filter fun r=>decide (r.name=n))]) (fun i b=>b.length≤i) [] rfl (Cl _) (by omega) (fun i b c r hd hi hc hI=> ?_) (fun b hI=> ?_)
  ·left;by_cases h:c.name=n
   ·refine ⟨b++[c],?_,by simp;omega,by simp [h]⟩;simp (disch:=omega) only [Ds9,hc,h,EVM,EVC,EVR,xe,EVP,EV,simprocAttr]
    try simp [←h]
   ·refine ⟨b,?_,by omega,by simp [h]⟩;simp (disch:=omega) only [Ds9,hc,h,EVM,EVC,EVR,xe,EVP,EV,simprocAttr]
  ·simp (disch:=omega) only [Ds9,EVM,EVC,EVR,xe,EVP,EV,simprocAttr]
   try simp [Out.goes]
 rw [Cv] at key;generalize allR z n=ar at*;simp (disch:=omega) only [Ds9,key,EVM,EVC,EVR,xe,EVP,EV,simprocAttr]
theorem At6 (r:Rec) (t:Int):S V0 1 [r.pv, .i .i64 t]=some [.b (decide (r.typ≠t))]:=by
 refine Hr3 (N:=1) rfl ?_;simp (disch:=omega) only [Hc2,EVM,EVC,EVR,xe,EVP,EV,simprocAttr]
 try simp
theorem rh (l:List Rec) (t:Int) (hl:l.length≤1000000):S Af6 2 [Ag l, .i .i64 t]=some [Ag (typedR l t)]:=by
 refine Jk8 (N:=1) rfl ?_;unfold typedR;by_cases h:t=255
 ·rw [if_pos h];simp (disch:=omega) only [Hz6,h,EVM,EVC,EVR,xe,EVP,EV,simprocAttr]
 ·rw [if_neg h];have k1:=i6 l hl;have k2:=An3 l V0 [.i .i64 t] _ hl (fun r _=>At6 r t);have e:(l.filter fun x=> !decide (x.typ≠t))=l.filter fun r=>decide (r.typ=t):=by congr 1;funext x;simp
  rw [e] at k2;generalize (l.filter fun r=>decide (r.typ=t))=fl at*;simp (disch:=omega) only [Hz6,h,k1,k2,D3,Ks,EVT,EVM,EVC,EVR,xe,EVP,EV,simprocAttr]
theorem Cv2 (t:Int):S Bh3 1 [.i .i64 t]=some [.b (Ih5 t)]:=by
 refine Jk7 (N:=1) rfl ?_;unfold Ih5;by_cases h1:t=5
 ·subst h1;simp (disch:=omega) only [Ar6,EVM,EVC,EVR,xe,EVP,EV,simprocAttr];try simp
 ·by_cases h2:t=47
  ·subst h2;simp (disch:=omega) only [Ar6,EVM,EVC,EVR,xe,EVP,EV,simprocAttr];try simp
  ·by_cases h3:t=46
   ·subst h3;simp (disch:=omega) only [Ar6,EVM,EVC,EVR,xe,EVP,EV,simprocAttr];try simp
   ·by_cases h4:t=255
    ·subst h4;simp (disch:=omega) only [Ar6,EVM,EVC,EVR,xe,EVP,EV,simprocAttr];try simp
    ·simp (disch:=omega) only [Ar6,h1,h2,h3,h4,EVM,EVC,EVR,xe,EVP,EV,simprocAttr];try simp [h1,h2,h3,h4]
theorem Pw (l:List Rec) (t:Int):(typedR l t).length≤l.length:=by
 unfold typedR;split
 ·exact Af _
 ·exact Ef _ _
theorem Bq5 (l:List Rec) (t:Int) (hl:l.length≤1000000):S Ag1 2 [Ag l, .i .i64 t]=some [(saysM l t).pv]:=by
 refine Jw1 (N:=1) rfl ?_;have k1:=rh l 5 hl;have k2:=rh l t hl;have k3:=Cv2 t;have hh:(typedR l 5).head? =l.find? fun r=>decide (r.typ=5):=by unfold typedR;rw [if_neg (by omega),List.head?_filter]
 have hl2:=Pw l 5;have hl3:=Pw l t;have tail:∀a b,T.ev S 1 Cf1 [Ag l, .i .i64 t,a,b]=some (.ret [(if typedR l t=[] then (⟨5,[],false,[],[]⟩:Res) else ⟨1,[],false,[],typedR l t⟩).pv]):=by
  intro a b;by_cases h:typedR l t=[]
  ·rw [if_pos h];rw [h] at k2;simp (disch:=omega) only [Ar9,k2,EVM,EVC,EVR,xe,EVP,EV,simprocAttr]
   try rfl
  ·rw [if_neg h];have hp:(0:Int)<((typedR l t).length:Int):=by have:=Bw.2 h;omega
   generalize typedR l t=tl at*;simp (disch:=omega) only [Ar9,k2,hp,EVM,EVC,EVR,xe,EVP,EV,simprocAttr]
 unfold saysM Hz2;cases hf:typedR l 5 with
 |nil=>
  rw [hf] at k1 hh;have e:(if Ih5 t=true then none else l.find? fun r=>decide (r.typ=5))=none:=by rw [←hh];simp
  rw [e];simp (disch:=omega) only [↓tail,Ar9,k1,EVM,EVC,EVR,xe,EVP,EV,simprocAttr]
 |cons c r=>
  rw [hf] at k1 hh hl2;rw [List.head?_cons] at hh;rw [←hh];have hp:(0:Int)<((c::r).length:Int):=by simp only [As];omega
  rcases Aq (Ih5 t) with hd|hd
  ·rw [hd] at k3;simp only [hd,if_true];simp (disch:=omega) only [↓tail,Ar9,k1,k3,hp,EVM,EVC,EVR,xe,EVP,EV,simprocAttr]
  ·rw [hd] at k3;simp only [hd,Ad,if_false];have hls:G6 16 (Ag (c::r)) (.i .i64 0) (.i .i64 1)=some (Ag [c]):=by rw [G5 _ _ _ _ _ (by omega) (by omega) (by omega)];rfl
   have hix:Gt 16 (Ag (c::r)) (.i .i64 0)=some c.pv:=by rw [Jj _ _ _ (by omega)];rfl
   generalize (c::r)=ll at*;simp (disch:=omega) only [Ar9,k1,k3,hp,hls,hix,EVM,EVC,EVR,xe,EVP,EV,simprocAttr]
end Go.X.G
/- Wildcards; what a zone says about a question. -/
namespace Go.X.G
open Go Go.X
def T7 (n:List UInt8) (r:Rec):Rec:={r with name:=n}
theorem Ey9 (l:List Rec) (n:List UInt8) (i:Nat) (c:Rec) (r g:List Rec) (hd:l.drop i=c::r) (hi:i<l.length) (hc:l[i]? =some c) (hg:g=(l.take i).map (T7 n)++l.drop i):
  g[i]? =some c∧g.length=l.length∧g.set i {c with name:=n}=(l.take (i+1)).map (T7 n)++l.drop (i+1):=by
 have hA:((l.take i).map (T7 n)).length=i:=by rw [Ey,Ap];omega
 have hd1:l.drop (i+1)=r:=by rw [←Cm (i:=1) (j:=i),hd];rfl
 have ht:(l.take (i+1)).map (T7 n)=(l.take i).map (T7 n)++[T7 n c]:=by rw [Cw,hc,List.map_append];rfl
 rw [ht,hd1];rw [hd] at hg;have hlen:l.length=i+(r.length+1):=by have:=congrArg List.length hd;rw [B3,As] at this;omega
 generalize (l.take i).map (T7 n)=A at*;subst hg;refine ⟨?_,?_,?_⟩
 ·rw [A4 (by omega),hA];simp
 ·rw [Ay,As,hA];omega
 ·rw [Ln _ _ (by omega),hA];simp [T7]
theorem Gy7 (z:Zone) (q:Ques) (l:List Rec) (p2 p3 p4 p5:PV) (N:Nat) (hN:l.length<N) (hl:l.length≤1000000):
  Fq5.ev S N [z.pv,q.pv,p2,p3,p4,p5,Ag l]=some (.yld 0 [Ag (l.map (T7 q.name))]):=by
 refine Fx l (fun i (g:List Rec)=>[Ag g, .i .i64 (i:Int)]) (fun i g r=> .yld 0 [Ag (l.map (T7 q.name))]) (fun i g=>g=(l.take i).map (T7 q.name)++l.drop i) l (by simp (disch:=omega) only [EVM,EVC,xe,EVP,EV,simprocAttr]) (by simp) hN (fun i g c r hd hi hc hI=> ?_) (fun g hI=> ?_)
 ·left;obtain ⟨h1,h2,h3⟩:=Ey9 l q.name i c r g hd hi hc hI;refine ⟨g.set i {c with name:=q.name},?_,h3,rfl⟩;have hs:Qp 16 0 [.s q.name] (Ag g) (.i .i64 (i:Int))=some (Ag (g.set i {c with name:=q.name})):=by have:=Bk8 g .i64 (i:Int) q.name c (by omega) (by rw [G3];exact h1);rwa [G3] at this
  generalize g.set i {c with name:=q.name}=g' at*;simp (disch:=omega) only [Ax2,h1,hs,EVM,EVC,EVR,xe,EVP,EV,simprocAttr]
 ·have e:g=l.map (T7 q.name):=by rw [hI];simp
  rw [←e];simp (disch:=omega) only [Ax2,EVM,EVC,EVR,xe,EVP,EV,simprocAttr]
  try simp [Out.goes]
def Z8 (z:Zone) (q:Ques):Option Res:=
 if N0 (encN z q.name)=true∧allR z (starN (encN z q.name))≠[] then
  some {saysM ((allR z (starN (encN z q.name))).map (T7 q.name)) q.typ with owner:=starN (encN z q.name),wild:=true}
 else none
theorem Rh (z:Zone) (n:List UInt8):(allR z n).length≤z.recs.length:=Ef _ _
theorem El9 (z:Zone) (n:List UInt8):(encN z n).length≤254:=by
 unfold encN;rcases Aq (under n z.origin) with hu|hu
 ·rw [if_pos hu];cases h:An8 z n with
  |none=>simp
  |some e=>exact Jy (Bt.1 (Ly hu h).1).2.1
 ·rw [if_neg (by simp [hu])];simp
theorem Ax8:N0 []=false:=by decide
theorem Gy6 (z:Zone) (q:Ques) (hz:z.wf) (hl:z.recs.length≤1000) (hq:q.name.length≤9223372036854775807):S Bl5 2 [z.pv,q.pv]=some (Kg (Z8 z q)):=by
 refine Jv9 (N:=2000) rfl ?_;have k1:=Zt z q.name hz hl hq;have el:=El9 z q.name;have k2:=Ep8 (encN z q.name) (by omega);have k3:=xj z (starN (encN z q.name)) (by omega);have al:=Rh z (starN (encN z q.name));unfold Z8;by_cases h1:encN z q.name=[]
 ·rw [h1] at k1 ⊢;rw [Ax8,if_neg (by simp)];simp (disch:=omega) only [Ax2,k1,Kg,EVM,EVC,EVR,xe,EVP,EV,simprocAttr]
  try simp
 ·have h2:decide (encN z q.name≠[])=true:=by simp [h1]
  rw [h2] at k1;rcases Aq (N0 (encN z q.name)) with h3|h3
  ·rw [h3] at k2;by_cases h4:allR z (starN (encN z q.name))=[]
   ·rw [if_neg (by simp [h4])];rw [h4] at k3;simp (disch:=omega) only [Ax2,k1,k2,k3,Kg,EVM,EVC,EVR,xe,EVP,EV,simprocAttr]
    try simp
   ·rw [if_pos ⟨h3,h4⟩];have h5:¬((allR z (starN (encN z q.name))).length:Int)=0:=by have:=Bw.2 h4;omega
    have k4:=fun p2 p3 p4 p5=>Gy7 z q (allR z (starN (encN z q.name))) p2 p3 p4 p5 2000 (by omega) (by omega);have k5:=Bq5 ((allR z (starN (encN z q.name))).map (T7 q.name)) q.typ (by rw [Ey];omega);generalize (allR z (starN (encN z q.name))).map (T7 q.name)=ml at*;generalize allR z (starN (encN z q.name))=al at*;simp (disch:=omega) only [Ax2,k1,k2,k3,k4,k5,h5,Kg,EVM,EVC,EVR,xe,EVP,EV,simprocAttr]
  ·rw [h3] at k2;rw [if_neg (by simp [h3])];generalize allR z (starN (encN z q.name))=al at*;simp (disch:=omega) only [Ax2,k1,k2,k3,Kg,EVM,EVC,EVR,xe,EVP,EV,simprocAttr]
   try simp
def mb (z:Zone) (q:Ques):Res:=
 match Ay5 z q.name with
 |some x=>x
 |none=>if exB z q.name=true then {saysM (allR z q.name) q.typ with owner:=q.name} else (Z8 z q).getD ⟨6,q.name,false,[],[]⟩
def findM (z:Zone) (q:Ques):Res:=
 if under q.name z.origin=true then
  if cutN z q.name≠[]∧(cutN z q.name≠q.name∨q.typ≠43) then ⟨4,cutN z q.name,false,[],findR z.recs (cutN z q.name) 2⟩ else mb z q
 else Ip4
theorem Gm7 (z:Zone) (q:Ques) (hz:z.wf) (hl:z.recs.length≤1000) (hq:q.name.length≤9223372036854775807):S Bm9 2 [z.pv,q.pv]=some [(findM z q).pv]:=by
 refine Jx1 (N:=1) rfl ?_;have g1:=hz.origin;unfold W7 at g1;have k0:=F7 q.name z.origin hq g1;have k1:=Ar0 z q.name hz (by omega) hq;have k2:=Lr z (cutN z q.name) 2 (by omega);have k4:=Ax0 z q.name hz hl;have k5:=xj z q.name (by omega);have al:=Rh z q.name;have k6:=Bq5 (allR z q.name) q.typ (by omega);have k7:=Gy6 z q hz hl hq;unfold findM;rcases Aq (under q.name z.origin) with hu|hu
 ·rw [if_pos hu];rw [hu] at k0;have k3:=Zr z q.name hz (by omega) hu;have tail:∀p3 p4,T.ev S 1 o5 [z.pv,q.pv, .b true,p3,p4]=some (.ret [(mb z q).pv]):=by
   intro p3 p4;unfold mb;cases hr:Ay5 z q.name with
   |some x=>
    rw [hr] at k3;simp only [Kg] at k3;simp (disch:=omega) only [W3,k3,EVM,EVC,EVR,xe,EVP,EV,simprocAttr]
   |none=>
    rw [hr] at k3;simp only [Kg] at k3;rcases Aq (exB z q.name) with he|he
    ·rw [he] at k4;simp only [he,if_true];generalize saysM (allR z q.name) q.typ=sm at*;generalize allR z q.name=ar at*;simp (disch:=omega) only [W3,k3,k4,k5,k6,EVM,EVC,EVR,xe,EVP,EV,simprocAttr]
    ·rw [he] at k4;simp only [he,Ad,if_false];cases hw:Z8 z q with
     |some x=>
      rw [hw] at k7;simp only [Kg] at k7;simp (disch:=omega) only [W3,k3,k4,k7,EVM,EVC,EVR,xe,EVP,EV,simprocAttr]
      try rfl
     |none=>
      rw [hw] at k7;simp only [Kg] at k7;simp (disch:=omega) only [W3,k3,k4,k7,EVM,EVC,EVR,xe,EVP,EV,simprocAttr]
      try rfl
  by_cases h1:cutN z q.name=[]
  ·rw [h1] at k1;rw [if_neg (by simp [h1])];simp (disch:=omega) only [↓tail,W3,k0,k1,ne_eq,not_true,decide_false,EVM,EVC,EVR,xe,EVP,EV,simprocAttr]
  ·have h2:decide (cutN z q.name≠[])=true:=by simp [h1]
   rw [h2] at k1;by_cases h3:cutN z q.name=q.name
   ·by_cases h4:q.typ=43
    ·rw [if_neg (by simp [h3,h4])];rw [h3] at k1;simp (disch:=omega) only [↓tail,W3,k0,k1,h4,EVM,EVC,EVR,xe,EVP,EV,simprocAttr]
    ·rw [if_pos ⟨h1, .inr h4⟩];rw [h3] at k1 k2 ⊢;generalize findR z.recs q.name 2=fr at*;simp (disch:=omega) only [W3,k0,k1,k2,h4,EVM,EVC,EVR,xe,EVP,EV,simprocAttr]
   ·rw [if_pos ⟨h1, .inl h3⟩];generalize findR z.recs (cutN z q.name) 2=fr at*;simp (disch:=omega) only [W3,k0,k1,k2,h3,EVM,EVC,EVR,xe,EVP,EV,simprocAttr]
 ·rw [if_neg (by simp [hu])];rw [hu] at k0;simp (disch:=omega) only [W3,k0,EVM,EVC,EVR,xe,EVP,EV,simprocAttr]
theorem Gd2 {z:Zone} {n u:List UInt8} (h:Gd3 z n=some u):∃r rest,findR z.recs u 39=r::rest:=by
 unfold Gd3 at h;have:=List.find?_some h;unfold dnB at this;cases hf:findR z.recs u 39 with
 |nil=>rw [hf] at this;simp at this
 |cons r rest=>exact ⟨r,rest,rfl⟩
end Go.X.G
/- The order of records; what a checked zone is like. -/
namespace Go.X.G
open Go Go.X
theorem TO.prod {α β:Type} {l1:α→α→Prop} {l2:β→β→Prop} (h1:TO l1) (h2:TO l2):TO (fun p q:α×β=>l1 p.1 q.1∨(p.1=q.1∧l2 p.2 q.2)) where
 irr:=fun p h=>by
  rcases h with h|⟨_,h⟩
  ·exact h1.irr _ h
  ·exact h2.irr _ h
 tr:=fun p q r a b=>by
  rcases a with a|⟨a,a'⟩<;>rcases b with b|⟨b,b'⟩
  ·exact .inl (h1.tr _ _ _ a b)
  ·exact .inl (b▸a)
  ·exact .inl (a▸b)
  ·exact .inr ⟨a.trans b,h2.tr _ _ _ a' b'⟩
 tri:=fun p q=>by
  rcases h1.tri p.1 q.1 with a|a|a
  ·exact .inl (.inl a)
  ·rcases h2.tri p.2 q.2 with b|b|b
   ·exact .inl (.inr ⟨a,b⟩)
   ·exact .inr (.inl (Prod.ext a b))
   ·exact .inr (.inr (.inr ⟨a.symm,b⟩))
  ·exact .inr (.inr (.inl a))
theorem Hf7:TO (fun a b:Int=>a<b):=⟨fun a h=>by omega,fun a b c h1 h2=>by omega,fun a b=>by omega⟩
theorem Y2 (a b:Int):zj a b<0↔a<b:=by unfold zj;split<;>(try split)<;>omega
theorem Ht (a b:Int):zj a b=0↔a=b:=by unfold zj;split<;>(try split)<;>omega
abbrev Key:=List UInt8×Int×List UInt8
abbrev ltK:Key→Key→Prop:=fun p q=>ltN p.1 q.1∨(p.1=q.1∧(p.2.1<q.2.1∨(p.2.1=q.2.1∧ltB p.2.2 q.2.2)))
theorem to_K:TO ltK:=to_N.prod (Hf7.prod Dr2)
def Dr3 (r:Rec):Key:=(r.name,r.typ,J3 r.typ r.data)
abbrev ltR (a b:Rec):Prop:=ltK (Dr3 a) (Dr3 b)
theorem Nn {r:Rec} (h:Pj r=true):Ew r.typ r.data=true:=by unfold Pj at h;simp only [Aw] at h;exact h.2
theorem Z9 {r:Rec} (h:Pj r=true):vld r.name=true:=by unfold Pj at h;simp only [Aw] at h;exact h.1.1.1.1
theorem Fv9 {t:Int} {a b:Dat} (ha:Ew t a=true) (hb:Ew t b=true):En0 t a b=cmpS (J3 t a) (J3 t b):=by unfold En0;rw [ha,hb];rfl
theorem zk {a b:Rec} (ha:Pj a=true) (hb:Pj b=true):Uq a b<0↔ltR a b:=by
 unfold Uq ltR ltK Dr3;simp only;by_cases h1:Jf a.name b.name=0
 ·rw [if_neg (by simp [h1])];have e1:=Hs.1 h1;have n1:¬ltN a.name b.name:=by rw [e1];exact to_N.irr _
  by_cases h2:zj a.typ b.typ=0
  ·rw [if_neg (by simp [h2])];have e2:=(Ht _ _).1 h2;have ha':=Nn ha;have hb':=Nn hb;rw [e2] at ha' ⊢;rw [Fv9 ha' hb',Rc];constructor
   ·intro h;exact .inr ⟨e1, .inr ⟨rfl,h⟩⟩
   ·rintro (h|⟨_,h|⟨_,h⟩⟩)
    ·exact absurd h n1
    ·omega
    ·exact h
  ·rw [if_pos h2,Y2];have e2:a.typ≠b.typ:=fun e=>h2 ((Ht _ _).2 e);constructor
   ·intro h;exact .inr ⟨e1, .inl h⟩
   ·rintro (h|⟨_,h|⟨h,_⟩⟩)
    ·exact absurd h n1
    ·exact h
    ·exact absurd h e2
 ·rw [if_pos h1,Fz];have e1:a.name≠b.name:=fun e=>h1 (Hs.2 e);constructor
  ·intro h;exact .inl h
  ·rintro (h|⟨h,_⟩)
   ·exact h
   ·exact absurd h e1
theorem g7 {a b:Rec} (ha:Pj a=true) (hb:Pj b=true):Uq a b=0↔Dr3 a=Dr3 b:=by
 unfold Uq Dr3;by_cases h1:Jf a.name b.name=0
 ·rw [if_neg (by simp [h1])];have e1:=Hs.1 h1;by_cases h2:zj a.typ b.typ=0
  ·rw [if_neg (by simp [h2])];have e2:=(Ht _ _).1 h2;have ha':=Nn ha;have hb':=Nn hb;rw [e2] at ha' ⊢;rw [Fv9 ha' hb',Im];simp [e1]
  ·rw [if_pos h2];have e2:a.typ≠b.typ:=fun e=>h2 ((Ht _ _).2 e);constructor
   ·intro h;exact absurd h h2
   ·intro h;injection h with _ h;injection h with h _;exact absurd h e2
 ·rw [if_pos h1];have e1:a.name≠b.name:=fun e=>h1 (Hs.2 e);constructor
  ·intro h;exact absurd h h1
  ·intro h;injection h with h _;exact absurd h e1
theorem Tj {x:Rec} (hx:Pj x=true):∀(l:List Rec),(∀r∈l,Pj r=true)→l.Pairwise ltR→(i9 x l).Pairwise ltR
 |[],_,_=>by simp [i9]
 |y::r,hv,h=>by
  obtain ⟨h1,h2⟩:=A5.1 h;have hy:=hv y (.head _);have ih:=Tj hx r (fun w hw=>hv w (.tail _ hw)) h2;simp only [i9];by_cases c:Uq y x<0
  ·rw [if_pos c];refine A5.2 ⟨fun w hw=> ?_,ih⟩;rcases insR_mem x r w hw with rfl|hw
   ·exact (zk hy hx).1 c
   ·exact h1 w hw
  ·rw [if_neg c];by_cases e:Uq y x=0
   ·rw [if_pos e];split
    ·have ke:=(g7 hy hx).1 e;refine A5.2 ⟨fun w hw=> ?_,h2⟩;have:=h1 w hw;show ltK (Dr3 x) (Dr3 w);rw [←ke];exact this
    ·exact h
   ·rw [if_neg e];have hxy:ltR x y:=by
     rcases to_K.tri (Dr3 x) (Dr3 y) with q|q|q
     ·exact q
     ·exact absurd ((g7 hy hx).2 q.symm) e
     ·exact absurd ((zk hy hx).2 q) c
    refine A5.2 ⟨fun w hw=> ?_,h⟩;rcases Am.1 hw with rfl|hw
    ·exact hxy
    ·exact to_K.tr _ _ _ hxy (h1 w hw)
theorem P9 (l:List Rec) (hv:∀r∈l,Pj r=true):(sortR l).Pairwise ltR∧∀r∈sortR l,r∈l:=by
 have:∀(l a:List Rec),(∀r∈l,Pj r=true)→(∀r∈a,Pj r=true)→a.Pairwise ltR→(l.foldl (fun acc x=>i9 x acc) a).Pairwise ltR∧∀r∈l.foldl (fun acc x=>i9 x acc) a,r∈a∨r∈l:=by
  intro l
  induction l with
  |nil=>intro a _ _ h;exact ⟨h,fun r hr=> .inl hr⟩
  |cons x r ih=>
   intro a h1 h2 h3;have hx:=h1 x (.head _);obtain ⟨g1,g2⟩:=ih (i9 x a) (fun w hw=>h1 w (.tail _ hw)) (fun w hw=>by
    rcases insR_mem x a w hw with rfl|hw
    ·exact hx
    ·exact h2 w hw) (Tj hx a h2 h3)
   refine ⟨g1,fun w hw=> ?_⟩;rcases g2 w hw with hw|hw
   ·rcases insR_mem x a w hw with rfl|hw
    ·exact .inr (.head _)
    ·exact .inl hw
   ·exact .inr (.tail _ hw)
 obtain ⟨h1,h2⟩:=this l [] hv (fun r hr=>by cases hr) .nil;exact ⟨h1,fun r hr=>(h2 r hr).resolve_left (by simp)⟩
structure ZOk (z:Zone):Prop where
 origin:vld z.origin=true
 small:z.recs.length≤2048
 valid:∀r∈z.recs,Pj r=true
 rising:z.recs.Pairwise ltR
 soa:(findR z.recs z.origin 6).length=1
 ns:f5 z.recs z.origin 2=true
 recs:∀r∈z.recs,Sg z r=true
theorem Cw0 {z:Zone} (h:Wz z=0):ZOk z:=by
 unfold Wz at h;split at h
 ·cases h
 ·rename_i h1;split at h
  ·cases h
  ·rename_i h2;split at h
   ·cases h
   ·split at h
    ·cases h
    ·rename_i h4;split at h
     ·cases h
     ·rename_i h5;split at h
      ·cases h
      ·rename_i h6;split at h
       ·cases h
       ·rename_i h7;simp only [Fh,Bd] at h1 h4 h7;simp only [not_or,ne_eq,I4,Fh] at h5 h6;refine ⟨h1,by omega,h4,?_,h6.1,h6.2,h7⟩;rw [h5];exact (P9 z.recs h4).1
theorem ZOk.beside {z:Zone} (h:ZOk z) {r x:Rec} (hr:r∈z.recs) (hx:x∈z.recs):Or r x=true:=by have:=h.recs r hr;unfold Sg at this;simp only [Aw] at this;have h2:=this.1.2;unfold Zj at h2;exact Bd.1 h2 x hx
theorem ZOk.under {z:Zone} (h:ZOk z) {r:Rec} (hr:r∈z.recs):under r.name z.origin=true:=by have:=h.recs r hr;unfold Sg at this;simp only [Aw] at this;exact this.1.1.1
theorem ZOk.single {z:Zone} (h:ZOk z) (n:List UInt8) (t:Int) (ht:t=6∨t=5∨t=39):(findR z.recs n t).length≤1:=by
 have hp:(findR z.recs n t).Pairwise ltR:=h.rising.filter _;have hm:∀x∈findR z.recs n t,x∈z.recs∧x.name=n∧x.typ=t:=fun x hx=>by obtain ⟨h1,h2⟩:=Bf.1 hx;simp only [isK,Aw,decide_eq_true_eq] at h2;exact ⟨h1,h2.1,h2.2⟩
 generalize findR z.recs n t=l at*
 match l,hp,hm with
 |[],_,_=>simp
 |[_],_,_=>simp
 |a::b::r,hp,hm=>
  exfalso;have hab:ltR a b:=(A5.1 hp).1 b (.head _);obtain ⟨a1,a2,a3⟩:=hm a (.head _);obtain ⟨b1,b2,b3⟩:=hm b (.tail _ (.head _));have hb:=h.beside a1 b1;have e:b=a:=by
   unfold Or at hb;rw [a2,a3,b2,b3] at hb;have ht':(decide (t=6)||decide (t=5)||decide (t=39))=true:=by rcases ht with h|h|h<;>simp [h]
   rw [ht'] at hb;simp only [decide_true,Kz,Kb,O8,Hz3,Aw,A8,decide_eq_false_iff_not,ne_eq,I4] at hb;exact hb.1.2
  rw [e] at hab;exact to_K.irr _ hab
end Go.X.G
/- What a checked zone says of its names. -/
namespace Go.X.G
open Go Go.X
theorem Pq {n:List UInt8} (h:vld n=true):under n n=true:=Bt.2 ⟨h,h,List.suffix_refl _⟩
theorem Ax4 {a b:List UInt8} (h1:under a b=true) (h2:under b a=true):a=b:=by refine Jg h1 ?_;exact (Bt.1 h2).2.2.length_le
theorem fp {z:Zone} {r:Rec}:Dq z r=true↔r.typ=2∧r.name≠z.origin∧under r.name z.origin=true:=by unfold Dq Ev;simp only [Aw,decide_eq_true_eq,ne_eq]
theorem Og {l:List Rec} {n:List UInt8} {t:Int} {r:Rec}:r∈findR l n t↔r∈l∧r.name=n∧r.typ=t:=by unfold findR;rw [Bf];simp only [isK,Aw,decide_eq_true_eq]
theorem ZOk.soaR {z:Zone} (h:ZOk z):∃r∈z.recs,r.name=z.origin∧r.typ=6:=by
 have:=h.soa;cases e:findR z.recs z.origin 6 with
 |nil=>rw [e] at this;cases this
 |cons r l=>
  have:r∈findR z.recs z.origin 6:=by rw [e];exact .head _
  exact ⟨r,(Og.1 this).1,(Og.1 this).2⟩
theorem Ag8 (z:Zone):O5 z z.origin=false:=by
 cases h:O5 z z.origin with
 |false=>rfl
 |true=>
  unfold O5 at h;simp only [B6,Aw,decide_eq_true_eq] at h;obtain ⟨r,_,⟨h1,_⟩,h3⟩:=h;obtain ⟨_,h4,h5⟩:=fp.1 h1;exact absurd (Ax4 h5 h3) h4
theorem ZOk.exO {z:Zone} (h:ZOk z):exB z z.origin=true:=by obtain ⟨r,hr,e,_⟩:=h.soaR;have u:=Pq h.origin;exact (Qc z _).2 ⟨r,hr,by rw [e];exact u,by rw [e];exact Ag8 z,by rw [e];exact u,u⟩
theorem Jm6 {z:Zone} (h:ZOk z) {n:List UInt8} (hu:under n z.origin=true):encN z n≠[]∧under n (encN z n)=true∧exB z (encN z n)=true:=by
 unfold encN;rw [if_pos hu];cases e:An8 z n with
 |none=>
  unfold An8 at e;rw [List.find?_eq_none] at e;exact absurd h.exO (e _ ((M3 hu).2 ⟨hu,Pq h.origin⟩))
 |some x=>
  obtain ⟨h1,h2⟩:=Ly hu e;exact ⟨rc (Bt.1 h1).2.1,h1,h2⟩
theorem Gp3 {z:Zone} {n x:List UInt8} (hu:under n x=true) (hx:exB z x=true):(lbl x).length≤(lbl (encN z n)).length:=by
 have hne:=rc (Bt.1 hu).2.1;have h0:=Dl1 z n;obtain ⟨h1,h2⟩:=Rf n (namesN z) [] (.inl rfl);rw [h0] at h1 h2;have hm:x∈namesN z:=by have:=Yc z x;rw [hx] at this;simpa using this
 by_cases hb:encN z n=[]
 ·have:=(h1 hb).2 x hm;rw [hu] at this;cases this
 ·exact (h2 hb).2.2.2 x hm hu
theorem j6 {a b c:List (List UInt8)} (h1:a<:+c) (h2:b<:+c) (h:a.length≤b.length):a<:+b:=by exact List.suffix_of_suffix_length_le h1 h2 h
theorem gr {z:Zone} {n:List UInt8} (ho:ZOk z) (h:cutN z n≠[]):
  under n (cutN z n)=true∧cutN z n≠z.origin∧(findR z.recs (cutN z n) 2).length≠0∧encN z n=cutN z n∧under n z.origin=true∧exB z (cutN z n)=true:=by
 obtain ⟨_,h2⟩:=P1 z n z.recs [] (.inl rfl);obtain ⟨g1,g2,_,g4⟩:=h2 h;change under n (cutN z n)=true at g1;change cutN z n=[]∨∃r∈z.recs,Dq z r=true∧r.name=cutN z n at g2;change∀r∈z.recs,Dq z r=true→under n r.name=true→(lbl (cutN z n)).length≤(lbl r.name).length at g4;obtain ⟨r,hr,hc,hn⟩:=g2.resolve_left h;generalize cutN z n=c at*;obtain ⟨c1,c2,c3⟩:=fp.1 hc;rw [hn] at c2 c3;have hu:=Np g1 c3;have hh:O5 z c=false:=by
  cases e:O5 z c with
  |false=>rfl
  |true=>
   unfold O5 at e;simp only [B6,Aw,decide_eq_true_eq] at e;obtain ⟨x,hx,⟨x1,x2⟩,x3⟩:=e;have:=g4 x hx x1 (Np g1 x3);exact absurd (Jg x3 this).symm x2
 have hv:=(Bt.1 c3).1;have hex:exB z c=true:=(Qc z c).2 ⟨r,hr,by rw [hn];exact c3,by rw [hn];exact hh,by rw [hn];exact Pq hv,c3⟩;refine ⟨g1,c2,?_,?_,hu,hex⟩
 ·have:r∈findR z.recs c 2:=Og.2 ⟨hr,hn,c1⟩;intro e;rw [List.length_eq_zero_iff.1 e] at this;cases this
 ·obtain ⟨_,e1,e2⟩:=(Jm6 ho hu);have hm:=Gp3 g1 hex;generalize encN z n=e at*;obtain ⟨_,_,s1⟩:=Bt.1 g1;obtain ⟨_,ve,s2⟩:=Bt.1 e1;have s3:=j6 s1 s2 hm;have ec:under e c=true:=Bt.2 ⟨ve,hv,s3⟩;by_cases hl:(lbl e).length≤(lbl c).length
  ·exact Jg ec hl
  ·exfalso;obtain ⟨x,hx,x1,x2,x3,_⟩:=(Qc z e).1 e2;have hxc:=Np x3 ec;have:O5 z x.name=true:=by unfold O5;simp only [B6,Aw,decide_eq_true_eq];refine ⟨r,hr,⟨hc,fun q=> ?_⟩,by rw [hn];exact hxc⟩;have:=(Bt.1 x3).2.2.length_le;rw [←q,hn] at this;exact hl this
   rw [x2] at this;cases this
end Go.X.G
/- What a checked zone says about a question, in plain words. -/
namespace Go.X.G
open Go Go.X
theorem Ad9 {z:Zone} {n:List UInt8} (ho:ZOk z) (hu:under n z.origin=true) (hx:exB z n=false) (hc:cutN z n=[]∨cutN z n=n):∀r∈z.recs,under r.name n=false:=by
 intro r hr;rcases Aq (under r.name n) with h|h
 ·exfalso;have h1:=ho.under hr;have hh:O5 z r.name=true:=by
   rcases Aq (O5 z r.name) with e|e
   ·exact e
   ·have:=(Qc z n).2 ⟨r,hr,h1,e,h,hu⟩;rw [hx] at this;cases this
  rw [Gl8] at hh;simp only [Aw,decide_eq_true_eq] at hh;obtain ⟨c1,_,_,_,_,c2⟩:=gr ho hh.1;obtain ⟨_,g2⟩:=P1 z r.name z.recs [] (.inl rfl);obtain ⟨_,g3,_,_⟩:=g2 hh.1;obtain ⟨x,hxm,x1,x2⟩:=g3.resolve_left hh.1;change x.name=cutN z r.name at x2;generalize cutN z r.name=c at*;obtain ⟨_,_,s1⟩:=Bt.1 c1;obtain ⟨_,vn,s2⟩:=Bt.1 h;obtain ⟨_,vc,_⟩:=Bt.1 c1;by_cases hl:(lbl n).length≤(lbl c).length
  ·have hcn:under c n=true:=Bt.2 ⟨vc,vn,j6 s2 s1 hl⟩;obtain ⟨y,y1,y2,y3,y4,_⟩:=(Qc z c).1 c2;have:=(Qc z n).2 ⟨y,y1,y2,y3,Np y4 hcn,hu⟩;rw [hx] at this;cases this
  ·have hnc:under n c=true:=Bt.2 ⟨vn,vc,j6 s1 s2 (by omega)⟩;obtain ⟨k1,k2⟩:=P1 z n z.recs [] (.inl rfl);rcases hc with hc|hc
   ·have:=(k1 hc).2 x hxm x1;rw [x2,hnc] at this;cases this
   ·by_cases hc0:cutN z n=[]
    ·have:=(k1 hc0).2 x hxm x1;rw [x2,hnc] at this;cases this
    ·obtain ⟨_,_,_,k3⟩:=k2 hc0;have:=k3 x hxm x1 (by rw [x2];exact hnc);change (lbl (cutN z n)).length≤_ at this;rw [hc,x2] at this;omega
 ·exact h
def Lc (z:Zone) (n:List UInt8) (t:Int):Nat:=(z.recs.filter fun r=>decide (r.name=n) && (decide (t=255)||decide (r.typ=t))).length
theorem Kx (z:Zone) (n:List UInt8) (t:Int):Lc z n t=(typedR (allR z n) t).length:=by
 unfold Lc typedR allR;split
 ·rename_i h;subst h;simp
 ·rename_i h;rw [List.filter_filter];congr 1;refine List.filter_congr fun r _=> ?_;simp [h,Bool.and_comm]
theorem Al6 (z:Zone) (n:List UInt8):Lc z n 2=(findR z.recs n 2).length:=by unfold Lc findR;congr 1
theorem av {l:List Rec} {t:Int} {x:Rec} (h:x∈typedR l t):x∈l∧(x.typ=t∨t=255):=by
 unfold typedR at h;split at h
 ·rename_i e;exact ⟨h, .inr e⟩
 ·obtain ⟨h1,h2⟩:=Bf.1 h;exact ⟨h1, .inl (by simpa using h2)⟩
theorem ak (l:List Rec) (n:List UInt8) (t:Int):(typedR (l.map (T7 n)) t).length=(typedR l t).length:=by
 unfold typedR;split
 ·simp
 ·rw [List.filter_map,Ey];rfl
structure FindOk (z:Zone) (q:Ques) (r:Res):Prop where
 ans:r.kind=1→r.recs≠[]∧r.recs.length=Lc z r.owner q.typ∧(r.wild=false→r.owner=q.name)∧∀x∈r.recs,x.name=q.name∧(x.typ=q.typ∨q.typ=255)∧{x with name:=r.owner}∈z.recs
 nothing:r.kind=6∨r.wild=true→∀x∈z.recs,under x.name q.name=false
 out:r.kind=0→under q.name z.origin=false
 nodata:r.kind=5→Lc z r.owner q.typ=0
 nx:r.kind=6→r.recs=[]∧r.wild=false
 ref:r.kind=4→under q.name r.owner=true∧r.owner≠z.origin∧r.recs.length=Lc z r.owner 2∧r.recs≠[]∧∀x∈r.recs,x.typ=2
 kinds:r.kind=0∨r.kind=1∨(r.kind=2∧r.recs≠[])∨(r.kind=3∧r.recs≠[])∨r.kind=4∨r.kind=5∨r.kind=6
theorem says_kind (l:List Rec) (t:Int):((saysM l t).kind=2∧(saysM l t).recs≠[])∨((saysM l t).kind=5∧typedR l t=[])∨((saysM l t).kind=1∧typedR l t≠[]∧(saysM l t).recs=typedR l t):=by
 unfold saysM;split
 ·exact .inl ⟨rfl,by simp⟩
 ·split
  ·rename_i h;exact .inr (.inl ⟨rfl,h⟩)
  ·rename_i h;exact .inr (.inr ⟨rfl,h,rfl⟩)
theorem Sq (l:List Rec) (t:Int):(saysM l t).wild=false:=by
 unfold saysM;split
 ·rfl
 ·split<;>rfl
theorem Ck1 (z:Zone) (q:Ques) (ho:ZOk z):FindOk z q (findM z q):=by
 unfold findM;split
 ·rename_i hu;split
  ·rename_i hc;obtain ⟨f1,f2,f3,_⟩:=gr ho hc.1;refine ⟨fun h=>by simp at h,fun h=>by simp at h,fun h=>by simp at h,fun h=>by simp at h,fun h=>by simp at h,fun _=>⟨f1,f2,(Al6 z _).symm,fun e=>f3 (by have e':findR z.recs (cutN z q.name) 2=[]:=e;rw [e'];rfl),fun x hx=>(Og.1 hx).2.2⟩,by simp⟩
  ·rename_i hc;have hc':cutN z q.name=[]∨cutN z q.name=q.name:=by
    by_cases h0:cutN z q.name=[]
    ·exact .inl h0
    ·refine .inr (Classical.byContradiction fun h1=>hc ⟨h0, .inl h1⟩)
   unfold mb;cases hr:Ay5 z q.name with
   |some x=>
    simp only;unfold Ay5 at hr;cases hr2:Gd3 z q.name with
    |none=>rw [hr2] at hr;cases hr
    |some u=>
     rw [hr2] at hr;simp only [A3,Ak] at hr;obtain ⟨r0,rest,hf⟩:=Gd2 hr2;unfold Sf at hr;rw [hf] at hr;subst hr;exact ⟨fun h=>by simp at h,fun h=>by simp at h,fun h=>by simp at h,fun h=>by simp at h,fun h=>by simp at h,fun h=>by simp at h,by simp⟩
   |none=>
    simp only;split
    ·rename_i hex;rcases says_kind (allR z q.name) q.typ with ⟨k,k'⟩|⟨k,kt⟩|⟨k,kt,kr⟩
     ·refine ⟨fun h=> ?_,fun h=> ?_,fun h=> ?_,fun h=> ?_,fun h=> ?_,fun h=> ?_, .inr (.inr (.inl ⟨k,k'⟩))⟩<;>simp [k,Sq] at h
     ·refine ⟨fun h=> ?_,fun h=> ?_,fun h=> ?_,fun _=> ?_,fun h=> ?_,fun h=> ?_,by simp [k]⟩
      ·simp [k] at h
      ·simp [k,Sq] at h
      ·simp [k] at h
      ·show Lc z q.name q.typ=0;rw [Kx,kt];rfl
      ·simp [k] at h
      ·simp [k] at h
     ·refine ⟨fun _=>⟨?_,?_,fun _=>rfl,?_⟩,fun h=> ?_,fun h=> ?_,fun h=> ?_,fun h=> ?_,fun h=> ?_,by simp [k]⟩
      ·show (saysM (allR z q.name) q.typ).recs≠[];rw [kr];exact kt
      ·show (saysM (allR z q.name) q.typ).recs.length=Lc z q.name q.typ;rw [kr,Kx]
      ·intro x hx;change x∈(saysM (allR z q.name) q.typ).recs at hx;rw [kr] at hx;obtain ⟨h1,h2⟩:=av hx;obtain ⟨h3,h4⟩:=Bf.1 h1;have h5:x.name=q.name:=by simpa using h4
       refine ⟨h5,h2,?_⟩;show {x with name:=q.name}∈z.recs;rw [←h5];exact h3
      ·simp [k,Sq] at h
      ·simp [k] at h
      ·simp [k] at h
      ·simp [k] at h
      ·simp [k] at h
    ·rename_i hex;have hex':exB z q.name=false:=by simpa using hex
     have hno:=Ad9 ho hu hex' hc';unfold Z8;split
     ·simp only [B8];generalize starN (encN z q.name)=s;rcases says_kind ((allR z s).map (T7 q.name)) q.typ with ⟨k,k'⟩|⟨k,kt⟩|⟨k,kt,kr⟩
      ·refine ⟨fun h=> ?_,fun _=>hno,fun h=> ?_,fun h=> ?_,fun h=> ?_,fun h=> ?_, .inr (.inr (.inl ⟨k,k'⟩))⟩<;>simp [k] at h
      ·refine ⟨fun h=> ?_,fun _=>hno,fun h=> ?_,fun _=> ?_,fun h=> ?_,fun h=> ?_,by simp [k]⟩
       ·simp [k] at h
       ·simp [k] at h
       ·show Lc z s q.typ=0;rw [Kx,←ak (allR z s) q.name q.typ,kt];rfl
       ·simp [k] at h
       ·simp [k] at h
      ·refine ⟨fun _=>⟨?_,?_,fun h=> ?_,?_⟩,fun _=>hno,fun h=> ?_,fun h=> ?_,fun h=> ?_,fun h=> ?_,by simp [k]⟩
       ·show (saysM ((allR z s).map (T7 q.name)) q.typ).recs≠[];rw [kr];exact kt
       ·show (saysM ((allR z s).map (T7 q.name)) q.typ).recs.length=Lc z s q.typ;rw [kr,Kx,ak]
       ·simp at h
       ·intro x hx;change x∈(saysM ((allR z s).map (T7 q.name)) q.typ).recs at hx;rw [kr] at hx;obtain ⟨h1,h2⟩:=av hx;obtain ⟨y,h3,rfl⟩:=Dd.1 h1;obtain ⟨h4,h5⟩:=Bf.1 h3;have h6:y.name=s:=by simpa using h5
        refine ⟨rfl,h2,?_⟩;show {T7 q.name y with name:=s}∈z.recs;rw [←h6];exact h4
       ·simp [k] at h
       ·simp [k] at h
       ·simp [k] at h
       ·simp [k] at h
     ·simp only [Option.getD_none];refine ⟨fun h=>by simp at h,fun _=>hno,fun h=>by simp at h,fun h=>by simp at h,fun _=>⟨rfl,rfl⟩,fun h=>by simp at h,by simp⟩
 ·rename_i hu;have hu':under q.name z.origin=false:=by simpa using hu
  refine ⟨fun h=>by simp at h,fun h=>by simp at h,fun _=>hu',fun h=>by simp at h,fun h=>by simp at h,fun h=>by simp at h,by simp⟩
end Go.X.G
/- The law LookupSoas. -/
namespace Go.X.G
open Go Go.X
theorem Rl (z:Zone) (n:List UInt8) (t:Int) (hl:z.recs.length≤1000000):S Qs 3 [z.pv, .s n, .i .i64 t]=some [Ag (findR z.recs n t)]:=by refine Hh9 (N:=1) rfl ?_;simp (disch:=omega) only [Hz8,Aw8,xe,EVP,EV,simprocAttr]
def soaR (z:Zone):List Rec:=match findR z.recs z.origin 6 with
 |[]=>[]
 |r::_=>[{r with ttl:=if r.data.e<r.ttl then r.data.e else r.ttl}]
theorem Dp0 (z:Zone) (hl:z.recs.length≤1000000):S dq 1 [z.pv]=some [Ag (soaR z)]:=by
 refine Jw5 (N:=1) rfl ?_;unfold soaR;cases h:findR z.recs z.origin 6 with
 |nil=>simp (disch:=first|omega|(simp;omega)) only [Hz9,Rl,h,xe,EVP,EV,simprocAttr]
 |cons r l=>
  have h1:¬(((l.length+1:Nat):Int)=0):=by omega
  by_cases h2:r.data.e<r.ttl<;>simp (disch:=first|omega|(simp;omega)) only [Hz9,Rl,h,h2,xe,EVP,EV,simprocAttr]
theorem Ay6 (a b:List Rec) (ha:a.length≤1000000):S ln 2 [Ag a,Ag b]=some [.b (decide (a=b))]:=by
 refine Jw8 (N:=a.length+1) rfl ?_;by_cases hl:a.length=b.length
 ·have key:Fv0.ev S (a.length+1) [Ag a,Ag b]=some (if a.drop 0=b.drop 0 then .yld 0 [] else .ret [.b false]):=by
   refine Fc a (fun i=>[.i .i64 (i:Int)]) (fun i r=>if r=b.drop i then .yld 0 [] else .ret [.b false]) rfl (by omega) (fun i c r hd hi hc=> ?_) ?_
   ·obtain ⟨y,r',hb,hd2,hd3⟩:∃y r',b[i]? =some y∧b.drop i=y::r'∧b.drop (i+1)=r':=⟨b[i]'(by omega),_,Ab (by omega),Cz (by omega),rfl⟩;rw [hd2,hd3];by_cases h:c=y
    ·subst h;left;simp (disch:=omega) only [Ax3,hc,hb,xe,EVP,EV,simprocAttr];simp
    ·right;simp (disch:=omega) only [Ax3,hc,hb,h,xe,EVP,EV,simprocAttr];simp [h,Out.goes]
   ·have hd2:b.drop a.length=[]:=J1 (by omega);rw [hd2];simp (disch:=omega) only [Ax3,xe,EVP,EV,simprocAttr];simp [Out.goes]
  simp only [D7] at key;by_cases h:a=b
  ·rw [if_pos h] at key;simp (disch:=omega) only [Ax3,key,xe,EVP,EV,simprocAttr]
   try simp [h]
  ·rw [if_neg h] at key;simp (disch:=omega) only [Ax3,key,xe,EVP,EV,simprocAttr]
   try simp [h]
 ·have h:a≠b:=fun h=>hl (by rw [h]);simp (disch:=omega) [Ax3,h,xe,EVP,EV,simprocAttr]
def zero:Dat:=⟨false,0,0,[],[],[],0,0,0,0,0,0,0⟩
def sample11:Zone:=⟨[120,46],[⟨[120,46],2,9,{zero with host:=[110,46,120,46]}⟩,⟨[120,46],6,9,{zero with host:=[110,46,120,46],mail:=[109,46,120,46],e:=5}⟩,
 ⟨[42,46,120,46],1,9,{zero with lo:=1}⟩,⟨[100,46,120,46],2,9,{zero with host:=[110,46,100,46,120,46]}⟩]⟩
theorem Bq6:S Ed5 0 []=some [sample11.pv]:=(M4 ext_mono).2 ⟨3,by kernel_rfl⟩
end Go.X.G
/- The law LookupFinds. -/
namespace Go.X.G
open Go Go.X
theorem kv:sample11.wf:=by
 have hz:zero.wf:=by constructor<;>simp [zero,Hx8,jj,W7]
 refine ⟨by simp [sample11,W7],by simp [sample11],fun r hr=> ?_⟩;simp only [sample11,Am,List.mem_nil_iff,or_false] at hr;rcases hr with rfl|rfl|rfl|rfl<;>(constructor<;>(try constructor))<;>simp [zero,Hx8,jj,W7]
end Go.X.G
/- Chains of aliases; the law LookupChases. -/
namespace Go.X
def Gf (l:List Res):PV:= .l 5 (l.map Res.pv)
theorem Ey7:PV.l 5 []=Gf []:=rfl
theorem Gh5 (x:Res):Jn 5 [x.pv]=some (Gf [x]):=rfl
theorem Ef4 (l:List Res):F4 (Gf l)=some (.i .i64 (l.length:Int)):=by simp [Gf,F4]
theorem Yj (l:List Res) (k:IntKind) (z:Int) (h:0≤z):Gt 5 (Gf l) (.i k z)=(l[z.toNat]?).map Res.pv:=by simp [Gf,Yk _ _ _ _ h]
theorem Dn2 (l:List Res) (x:Res) (h:l.length+1≤1073741824):H3 5 (Gf l) (Gf [x])=some (Gf (l++[x])):=by have:=T4 5 (l.map Res.pv) [x.pv] (by simpa using h);simpa [Gf] using this
theorem Bq1 (l:List Res):H7 (Gf l)=some (Gf l):=rfl
theorem Bz2 (l:List Res):Bs 0 (Gf l)=some (Gf l):=rfl
set_option linter.defProp false in
def O6:=(And.intro @Ey7 (And.intro @Gh5 (And.intro @Ef4 (And.intro @Yj (And.intro @Dn2 (And.intro @Bq1 @Bz2))))))
end Go.X
namespace Go.X.G
open Go Go.X
def X5 (r:Res):Bool:=(decide (r.kind=2)||decide (r.kind=3)) && decide (r.target≠[])
def Ip (z:Zone) (t:Int):Nat→List Res→List (List UInt8)→List UInt8→List Res×Bool
 |0,out,_,_=>(out,false)
 |k+1,out,seen,n=>
  if X5 (findM z ⟨n,t⟩)=false then (out++[findM z ⟨n,t⟩],true)
  else if out.length=8 then (out++[findM z ⟨n,t⟩],false)
  else if under (findM z ⟨n,t⟩).target z.origin=false then (out++[findM z ⟨n,t⟩],true)
  else if (findM z ⟨n,t⟩).target∈seen then (out++[findM z ⟨n,t⟩],false)
  else Ip z t k (out++[findM z ⟨n,t⟩]) (seen++[(findM z ⟨n,t⟩).target]) (findM z ⟨n,t⟩).target
theorem Mb (z:Zone) (t:Int) (k:Nat) (out:List Res) (seen:List (List UInt8)) (n:List UInt8):Ip z t (k+1) out seen n=
  if X5 (findM z ⟨n,t⟩)=false then (out++[findM z ⟨n,t⟩],true)
  else if out.length=8 then (out++[findM z ⟨n,t⟩],false)
  else if under (findM z ⟨n,t⟩).target z.origin=false then (out++[findM z ⟨n,t⟩],true)
  else if (findM z ⟨n,t⟩).target∈seen then (out++[findM z ⟨n,t⟩],false)
  else Ip z t k (out++[findM z ⟨n,t⟩]) (seen++[(findM z ⟨n,t⟩).target]) (findM z ⟨n,t⟩).target:=rfl
def chaseM (z:Zone) (q:Ques):List Res×Bool:=Ip z q.typ 9 [] [q.name] q.name
theorem Bv4 (n top to:List UInt8):(replN n top to).1.length≤254:=by
 unfold replN;split
 ·split
  ·split
   ·assumption
   ·simp
  ·simp
 ·simp
theorem Sv (l:List Rec) (t:Int) (h:∀r∈l,r.data.host.length≤9223372036854775807):(saysM l t).target.length≤9223372036854775807:=by
 unfold saysM;cases ha:Hz2 l t with
 |some c=>
  unfold Hz2 at ha;split at ha
  ·cases ha
  ·exact h c (List.mem_of_find?_eq_some ha)
 |none=>simp only;split<;>simp
theorem Tb (z:Zone) (q:Ques) (hz:z.wf):(findM z q).target.length≤9223372036854775807:=by
 have hh:∀n,∀r∈allR z n,r.data.host.length≤9223372036854775807:=fun n r hr=>(hz.recs.2 r (Bf.1 hr).1).data.host;unfold findM;split
 ·split
  ·simp
  ·unfold mb;cases h:Ay5 z q.name with
   |some x=>
    show x.target.length≤9223372036854775807;unfold Ay5 at h;cases h2:Gd3 z q.name with
    |none=>rw [h2] at h;cases h
    |some u=>
     rw [h2] at h;simp only [A3,Ak] at h;rw [←h];unfold Sf;split
     ·rename_i r rest _;have:=Bv4 q.name u r.data.host;simp only [W8];split
      ·simp
      ·omega
     ·simp
   |none=>
    simp only;split
    ·exact Sv _ _ (hh _)
    ·unfold Z8;split
     ·simp only [B8];refine Sv _ _ fun r hr=> ?_;obtain ⟨x,hx,rfl⟩:=Dd.1 hr;exact hh _ x hx
     ·simp
 ·simp
theorem En1 (z:Zone) (q:Ques) (hz:z.wf) (hl:z.recs.length≤1000) (hq:q.name.length≤9223372036854775807):S Bm8 2 [z.pv,q.pv]=some [Gf (chaseM z q).1, .b (chaseM z q).2]:=by
 refine Jx0 (N:=1000) rfl ?_;have g1:=hz.origin;unfold W7 at g1;have key:Fv2.ev S 1000 [z.pv,q.pv]=some (.ret [Gf (chaseM z q).1, .b (chaseM z q).2]):=by
  refine Jm (α:=List Res×List (List UInt8)×List UInt8) (fun a=>[Gf a.1,Bg a.2.1, .s a.2.2]) (fun a=> .ret [Gf (Ip z q.typ (9 - a.1.length) a.1 a.2.1 a.2.2).1, .b (Ip z q.typ (9 - a.1.length) a.1 a.2.1 a.2.2).2])
   (fun a=>a.1.length≤8∧a.2.1.length≤100∧a.2.1.length=a.1.length+1∧a.2.2.length≤9223372036854775807) (fun a=>9 - a.1.length) ([],[q.name],q.name) ?_ ⟨by simp,by simp,by simp,hq⟩ (by simp) ?_
  ·simp (disch:=omega) only [EVM,EVC,EVR,O6,xe,EVP,EV,simprocAttr]
  ·rintro ⟨out,seen,n⟩ ⟨i1,i2,i3,i4⟩;simp only at i1 i2 i3 i4 ⊢;have hk:9 - out.length=(8 - out.length)+1:=by omega
   have k1:=Gm7 z ⟨n,q.typ⟩ hz hl i4;have tt:=Tb z ⟨n,q.typ⟩ hz;rw [hk,Mb];generalize hr:findM z ⟨n,q.typ⟩=r at*;have k2:=F7 r.target z.origin tt g1;have k3:=Jw seen r.target (by omega);rcases Aq (X5 r) with h1|h1
   ·rw [if_neg (by simp [h1])];have h1':=h1;unfold X5 at h1';simp only [Aw,An,decide_eq_true_eq,ne_eq] at h1';obtain ⟨h2,h3⟩:=h1';have h4:¬(r.kind≠2∧r.kind≠3):=by omega
    by_cases h5:out.length=8
    ·right;rw [if_pos h5];have h6:((out++[r]).length:Int)=9:=by simp;omega
     refine ⟨?_,rfl⟩;rcases h2 with h2|h2<;>simp (disch:=omega) only [Z3,k1,h2,h3,h6,EVM,EVC,EVR,O6,xe,EVP,EV,simprocAttr]
    ·rw [if_neg h5];have h6:¬((out++[r]).length:Int)=9:=by simp;omega
     rcases Aq (under r.target z.origin) with h7|h7
     ·rw [if_neg (by simp [h7])];rw [h7] at k2;by_cases h8:r.target∈seen
      ·right;rw [if_pos h8];refine ⟨?_,rfl⟩;rcases h2 with h2|h2<;>simp (disch:=omega) only [Z3,k1,k2,k3,h2,h3,h6,h8,EVM,EVC,EVR,O6,xe,EVP,EV,simprocAttr]
      ·left;rw [if_neg h8];refine ⟨(out++[r],seen++[r.target],r.target),?_,⟨by simp only [Ay,Df];omega,by simp only [Ay,Df];omega,by simp only [Ay,Df];omega,tt⟩,by simp only [Ay,Df];omega,?_⟩
       ·rcases h2 with h2|h2<;>simp (disch:=omega) only [Z3,k1,k2,k3,h2,h3,h6,h8,EVM,EVC,EVR,O6,xe,EVP,EV,simprocAttr]
       ·have:9 - (out++[r]).length=8 - out.length:=by rw [Ay,Df];omega
        simp only [this]
     ·right;rw [if_pos h7];rw [h7] at k2;refine ⟨?_,rfl⟩;rcases h2 with h2|h2<;>simp (disch:=omega) only [Z3,k1,k2,h2,h3,h6,EVM,EVC,EVR,O6,xe,EVP,EV,simprocAttr]
   ·right;rw [if_pos h1];unfold X5 at h1;refine ⟨?_,rfl⟩;by_cases h2:r.kind=2
    ·have h3:r.target=[]:=by simpa [h2] using h1
     simp (disch:=omega) only [Z3,k1,h2,h3,EVM,EVC,EVR,O6,xe,EVP,EV,simprocAttr]
    ·by_cases h3:r.kind=3
     ·have h4:r.target=[]:=by simpa [h3] using h1
      simp (disch:=omega) only [Z3,k1,h3,h4,EVM,EVC,EVR,O6,xe,EVP,EV,simprocAttr]
     ·simp (disch:=omega) only [Z3,k1,h2,h3,EVM,EVC,EVR,O6,xe,EVP,EV,simprocAttr]
 simp (disch:=omega) only [Z3,key,EVM,EVC,EVR,O6,xe,EVP,EV,simprocAttr]
theorem P2 (P:Res→Prop) (z:Zone) (t:Int) (h:∀n,P (findM z ⟨n,t⟩)):∀(k:Nat) (out:List Res) (seen:List (List UInt8)) (n:List UInt8),(∀r∈out,P r)→∀r∈(Ip z t k out seen n).1,P r
 |0,out,seen,n,ho=>ho
 |k+1,out,seen,n,ho=>by
  have ho':∀r∈out++[findM z ⟨n,t⟩],P r:=fun r hr=>by
   rcases Bn.1 hr with hr|hr
   ·exact ho r hr
   ·rw [B5.1 hr];exact h n
  unfold Ip;split
  ·exact ho'
  ·split
   ·exact ho'
   ·split
    ·exact ho'
    ·split
     ·exact ho'
     ·exact P2 P z t h k _ _ _ ho'
theorem Wc (z:Zone) (t:Int):∀(k:Nat) (out:List Res) (seen:List (List UInt8)) (n:List UInt8),(Ip z t k out seen n).1.length≤out.length+k
 |0,out,seen,n=>by simp [Ip]
 |k+1,out,seen,n=>by
  unfold Ip;have hl:(out++[findM z ⟨n,t⟩]).length=out.length+1:=by simp
  split
  ·simp only;omega
  ·split
   ·simp only;omega
   ·split
    ·simp only;omega
    ·split
     ·simp only;omega
     ·have:=Wc z t k (out++[findM z ⟨n,t⟩]) (seen++[(findM z ⟨n,t⟩).target]) (findM z ⟨n,t⟩).target;omega
end Go.X.G
/- Responses: what the parts of one are. -/
namespace Go.X.G
open Go Go.X
def replyM (m:Msg) (code:Int):Msg:=⟨m.id,m.op,code,true,false,false,m.rd,false,false,m.cd,m.dok,if m.size≠0 then 1232 else 0,m.q,[],[],[]⟩
theorem Bv3 (m:Msg) (code:Int):S dj 2 [m.pv, .i .i64 code]=some [(replyM m code).pv]:=by
 refine Jv7 (N:=1) rfl ?_;unfold replyM;by_cases h:m.size=0
 ·simp (disch:=omega) only [Hz7,h,EVM,EVC,EVR,xe,EVP,EV,simprocAttr]
  try simp
 ·simp (disch:=omega) only [Hz7,h,EVM,EVC,EVR,xe,EVP,EV,simprocAttr]
  try simp
def It8 (t:Int):Bool:=decide (t=2)||decide (t=15)||decide (t=33)
def hostsF (out:List (List UInt8)):List Rec→List (List UInt8)
 |[]=>out
 |r::rs=>if It8 r.typ=true∧r.data.host∉out then hostsF (out++[r.data.host]) rs else hostsF out rs
theorem Mq:∀(l:List Rec) (out:List (List UInt8)),(hostsF out l).length≤out.length+l.length
 |[],out=>by simp [hostsF]
 |r::rs,out=>by
  simp only [hostsF];split
  ·have:=Mq rs (out++[r.data.host]);rw [Ay,Df] at this;rw [As];omega
  ·have:=Mq rs out;rw [As];omega
theorem M9:∀(l:List Rec) (out:List (List UInt8)),(∀r∈l,r.wf)→(∀h∈out,h.length≤9223372036854775807)→∀h∈hostsF out l,h.length≤9223372036854775807
 |[],out,_,ho=>ho
 |r::rs,out,hl,ho=>by
  simp only [hostsF];split
  ·refine M9 rs _ (fun x hx=>hl x (.tail _ hx)) fun h hh=> ?_;rcases Bn.1 hh with hh|hh
   ·exact ho h hh
   ·rw [B5.1 hh];exact (hl r (.head _)).data.host
  ·exact M9 rs _ (fun x hx=>hl x (.tail _ hx)) ho
theorem Cj5 (l:List Rec) (hl:l.length≤1000):S Af9 1 [Ag l]=some [Bg (hostsF [] l)]:=by
 refine Jv5 (N:=2000) rfl ?_;have key:Fq3.ev S 2000 [Ag l]=some (.yld 0 [Bg (hostsF [] l)]):=by
  refine Fx l (fun i (g:List (List UInt8))=>[Bg g, .i .i64 (i:Int)]) (fun i g r=> .yld 0 [Bg (hostsF g r)]) (fun i g=>g.length≤i) [] rfl (Cl _) (by omega) (fun i g c r hd hi hc hI=> ?_) (fun g hI=> ?_)
  ·left;have k1:=Jw g c.data.host (by omega);refine ⟨if It8 c.typ=true∧c.data.host∉g then g++[c.data.host] else g,?_,by split<;>(try rw [Ay,Df])<;>omega,?_⟩
   ·unfold It8;by_cases h4:c.data.host∈g
    ·by_cases h1:c.typ=2
     ·simp (disch:=omega) only [Uv,hc,h1,h4,k1,EVM,EVC,EVR,xe,EVP,EV,simprocAttr];simp
     ·by_cases h2:c.typ=15
      ·simp (disch:=omega) only [Uv,hc,h2,h4,k1,EVM,EVC,EVR,xe,EVP,EV,simprocAttr];simp
      ·by_cases h3:c.typ=33
       ·simp (disch:=omega) only [Uv,hc,h3,h4,k1,EVM,EVC,EVR,xe,EVP,EV,simprocAttr];simp
       ·simp (disch:=omega) only [Uv,hc,h1,h2,h3,k1,EVM,EVC,EVR,xe,EVP,EV,simprocAttr];simp [h4]
    ·by_cases h1:c.typ=2
     ·simp (disch:=omega) only [Uv,hc,h1,h4,k1,EVM,EVC,EVR,xe,EVP,EV,simprocAttr];simp
     ·by_cases h2:c.typ=15
      ·simp (disch:=omega) only [Uv,hc,h2,h4,k1,EVM,EVC,EVR,xe,EVP,EV,simprocAttr];simp
      ·by_cases h3:c.typ=33
       ·simp (disch:=omega) only [Uv,hc,h3,h4,k1,EVM,EVC,EVR,xe,EVP,EV,simprocAttr];simp
       ·simp (disch:=omega) only [Uv,hc,h1,h2,h3,k1,EVM,EVC,EVR,xe,EVP,EV,simprocAttr];simp
   ·simp only [hostsF];split<;>rfl
  ·simp (disch:=omega) only [Uv,EVM,EVC,EVR,xe,EVP,EV,simprocAttr]
   try simp [Out.goes,hostsF]
 simp (disch:=omega) only [Uv,key,EVM,EVC,EVR,xe,EVP,EV,simprocAttr]
def An0 (z:Zone) (h:List UInt8):List Rec:=findR z.recs h 1++findR z.recs h 28
theorem Aw5 (z:Zone) (h:List UInt8):(An0 z h).length≤2*z.recs.length:=by have h1:=G0 z h 1;have h2:=G0 z h 28;unfold An0;rw [Ay];omega
def An7 (z:Zone) (h:List UInt8):List Rec:=if cutN z h=[] then [] else An0 z h
theorem Eh4 (z:Zone) (h:List UInt8):(An7 z h).length≤2*z.recs.length:=by
 unfold An7;split
 ·simp
 ·exact Aw5 z h
theorem Zx (z:Zone) (hs:List (List UInt8)) (hl:z.recs.length≤60) (hh:hs.length≤1000):S Bl3 2 [z.pv,Bg hs]=some [Ag (hs.flatMap (An0 z))]:=by
 refine Jv4 (N:=2000) rfl ?_;have key:Fq2.ev S 2000 [z.pv,Bg hs]=some (.yld 0 [Ag ([]++hs.flatMap (An0 z))]):=by
  refine Fx hs (fun i (g:List Rec)=>[Ag g, .i .i64 (i:Int)]) (fun i g r=> .yld 0 [Ag (g++r.flatMap (An0 z))]) (fun i g=>g.length≤120*i) [] rfl (Cl _) (by omega) (fun i g c r hd hi hc hI=> ?_) (fun g hI=> ?_)
  ·left;have k1:=Lr z c 1 (by omega);have k2:=Lr z c 28 (by omega);have h1:=G0 z c 1;have h2:=G0 z c 28;refine ⟨g++findR z.recs c 1++findR z.recs c 28,?_,by rw [Ay,Ay];omega,by simp [An0]⟩;generalize findR z.recs c 1=f1 at*;generalize findR z.recs c 28=f2 at*;have a1:=Iq g f1 (by omega);have a2:=Iq (g++f1) f2 (by rw [Ay];omega);simp (disch:=omega) only [Gy3,hc,k1,k2,a1,a2,EVM,EVC,EVR,xe,EVP,EV,simprocAttr]
  ·simp (disch:=omega) only [Gy3,EVM,EVC,EVR,xe,EVP,EV,simprocAttr]
   try simp [Out.goes]
 rw [Cv] at key;generalize hs.flatMap (An0 z)=fm at*;simp (disch:=omega) only [Gy3,key,EVM,EVC,EVR,xe,EVP,EV,simprocAttr]
theorem Ds1 (z:Zone) (hs:List (List UInt8)) (hz:z.wf) (hl:z.recs.length≤60) (hh:hs.length≤1000) (hw:∀h∈hs,h.length≤9223372036854775807):S Bl4 2 [z.pv,Bg hs]=some [Ag (hs.flatMap (An7 z))]:=by
 refine Jv6 (N:=2000) rfl ?_;have key:Fq4.ev S 2000 [z.pv,Bg hs]=some (.yld 0 [Ag ([]++hs.flatMap (An7 z))]):=by
  refine Fx hs (fun i (g:List Rec)=>[Ag g, .i .i64 (i:Int)]) (fun i g r=> .yld 0 [Ag (g++r.flatMap (An7 z))]) (fun i g=>g.length≤120*i) [] rfl (Cl _) (by omega) (fun i g c r hd hi hc hI=> ?_) (fun g hI=> ?_)
  ·left;have k0:=Ar0 z c hz (by omega) (hw c (Bv hc));have k1:=Lr z c 1 (by omega);have k2:=Lr z c 28 (by omega);have h1:=G0 z c 1;have h2:=G0 z c 28;by_cases h3:cutN z c=[]
   ·refine ⟨g,?_,by omega,by simp [An7,h3]⟩;rw [h3] at k0;simp (disch:=omega) only [Ds8,hc,k0,ne_eq,not_true,decide_false,EVM,EVC,EVR,xe,EVP,EV,simprocAttr]
   ·refine ⟨g++findR z.recs c 1++findR z.recs c 28,?_,by rw [Ay,Ay];omega,by simp [An0,An7,h3]⟩;have h4:decide (cutN z c≠[])=true:=by simp [h3]
    rw [h4] at k0;generalize findR z.recs c 1=f1 at*;generalize findR z.recs c 28=f2 at*;have a1:=Iq g f1 (by omega);have a2:=Iq (g++f1) f2 (by rw [Ay];omega);simp (disch:=omega) only [Ds8,hc,k0,k1,k2,a1,a2,EVM,EVC,EVR,xe,EVP,EV,simprocAttr]
  ·simp (disch:=omega) only [Ds8,EVM,EVC,EVR,xe,EVP,EV,simprocAttr]
   try simp [Out.goes]
 rw [Cv] at key;generalize hs.flatMap (An7 z)=fm at*;simp (disch:=omega) only [Ds8,key,EVM,EVC,EVR,xe,EVP,EV,simprocAttr]
end Go.X.G
