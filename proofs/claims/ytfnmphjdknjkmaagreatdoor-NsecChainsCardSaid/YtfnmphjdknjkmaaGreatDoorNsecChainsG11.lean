/- Questions and messages. -/
import Derived.Test.YtfnmphjdknjkmaaGreatDoorNsecChainsG10
import Derived.Test.YtfnmphjdknjkmaaGreatDoorNsecChainsG9
open Bool renaming eq_false_or_eq_true→Bl,and_eq_true→Br,false_eq_true→B5,or_eq_true→Cy,not_eq_true'→Cg,eq_iff_iff→D9,not_eq_false→Hm,false_or→Ks,not_true→Nf,true_and→Uj,and_true→Uk
open Classical renaming not_not→Hl
open Int renaming lt_irrefl→Ak0
open List renaming getElem?_eq_some_iff→Bp,getElem?_eq_getElem→Bs,length_append→B3,mem_cons→Cj,mem_of_getElem?→Ck,length_take→Cq,length_cons→Cv,append_assoc→Cw,pairwise_cons→Cd,length_pos_iff→Cl,getElem?_drop→Cm,all_eq_true→C0,length_nil→C3,getElem?_map→C4,length_drop→C7,mem_filter→C8,take_append_drop→C9,mem_append_right→Dj,mem_append→Dw,drop_eq_getElem_cons→Dy,any_eq_true→Dz,nil_append→Dc,cons_append→Dd,take_add_one→Df,getElem?_cons_zero→Dh,getElem?_range→Dp,mem_append_left→D1,drop_drop→D5,length_map→D8,length_filter_le→Ef,take_length→Es,getElem?_cons_succ→E1,getElem_mem→Fv,drop_zero→Fx,mem_map→Fc,filter_append→F1,suffix_iff_eq_drop→G1,pairwise_append→G3,mem_range→G4,drop_eq_nil_of_le→Hz,exists_mem_of_ne_nil→Hb,map_cons→H4,flatMap_cons→Jv,cons_prefix_cons→J7,getLast_eq_getElem→Lt,getElem?_eq_none_iff→Q4,drop_set_of_lt→W1,getElem?_set_self→jw,length_mergeSort→Ak6,getElem_take→As0,take_succ_cons→Gy1,reverse_prefix→Gy2,map_append→It5,map_mergeSort→Jk4,findIdx?_cons→Jk5
open Nat renaming le_refl→B7,zero_le→Db,le_trans→En,add_zero→E7,zero_add→F5,min_eq_left→Mq,lt_succ_self→Xm
open Option renaming map_eq_some_iff→Bt,bind_some→B0,map_some→Cf,isSome_none→jk
open Option.some renaming injEq→Bn
set_option maxHeartbeats 1000000
set_option linter.defProp false
set_option linter.unusedVariables false
set_option linter.unusedSimpArgs false
namespace Go.X
open Go
structure Ques where
 name:List UInt8
 typ:Int
 deriving DecidableEq
structure Msg where
 id:Int
 op:Int
 code:Int
 resp:Bool
 aa:Bool
 tc:Bool
 rd:Bool
 ra:Bool
 ad:Bool
 cd:Bool
 dok:Bool
 size:Int
 q:Ques
 ans:List Rec
 auth:List Rec
 ext:List Rec
 deriving DecidableEq
structure Ques.wf (x:Ques):Prop where
 name:Lh x.name
 typ:Wc x.typ
structure Msg.wf (m:Msg):Prop where
 id:Wc m.id
 op:Wc m.op
 code:Wc m.code
 size:Wc m.size
 q:m.q.wf
 ans:Dq7 m.ans
 auth:Dq7 m.auth
 ext:Dq7 m.ext
def Ques.cells (x:Ques):List PV:=[.s x.name,.i .i64 x.typ]
def Ques.pv (x:Ques):PV:= .a x.cells
def Msg.cells (m:Msg):List PV:= .i .i64 m.id:: .i .i64 m.op:: .i .i64 m.code:: .b m.resp:: .b m.aa:: .b m.tc:: .b m.rd:: .b m.ra:: .b m.ad:: .b m.cd:: .b m.dok:: .i .i64 m.size:: .s m.q.name:: .i .i64 m.q.typ::B6 m.ans::B6 m.auth::B6 m.ext::[]
def Msg.pv (m:Msg):PV:= .a m.cells
def Db8 (m:Msg):Dk 0 m.pv=some (.i .i64 m.id):=rfl
def Db7 (m:Msg):Dk 1 m.pv=some (.i .i64 m.op):=rfl
def Db6 (m:Msg):Dk 2 m.pv=some (.i .i64 m.code):=rfl
def Db5 (m:Msg):Dk 3 m.pv=some (.b m.resp):=rfl
def Db4 (m:Msg):Dk 4 m.pv=some (.b m.aa):=rfl
def Db3 (m:Msg):Dk 5 m.pv=some (.b m.tc):=rfl
def Db2 (m:Msg):Dk 6 m.pv=some (.b m.rd):=rfl
def Db1 (m:Msg):Dk 7 m.pv=some (.b m.ra):=rfl
def Db0 (m:Msg):Dk 8 m.pv=some (.b m.ad):=rfl
def Dz9 (m:Msg):Dk 9 m.pv=some (.b m.cd):=rfl
def Cx1 (m:Msg):Dk 10 m.pv=some (.b m.dok):=rfl
def Cx0 (m:Msg):Dk 11 m.pv=some (.i .i64 m.size):=rfl
def Cw9 (m:Msg):Dk 12 m.pv=some (.s m.q.name):=rfl
def Cw8 (m:Msg):Dk 13 m.pv=some (.i .i64 m.q.typ):=rfl
def Cw7 (m:Msg):Dk 14 m.pv=some (B6 m.ans):=rfl
def Cw6 (m:Msg):Dk 15 m.pv=some (B6 m.auth):=rfl
def Cw5 (m:Msg):Dk 16 m.pv=some (B6 m.ext):=rfl
def Gc5 (m:Msg):My 0 17 m.pv=some m.pv:=rfl
def Gn2 (m:Msg):Wd 17 m.pv=some m.pv:=rfl
def Dj0 (m:Msg):My 12 2 m.pv=some m.q.pv:=rfl
def Jx6 (x:Ques):My 0 2 x.pv=some x.pv:=rfl
def Kq7 (x:Ques):Wd 2 x.pv=some x.pv:=rfl
def Gf8 (x:Ques):Dk 0 x.pv=some (.s x.name):=rfl
def Gf7 (x:Ques):Dk 1 x.pv=some (.i .i64 x.typ):=rfl
def Kq (n:List UInt8) (t:Int):PV.a [.s n,.i .i64 t]=Ques.pv ⟨n,t⟩:=rfl
def Kv3 (x:Ques):(⟨x.name,x.typ⟩:Ques)=x:=rfl
def Fg4 (x0 x1 x2:Int) (b0 b1 b2 b3 b4 b5 b6 b7:Bool) (x3:Int) (n:List UInt8) (t:Int) (l0 l1 l2:List Rec):PV.a [.i .i64 x0,.i .i64 x1,.i .i64 x2,.b b0,.b b1,.b b2,.b b3,.b b4,.b b5,.b b6,.b b7,.i .i64 x3,.s n,.i .i64 t,B6 l0,B6 l1,B6 l2]=Msg.pv ⟨x0,x1,x2,b0,b1,b2,b3,b4,b5,b6,b7,x3,⟨n,t⟩,l0,l1,l2⟩:=rfl
def Kx4 (neg:Bool) (x y:Ques):N4 neg true [.s,(.i .i64)] x.pv y.pv=some (.b (if neg then decide (x≠y) else decide (x=y))):=by
 have:Ih [.s,(.i .i64)] x.cells y.cells=some (decide (x=y)):=by simp only[Ques.cells,Ih,El8,if_true,Bn];rw[D9];cases x;cases y;simp
 simp only[N4,Ques.pv,this,Cf];cases neg<;>simp
set_option linter.defProp false in
def EVM:=(And.intro @Db8 (And.intro @Db7 (And.intro @Db6 (And.intro @Db5 (And.intro @Db4 (And.intro @Db3 (And.intro @Db2 (And.intro @Db1 (And.intro @Db0 (And.intro @Dz9 (And.intro @Cx1 (And.intro @Cx0 (And.intro @Cw9 (And.intro @Cw8 (And.intro @Cw7 (And.intro @Cw6 (And.intro @Cw5 (And.intro @Gc5 (And.intro @Gn2 (And.intro @Dj0 (And.intro @Jx6 (And.intro @Kq7 (And.intro @Gf8 (And.intro @Gf7 (And.intro @Kq (And.intro @Kv3 (And.intro @Fg4 @Kx4)))))))))))))))))))))))))))
end Go.X
/- Closures and sets of strings, evaluated. -/
namespace Go.X
open Go
def Jj9 (fn:Fns) (η:List PV) (fl:Bool) (ar:List E) (m:Nat):PV→Option (List PV)
 | .f f caps=>(E.evs η ar).bind fun vs=>results fl m η (fn f vs.length (vs++caps))
 |_=>none
def At2 {fn:Fns} {η:List PV} (fl:Bool) (c:E) (ar:List E) (m:Nat):W.ev fn η (.clo none fl c ar m)=(c.ev η).bind (Jj9 fn η fl ar m):=by
 rw[Gz8];congr 1;funext q;cases q with
 |f f caps=>rfl
 |_=>cases h:E.evs η ar<;>rfl
def Is4 {fn:Fns} {η:List PV} (fl:Bool) (ar:List E) (m:Nat) (f:Nat) (caps:List PV):Jj9 fn η fl ar m (.f f caps)=(E.evs η ar).bind fun vs=>results fl m η (fn f vs.length (vs++caps)):=rfl
def Ik3 (f:Nat) (caps:List PV):Dk 0 (.f f caps)=some (.f f caps):=rfl
def Hd3 (f:Nat) (caps:List PV):Lw (.f f caps)=some (.f f caps):=rfl
def Qh (ks:List (List UInt8)):PV:= .m (ks.map fun k=>(.s k,.b true))
def Gd8:PV.m []=Qh []:=rfl
def Fy9 (ks:List (List UInt8)):Dk 0 (Qh ks)=some (Qh ks):=rfl
def Fx0 (ks:List (List UInt8)):Lw (Qh ks)=some (Qh ks):=rfl
def xh (k:List UInt8):∀ks:List (List UInt8),l6 (.s k) (ks.map fun k=>(.s k,.b true))=some (if k∈ks then some (.b true) else none)
 |[]=>by simp[l6]
 |x::ks=>by
  simp only[H4,l6,yv];by_cases h:k=x
  ·subst h;simp
  ·have h2:(k==x)=false:=by simpa using h
   rw[h2];simp only[xh k ks,Cj,h,false_or]
def Bg8 (k:List UInt8):∀ks:List (List UInt8),Ft2 (.s k) (.b true) (ks.map fun k=>(.s k,.b true))=some ((if k∈ks then ks else ks++[k]).map fun k=>(.s k,.b true))
 |[]=>by simp[Ft2]
 |x::ks=>by
  simp only[H4,Ft2,yv];by_cases h:k=x
  ·subst h;simp
  ·have h2:(k==x)=false:=by simpa using h
   rw[h2];simp only[Bg8 k ks,Cj,h,false_or,Cf];by_cases h3:k∈ks<;>simp[h3]
def Fc4 (k:List UInt8) (ks:List (List UInt8)):xg (Qh ks) (.s k) (.b false)=some (.b (decide (k∈ks))):=by simp only[xg,Qh,Ek4,if_true,xh,Cf];by_cases h:k∈ks<;>simp[h]
def Fc2 (k:List UInt8) (ks:List (List UInt8)):xy (Qh ks) (.s k) (.b true)=some (Qh (if k∈ks then ks else ks++[k])):=by simp only[xy,Qh,Ek4,if_true,Bg8,Cf]
def Dn2 (a b:List Rec):Lr 1 [B6 a,B6 b]=some (.l 1 ([a,b].map B6)):=rfl
def Is3 (fn:Fns) (η:List PV) (fl:Bool) (c:E) (ar:List E) (m:Nat):PV→Option (List PV)
 | .b true=>(c.ev η).bind (Jj9 fn η fl ar m)
 | .b false=>some (η++List.replicate m .u)
 |_=>none
def L1 {fn:Fns} {η:List PV} (g:E) (fl:Bool) (c:E) (ar:List E) (m:Nat):W.ev fn η (.clo (some g) fl c ar m)=(g.ev η).bind (Is3 fn η fl c ar m):=by
 have h:=At2 (fn:=fn) (η:=η) fl c ar m;simp only[W.ev,Gt] at h ⊢;congr 1;funext q;cases q with
 |b x=>cases x with
  |true=>exact h
  |false=>rfl
 |_=>rfl
def Pq (fn:Fns) (η:List PV) (fl:Bool) (c:E) (ar:List E) (m:Nat) (x:Bool):Is3 fn η fl c ar m (.b x)=if x=true then(c.ev η).bind (Jj9 fn η fl ar m) else some (η++List.replicate m .u):=by cases x<;>rfl
set_option linter.defProp false in
def EVC:=(And.intro @At2 (And.intro @Is4 (And.intro @Ik3 (And.intro @Hd3 (And.intro @Gd8 (And.intro @Fy9 (And.intro @Fx0 (And.intro @Fc4 (And.intro @Fc2 @Dn2)))))))))
end Go.X
/- Addresses and tasks. -/
namespace Go.X
structure Adr where
 v6:Bool
 hi:Int
 lo:Int
 deriving DecidableEq
structure Tk where
 q:Ques
 name:List UInt8
 zone:List UInt8
 hosts:List (List UInt8)
 addrs:List Adr
 tried:List Adr
 state:Int
 more:Int
 dst:Adr
 asked:Ques
 sent:Int
 chain:List Rec
 last:Msg
 err:Int
def Adr.pv (x:Adr):PV:= .a [.b x.v6,.i .u64 x.hi,.i .u64 x.lo]
def Hk (l:List Adr):PV:= .l 3 (l.map Adr.pv)
def Dat.adr (d:Dat):Adr:=⟨d.v6,d.hi,d.lo⟩
def Tk.cells (t:Tk):List PV:=[.s t.q.name,.i .i64 t.q.typ,.s t.name,.s t.zone,Cn t.hosts,Hk t.addrs,Hk t.tried,.i .i64 t.state,.i .i64 t.more,.b t.dst.v6,.i .u64 t.dst.hi,.i .u64 t.dst.lo,.s t.asked.name,.i .i64 t.asked.typ,.i .i64 t.sent,B6 t.chain,.i .i64 t.last.id,.i .i64 t.last.op,.i .i64 t.last.code,.b t.last.resp,.b t.last.aa,.b t.last.tc,.b t.last.rd,.b t.last.ra,.b t.last.ad,.b t.last.cd,.b t.last.dok,.i .i64 t.last.size,.s t.last.q.name,.i .i64 t.last.q.typ,B6 t.last.ans,B6 t.last.auth,B6 t.last.ext,.i .i64 t.err]
def Tk.pv (t:Tk):PV:= .a t.cells
def Fy8 (t:Tk):Dk 0 t.pv=some (.s t.q.name):=rfl
def Fy7 (t:Tk):Dk 1 t.pv=some (.i .i64 t.q.typ):=rfl
def Fy6 (t:Tk):Dk 2 t.pv=some (.s t.name):=rfl
def Fy5 (t:Tk):Dk 3 t.pv=some (.s t.zone):=rfl
def Fy4 (t:Tk):Dk 4 t.pv=some (Cn t.hosts):=rfl
def Fy3 (t:Tk):Dk 5 t.pv=some (Hk t.addrs):=rfl
def Fy2 (t:Tk):Dk 6 t.pv=some (Hk t.tried):=rfl
def Fy1 (t:Tk):Dk 7 t.pv=some (.i .i64 t.state):=rfl
def Fy0 (t:Tk):Dk 8 t.pv=some (.i .i64 t.more):=rfl
def Fx9 (t:Tk):Dk 9 t.pv=some (.b t.dst.v6):=rfl
def Dy1 (t:Tk):Dk 10 t.pv=some (.i .u64 t.dst.hi):=rfl
def Dy0 (t:Tk):Dk 11 t.pv=some (.i .u64 t.dst.lo):=rfl
def Dx9 (t:Tk):Dk 12 t.pv=some (.s t.asked.name):=rfl
def Dx8 (t:Tk):Dk 13 t.pv=some (.i .i64 t.asked.typ):=rfl
def Dx7 (t:Tk):Dk 14 t.pv=some (.i .i64 t.sent):=rfl
def Dx6 (t:Tk):Dk 15 t.pv=some (B6 t.chain):=rfl
def Dx5 (t:Tk):Dk 16 t.pv=some (.i .i64 t.last.id):=rfl
def Dx4 (t:Tk):Dk 17 t.pv=some (.i .i64 t.last.op):=rfl
def Dx3 (t:Tk):Dk 18 t.pv=some (.i .i64 t.last.code):=rfl
def Dx2 (t:Tk):Dk 19 t.pv=some (.b t.last.resp):=rfl
def Dx1 (t:Tk):Dk 20 t.pv=some (.b t.last.aa):=rfl
def Dx0 (t:Tk):Dk 21 t.pv=some (.b t.last.tc):=rfl
def Dw9 (t:Tk):Dk 22 t.pv=some (.b t.last.rd):=rfl
def Dw8 (t:Tk):Dk 23 t.pv=some (.b t.last.ra):=rfl
def Dw7 (t:Tk):Dk 24 t.pv=some (.b t.last.ad):=rfl
def Dw6 (t:Tk):Dk 25 t.pv=some (.b t.last.cd):=rfl
def Dw5 (t:Tk):Dk 26 t.pv=some (.b t.last.dok):=rfl
def Dw4 (t:Tk):Dk 27 t.pv=some (.i .i64 t.last.size):=rfl
def Dw3 (t:Tk):Dk 28 t.pv=some (.s t.last.q.name):=rfl
def Dw2 (t:Tk):Dk 29 t.pv=some (.i .i64 t.last.q.typ):=rfl
def Dw1 (t:Tk):Dk 30 t.pv=some (B6 t.last.ans):=rfl
def Dw0 (t:Tk):Dk 31 t.pv=some (B6 t.last.auth):=rfl
def Dv9 (t:Tk):Dk 32 t.pv=some (B6 t.last.ext):=rfl
def Dv8 (t:Tk):Dk 33 t.pv=some (.i .i64 t.err):=rfl
def Hb9 (t:Tk):My 0 34 t.pv=some t.pv:=rfl
def Im8 (t:Tk):Wd 34 t.pv=some t.pv:=rfl
def Cj8 (t:Tk):My 9 3 t.pv=some t.dst.pv:=rfl
def q9 (t:Tk):My 12 2 t.pv=some t.asked.pv:=rfl
def Fv6 (t:Tk):My 0 2 t.pv=some t.q.pv:=rfl
def Av7 (t:Tk):My 16 17 t.pv=some t.last.pv:=rfl
def Gm8 (x0:List UInt8) (x1:Int) (x2:List UInt8) (x3:List UInt8) (x4:List (List UInt8)) (x5:List Adr) (x6:List Adr) (x7:Int) (x8:Int) (x9:Bool) (x10:Int) (x11:Int) (x12:List UInt8) (x13:Int) (x14:Int) (x15:List Rec) (x16:Int) (x17:Int) (x18:Int) (x19:Bool) (x20:Bool) (x21:Bool) (x22:Bool) (x23:Bool) (x24:Bool) (x25:Bool) (x26:Bool) (x27:Int) (x28:List UInt8) (x29:Int) (x30:List Rec) (x31:List Rec) (x32:List Rec) (x33:Int):PV.a [.s x0,.i .i64 x1,.s x2,.s x3,Cn x4,Hk x5,Hk x6,.i .i64 x7,.i .i64 x8,.b x9,.i .u64 x10,.i .u64 x11,.s x12,.i .i64 x13,.i .i64 x14,B6 x15,.i .i64 x16,.i .i64 x17,.i .i64 x18,.b x19,.b x20,.b x21,.b x22,.b x23,.b x24,.b x25,.b x26,.i .i64 x27,.s x28,.i .i64 x29,B6 x30,B6 x31,B6 x32,.i .i64 x33]=Tk.pv ⟨⟨x0,x1⟩,x2,x3,x4,x5,x6,x7,x8,⟨x9,x10,x11⟩,⟨x12,x13⟩,x14,x15,⟨x16,x17,x18,x19,x20,x21,x22,x23,x24,x25,x26,x27,⟨x28,x29⟩,x30,x31,x32⟩,x33⟩:=rfl
def Ip7 (t:Tk):(⟨t.q,t.name,t.zone,t.hosts,t.addrs,t.tried,t.state,t.more,t.dst,t.asked,t.sent,t.chain,t.last,t.err⟩:Tk)=t:=rfl
def Gp7 (m:Msg):(⟨m.id,m.op,m.code,m.resp,m.aa,m.tc,m.rd,m.ra,m.ad,m.cd,m.dok,m.size,m.q,m.ans,m.auth,m.ext⟩:Msg)=m:=rfl
def Gp8 (x:Adr):(⟨x.v6,x.hi,x.lo⟩:Adr)=x:=rfl
def It0 (d:Dat):Lg d=d.adr.pv:=rfl
def Fg5 (v:Bool) (h l:Int):PV.a [.b v,.i .u64 h,.i .u64 l]=Adr.pv ⟨v,h,l⟩:=rfl
def Hk0 (d:Dat):(⟨d.v6,d.hi,d.lo⟩:Adr)=d.adr:=rfl
def Gc7 (x:Adr):My 0 3 x.pv=some x.pv:=rfl
def Gn4 (x:Adr):Wd 3 x.pv=some x.pv:=rfl
def Dd2 (x:Adr):Dk 0 x.pv=some (.b x.v6):=rfl
def Dd1 (x:Adr):Dk 1 x.pv=some (.i .u64 x.hi):=rfl
def Dd0 (x:Adr):Dk 2 x.pv=some (.i .u64 x.lo):=rfl
def Fg8 (x:Adr):PV.flat x.pv=true:=rfl
def Fn0:PV.l 3 []=Hk []:=rfl
def Gm1 (x:Adr):Lr 3 [x.pv]=some (Hk [x]):=rfl
def Dk5 (l:List Adr):Lw (Hk l)=some (Hk l):=rfl
def Dc9 (l:List Adr):Dk 0 (Hk l)=some (Hk l):=rfl
def Im5 (x:Ques):PV.flat x.pv=true:=rfl
def Hc9 (n:Int):Lw (.i .u64 n)=some (.i .u64 n):=rfl
def Ik0 (n:Int):Dk 0 (.i .u64 n)=some (.i .u64 n):=rfl
def Fd3 (l:List Adr):H6 (Hk l)=some (.i .i64 (l.length:Int)):=by simp[Hk,H6]
def Ff7 (l:List Adr) (k:IntKind) (z:Int) (h:0≤z):Jf 3 (Hk l) (.i k z)=(l[z.toNat]?).map Adr.pv:=by simp[Hk,mw _ _ _ _ h]
def Ef5 (l:List Adr) (x:Adr) (h:l.length+1≤1073741824):J1 3 (Hk l) (Hk [x])=some (Hk (l++[x])):=by have:=aj 3 (l.map Adr.pv) ([x].map Adr.pv) (by simpa using h);simpa [Hk] using this
def Fm8 (l m:List Adr) (h:l.length+m.length≤1073741824):J1 3 (Hk l) (Hk m)=some (Hk (l++m)):=by have:=aj 3 (l.map Adr.pv) (m.map Adr.pv) (by simpa using h);simpa [Hk] using this
def Fc6 (l:List Adr) (k k':IntKind) (a b:Int) (h1:0≤a) (h2:a≤b) (h3:b≤(l.length:Int)):I7 3 (Hk l) (.i k a) (.i k' b)=some (Hk ((l.take b.toNat).drop a.toNat)):=by have:=Dm8 3 (l.map Adr.pv) k k' a b h1 h2 (by simpa using h3);simpa [Hk,List.map_take,List.map_drop] using this
def Ir1 (neg:Bool) (x y:Adr):N4 neg true [.b,(.i .u64),(.i .u64)] x.pv y.pv=some (.b (if neg then decide (x≠y) else decide (x=y))):=by
 have:Ih [.b,(.i .u64),(.i .u64)] [.b x.v6,.i .u64 x.hi,.i .u64 x.lo] [.b y.v6,.i .u64 y.hi,.i .u64 y.lo]=some (decide (x=y)):=by simp only[Ih,El8,if_true,Bn];rw[D9];cases x;cases y;simp
 simp only[N4,Adr.pv,this,Cf];cases neg<;>simp
set_option linter.defProp false in
def EVT:=(And.intro @Fy8 (And.intro @Fy7 (And.intro @Fy6 (And.intro @Fy5 (And.intro @Fy4 (And.intro @Fy3 (And.intro @Fy2 (And.intro @Fy1 (And.intro @Fy0 (And.intro @Fx9 (And.intro @Dy1 (And.intro @Dy0 (And.intro @Dx9 (And.intro @Dx8 (And.intro @Dx7 (And.intro @Dx6 (And.intro @Dx5 (And.intro @Dx4 (And.intro @Dx3 (And.intro @Dx2 (And.intro @Dx1 (And.intro @Dx0 (And.intro @Dw9 (And.intro @Dw8 (And.intro @Dw7 (And.intro @Dw6 (And.intro @Dw5 (And.intro @Dw4 (And.intro @Dw3 (And.intro @Dw2 (And.intro @Dw1 (And.intro @Dw0 (And.intro @Dv9 (And.intro @Dv8 (And.intro @Hb9 (And.intro @Im8 (And.intro @Cj8 (And.intro @q9 (And.intro @Fv6 (And.intro @Av7 (And.intro @Gm8 (And.intro @Ip7 (And.intro @Gp7 (And.intro @Gp8 (And.intro @It0 (And.intro @Fg5 (And.intro @Hk0 (And.intro @Gc7 (And.intro @Gn4 (And.intro @Dd2 (And.intro @Dd1 (And.intro @Dd0 (And.intro @Fg8 (And.intro @Fn0 (And.intro @Gm1 (And.intro @Dk5 (And.intro @Dc9 (And.intro @Im5 (And.intro @Hc9 (And.intro @Ik0 (And.intro @Fd3 (And.intro @Ff7 (And.intro @Ef5 (And.intro @Fm8 (And.intro @Fc6 @Ir1)))))))))))))))))))))))))))))))))))))))))))))))))))))))))))))))))
end Go.X
/- Functions of the package slices, for texts, records and addresses. -/
namespace Go.X.G
open Go Go.X
def Av:=And.intro xe<|And.intro EVP EV
def Aq:=And.intro EVC<|And.intro xe<|And.intro EVP EV
def Ak:=And.intro EVM<|And.intro EVC<|And.intro xe<|And.intro EVP EV
def Eh1 (l:List (List UInt8)) (x:List UInt8) (hl:l.length≤1000000):∃k:Int,(0≤k↔x∈l)∧S gz 2 [Cn l,.s x]=some [.i .i64 k]:=by
 have go:∀(i:Nat) (l:List (List UInt8)),∃k:Int,k=(match l.findIdx? (·=x) with|some j=>((i+j:Nat):Int)|none=> -1)∧(0≤k↔x∈l):=by
  intro i l;refine⟨_,rfl,?_⟩;cases h:l.findIdx? (·=x) with
  |none=>
   rw[List.findIdx?_eq_none_iff] at h;simp only;constructor
   ·intro h2;omega
   ·intro h2;have:=h x h2;simp at this
  |some j=>
   simp only;constructor
   ·intro _;rw[List.findIdx?_eq_some_iff_getElem] at h;obtain⟨h1,h2,_⟩:=h;simp at h2;rw[←h2];exact Fv _
   ·intro _;omega
 obtain⟨k,hk,hk2⟩:=go 0 l;refine⟨k,hk2,?_⟩;refine Fs4 (N:=l.length+1) rfl ?_;have key:Ac0.ev S (l.length+1) [Cn l,.s x]=some (match l.findIdx? (·=x) with|some j=> .ret [.i .i64 ((0+j:Nat):Int)]|none=> .yld 0 []):=by
  refine E2 l (fun i=>[.i .i64 (i:Int)]) (fun i r=>match r.findIdx? (·=x) with|some j=> .ret [.i .i64 ((i+j:Nat):Int)]|none=> .yld 0 []) rfl (by omega) (fun i c r hd hi hc=> ?_) ?_
  ·by_cases h:x=c
   ·right;simp(disch:=omega)only[Qg,hc,h,Ak,simprocAttr];simp[Jk5,Out.goes]
   ·left;have h':¬c=x:=fun e=>h e.symm;simp(disch:=omega)only[Qg,hc,h,Ak,simprocAttr];refine⟨trivial,?_⟩;simp only[Jk5,h',decide_false,B5,if_false];cases r.findIdx? (·=x) with
    |none=>rfl
    |some j=>simp;omega
  ·simp(disch:=omega)only[Qg,Ak,simprocAttr];simp[Out.goes]
 rw[hk];cases h:l.findIdx? (·=x) with
 |none=>
  rw[h] at key;simp(disch:=omega)only[Qg,key,Ak,simprocAttr]
 |some j=>
  rw[h] at key;simp(disch:=omega)only[Qg,key,Ak,simprocAttr]
def Wx (l:List (List UInt8)) (x:List UInt8) (hl:l.length≤1000000):S bg 2 [Cn l,.s x]=some [.b (decide (x∈l))]:=by refine Hd5 (N:=1) rfl ?_;obtain⟨k,h1,h2⟩:=Eh1 l x hl;simp(disch:=omega)only[Hq7,h2,Ak,simprocAttr];simp[h1]
def ixG {α:Type} (p:α→Bool) (k:Nat):List α→Int
 |[]=> -1
 |r::rs=>if p r=true then(k:Int) else ixG p (k+1) rs
def Ac2 {α:Type} (p:α→Bool):∀(l:List α) (k:Nat),(0≤ixG p k l↔l.any p=true)∧ixG p k l≤k+l.length∧ -1≤ixG p k l
 |[],k=>by simp[ixG]
 |r::rs,k=>by
  have ih:=Ac2 p rs (k+1);rcases Bl (p r) with h|h
  ·simp[ixG,h];omega
  ·simp only[ixG,h,List.any_cons,Ks,Cv];refine⟨by simpa using ih.1,?_,by simpa using ih.2.2⟩;have:=ih.2.1;simp only[B5,if_false] at this ⊢;omega
def ot (l:List (List UInt8)) (g:Nat) (caps:List PV) (p:List UInt8→Bool) (hl:l.length≤1000000) (h:∀r∈l,S g 1 (.s r::caps)=some [.b (p r)]):S Dg8 2 [Cn l,.f g caps]=some [.i .i64 (ixG p 0 l)]:=by
 refine Jz4 (N:=l.length+1) rfl ?_;have key:Gj4.ev S (l.length+1) [Cn l,.f g caps]=some (if ixG p 0 l= -1 then .yld 0 [] else .ret [.i .i64 (ixG p 0 l)]):=by
  refine E2 l (fun i=>[.i .i64 (i:Int)]) (fun i r=>if ixG p i r= -1 then .yld 0 [] else .ret [.i .i64 (ixG p i r)]) rfl (by omega) (fun i c r hd hi hc=> ?_) ?_
  ·have hp:=h c (Ck hc);rcases Bl (p c) with h1|h1
   ·rw[h1] at hp;right;have h2:¬((i:Int)= -1):=by omega
    simp(disch:=omega)only[Cp2,hc,hp,EVT,Aq,simprocAttr];simp[ixG,h1,h2,Out.goes]
   ·rw[h1] at hp;left;simp(disch:=omega)only[Cp2,hc,hp,EVT,Aq,simprocAttr];simp[ixG,h1]
  ·simp(disch:=omega)only[Cp2,EVT,Aq,simprocAttr];simp[ixG,Out.goes]
 by_cases h1:ixG p 0 l= -1
 ·rw[if_pos h1] at key;simp(disch:=omega)only[Cp2,key,h1,EVT,Aq,simprocAttr]
 ·rw[if_neg h1] at key;simp(disch:=omega)only[Cp2,key,EVT,Aq,simprocAttr]
def Nt (l:List (List UInt8)) (g:Nat) (caps:List PV) (p:List UInt8→Bool) (hl:l.length≤1000000) (h:∀r∈l,S g 1 (.s r::caps)=some [.b (p r)]):S Cz9 2 [Cn l,.f g caps]=some [.b (l.any p)]:=by
 refine Jg1 (N:=1) rfl ?_;simp(disch:=omega)only[Jv5,ot l g caps p hl h,Aq,simprocAttr];have:=(Ac2 p l 0).1;rcases Bl (l.any p) with h1|h1
 ·rw[h1] at this ⊢;simp[this.2 rfl]
 ·rw[h1] at this ⊢;have h2:¬(0≤ixG p 0 l):=fun h=>by simpa using this.1 h
  simp[h2]
def Aj8 (l:List Rec) (hl:l.length≤1000000):S gw 1 [B6 l]=some [B6 l]:=by
 refine Ht1 (N:=1) rfl ?_;have h0:J1 16 (B6 []) (B6 l)=some (B6 l):=by simpa using Xd [] l (by simp;omega)
 simp(disch:=omega)only[Hy2,h0,EVT,Aq,simprocAttr]
def yw {α:Type} (p:α→Bool):∀(l:List α) (k:Nat),0≤ixG p k l→∃j,ixG p k l=((k+j:Nat):Int)∧j<l.length∧(∀x∈l.take j,p x=false)∧∃x,l[j]? =some x∧p x=true
 |[],k,h=>by simp[ixG] at h
 |r::rs,k,h=>by
  rcases Bl (p r) with h1|h1
  ·exact⟨0,by simp[ixG,h1],by simp,by simp,r,rfl,h1⟩
  ·have e:ixG p k (r::rs)=ixG p (k+1) rs:=by simp[ixG,h1]
   rw[e] at h ⊢;obtain⟨j,g1,g2,g3,x,g4,g5⟩:=yw p rs (k+1) h;refine⟨j+1,by rw[g1];congr 1;omega,by simp;omega,fun y hy=> ?_,x,by simpa using g4,g5⟩;simp only[Gy1,Cj] at hy;rcases hy with rfl|hy
   ·exact h1
   ·exact g3 y hy
def Mn {α:Type} (p:α→Bool) {l:List α} (h:∀x∈l,p x=false):l.filter (fun x=> !p x)=l:=by rw[List.filter_eq_self];intro x hx;simp[h x hx]
def ixF (p:Rec→Bool) (k:Nat):List Rec→Int
 |[]=> -1
 |r::rs=>if p r=true then(k:Int) else ixF p (k+1) rs
def Ek5 (p:Rec→Bool):∀(l:List Rec) (k:Nat),(0≤ixF p k l↔l.any p=true)∧ixF p k l≤k+l.length∧ -1≤ixF p k l
 |[],k=>by simp[ixF]
 |r::rs,k=>by
  have ih:=Ek5 p rs (k+1);rcases Bl (p r) with h|h
  ·simp[ixF,h];omega
  ·simp only[ixF,h,List.any_cons,Ks,Cv];refine⟨by simpa using ih.1,?_,by simpa using ih.2.2⟩;have:=ih.2.1;simp only[B5,if_false] at this ⊢;omega
def T3 (l:List Rec) (g:Nat) (caps:List PV) (p:Rec→Bool) (hl:l.length≤1000000) (h:∀r∈l,S g 1 (r.pv::caps)=some [.b (p r)]):S Ay4 2 [B6 l,.f g caps]=some [.i .i64 (ixF p 0 l)]:=by
 refine Jz2 (N:=l.length+1) rfl ?_;have key:Gj3.ev S (l.length+1) [B6 l,.f g caps]=some (if ixF p 0 l= -1 then .yld 0 [] else .ret [.i .i64 (ixF p 0 l)]):=by
  refine E2 l (fun i=>[.i .i64 (i:Int)]) (fun i r=>if ixF p i r= -1 then .yld 0 [] else .ret [.i .i64 (ixF p i r)]) rfl (by omega) (fun i c r hd hi hc=> ?_) ?_
  ·have hp:=h c (Ck hc);rcases Bl (p c) with h1|h1
   ·rw[h1] at hp;right;have h2:¬((i:Int)= -1):=by omega
    simp(disch:=omega)only[Cp1,hc,hp,Aq,simprocAttr];simp[ixF,h1,h2,Out.goes]
   ·rw[h1] at hp;left;simp(disch:=omega)only[Cp1,hc,hp,Aq,simprocAttr];simp[ixF,h1]
  ·simp(disch:=omega)only[Cp1,Aq,simprocAttr];simp[ixF,Out.goes]
 by_cases h1:ixF p 0 l= -1
 ·rw[if_pos h1] at key;simp(disch:=omega)only[Cp1,key,h1,Aq,simprocAttr]
 ·rw[if_neg h1] at key;simp(disch:=omega)only[Cp1,key,Aq,simprocAttr]
def Hd (l:List Rec) (g:Nat) (caps:List PV) (p:Rec→Bool) (hl:l.length≤1000000) (h:∀r∈l,S g 1 (r.pv::caps)=some [.b (p r)]):S l4 2 [B6 l,.f g caps]=some [.b (l.any p)]:=by
 refine Jf8 (N:=1) rfl ?_;simp(disch:=omega)only[Jv3,T3 l g caps p hl h,Aq,simprocAttr];have:=(Ek5 p l 0).1;rcases Bl (l.any p) with h1|h1
 ·rw[h1] at this ⊢;simp[this.2 rfl]
 ·rw[h1] at this ⊢;have h2:¬(0≤ixF p 0 l):=fun h=>by simpa using this.1 h
  simp[h2]
end Go.X.G
/- nsec: Absent, Empty, on both sides. -/
namespace Go.X.G
open Go Go.X
def xn (r:Rec) (t:Int):Bool:=
 if r.typ≠47∨t=255∨V6 r t=true∨V6 r 5=true then false else if t=43 then !V6 r 6 else V6 r 6|| !V6 r 2
def Dp1 (r:Rec) (t:Int):S Dl5 2 [r.pv,.i .i64 t]=some [.b (xn r t)]:=by
 refine Jf4 (N:=1) rfl ?_;have a1:=Mf r t;have a2:=Mf r 5;have a3:=Mf r 6;have a4:=Mf r 2;unfold xn;by_cases h1:r.typ=47
 ·by_cases h2:t=255
  ·simp(disch:=omega)only[Cj3,h1,h2,Aq,simprocAttr]
   try simp
  ·rcases Bl (V6 r t) with e0|e0
   ·simp(disch:=omega)only[Cj3,a1,e0,h1,h2,Aq,simprocAttr]
    try simp
   ·rcases Bl (V6 r 5) with e1|e1
    ·simp(disch:=omega)only[Cj3,a1,a2,e0,e1,h1,h2,Aq,simprocAttr]
     try simp
    ·by_cases h3:t=43
     ·rw[h3] at a1 e0 h2 ⊢;rcases Bl (V6 r 6) with e2|e2<;>simp(disch:=omega)only[Cj3,a1,a2,a3,e0,e1,e2,h1,Aq,simprocAttr]<;>simp[h1]
     ·rcases Bl (V6 r 6) with e2|e2<;>rcases Bl (V6 r 2) with e3|e3<;>simp(disch:=omega)only[Cj3,a1,a2,a3,a4,e0,e1,e2,e3,h1,h2,h3,Aq,simprocAttr]<;>simp[h1,h2,h3]
 ·simp(disch:=omega)only[Cj3,h1,Aq,simprocAttr]
  try simp[h1]
def Jj8 (l:List Rec) (zone s:List UInt8):Bool:=l.any fun r=>Hh r zone s
def oc (l:List Rec) (zone name:List UInt8):Bool:=(starsN l zone name).any fun s=>Jj8 l zone s
def Ck1 {l:List Rec} {zone name s:List UInt8} (h:s∈starsN l zone name):s.length≤254:=by
 unfold starsN at h;rw[List.mem_filterMap] at h;obtain⟨r,_,hr⟩:=h;unfold rf at hr;split at hr
 ·rename_i hc;simp only[Br] at hc;injection hr with hr;unfold starN at hr;rw[if_pos hc.2] at hr;rw[←hr];have:=hc.2;unfold starOk at this;simp only[Br] at this;exact Gc this.2
 ·cases hr
def Ar8 (r:Rec) (zone s:List UInt8) (hr:r.wf) (hz:zone.length≤9223372036854775807) (hn:s.length≤9223372036854775807):S Cz6 1 [r.pv,.s zone,.s s]=some [.b (Hh r zone s)]:=by refine Jf7 (N:=1) rfl ?_;simp(disch:=omega)only[Jv2,Pg r zone s hr hz hn,Aq,simprocAttr]
def Cm3 (l:List Rec) (zone s:List UInt8) (hw:∀r∈l,r.wf) (hl:l.length≤1000000) (hz:zone.length≤9223372036854775807) (hn:s.length≤9223372036854775807):S Cz7 1 [.s s,B6 l,.s zone]=some [.b (Jj8 l zone s)]:=by refine Jf9 (N:=1) rfl ?_;have k:=Hd l Cz6 [.s zone,.s s] (fun r=>Hh r zone s) hl (fun r hr=>Ar8 r zone s (hw r hr) hz hn);unfold Jj8;simp(disch:=omega)only[Jv4,k,Aq,simprocAttr]
def jj (l:List Rec) (zone name:List UInt8) (hw:∀r∈l,r.wf) (hl:l.length≤1000000) (hz:zone.length≤9223372036854775807) (hn:name.length≤9223372036854775807):S Cb2 3 [B6 l,.s zone,.s name]=some [.b (oc l zone name)]:=by refine Jh8 (N:=1) rfl ?_;have k1:=Bd3 l zone name hw hl hz hn;have hsl:=df l zone name;have k:=Nt (starsN l zone name) Cz7 [B6 l,.s zone] (fun s=>Jj8 l zone s) (by omega) (fun s hs=>Cm3 l zone s hw hl hz (by have:=Ck1 hs;omega));unfold oc;generalize starsN l zone name=st at*;simp(disch:=omega)only[Jw0,k1,k,Aq,simprocAttr]
def Jj3 (l:List Rec) (zone:List UInt8) (q:Ques) (r:Rec):Bool:=
 (Hh r zone q.name && Nr r.data.host q.name)||(xn r q.typ && (decide (r.name=q.name)||O4 l zone q.name r.name))
def Ew0 (l:List Rec) (zone:List UInt8) (q:Ques):Bool:=under q.name zone && l.any (Jj3 l zone q)
def Eh5 (l:List Rec) (zone:List UInt8) (q:Ques) (r:Rec) (hr:r.wf) (hw:∀r∈l,r.wf) (hl:l.length≤1000000) (hz:zone.length≤9223372036854775807) (hn:q.name.length≤9223372036854775807):
  S Cz4 1 [r.pv,.s zone,q.pv,B6 l]=some [.b (Jj3 l zone q r)]:=by
 refine Jf5 (N:=1) rfl ?_;have g2:=hr.data.host;unfold Lh at g2;have h1:=Pg r zone q.name hr hz hn;have h2:=Jj r.data.host q.name g2 hn;have h3:=Dp1 r q.typ;have h4:=Ap9 l zone q.name r.name hw hl hz hn;unfold Jj3;by_cases e4:r.name=q.name
 ·rcases Bl (Hh r zone q.name) with e0|e0<;>rcases Bl (Nr r.data.host q.name) with e1|e1<;>rcases Bl (xn r q.typ) with e2|e2<;>rcases Bl (O4 l zone q.name r.name) with e3|e3
  all_goals simp(disch:=omega)only[Hq8,h1,h2,h3,h4,e0,e1,e2,e3,e4,Ak,simprocAttr]
  all_goals simp
 ·rcases Bl (Hh r zone q.name) with e0|e0<;>rcases Bl (Nr r.data.host q.name) with e1|e1<;>rcases Bl (xn r q.typ) with e2|e2<;>rcases Bl (O4 l zone q.name r.name) with e3|e3
  all_goals simp(disch:=omega)only[Hq8,h1,h2,h3,h4,e0,e1,e2,e3,e4,Ak,simprocAttr]
  all_goals simp
def Eh4 (l:List Rec) (zone:List UInt8) (q:Ques) (hw:∀r∈l,r.wf) (hl:l.length≤1000000) (hz:zone.length≤9223372036854775807) (hn:q.name.length≤9223372036854775807):S Dm2 3 [B6 l,.s zone,q.pv]=some [.b (Ew0 l zone q)]:=by refine Jh7 (N:=1) rfl ?_;have k:=Hd l Cz4 [.s zone,q.pv,B6 l] (Jj3 l zone q) hl (fun r hr=>Eh5 l zone q r (hw r hr) hw hl hz hn);have hu:=Gj q.name zone hn hz;unfold Ew0;rcases Bl (under q.name zone) with h|h<;>simp(disch:=omega)only[Jv9,hu,h,k,Ak,simprocAttr]<;>simp
end Go.X.G
/- Data of records: bytes. -/
namespace Go.X.G
open Go Go.X
def Bt1 (set:Int) (i:Nat):Nat→Bool
 |0=>true
 |k+1=>(!decide (bit set i=1)||knw (i:Int)) && Bt1 set (i+1) k
def Is9 (set:Int) (N:Nat) (hN:64<N):
  Ds7.ev S N [.i .u64 set]=some (if Bt1 set 0 64=true then .yld 0 [] else .ret [.b false]):=by
 refine F7 64 (fun i=>[.i .i64 (i:Int)]) (fun i=>if Bt1 set i (64 - i)=true then .yld 0 [] else .ret [.b false]) rfl hN (fun i hi=> ?_) ?_
 ·obtain⟨k,hk⟩:∃k,64 - i=k+1:=⟨63 - i,by omega⟩;have hk':64 - (i+1)=k:=by omega
  have hb:IntKind.u64.bits=64:=rfl;have hi':i<IntKind.u64.bits:=by rw[hb];exact hi
  have h0:X.bin .shr (.i .u64 set) (.i .u64 (i:Int))=some (.i .u64 (set / 2 ^ i)):=Aw5 _ _ _ _ hi';have h1:set / 2 ^ i % 2=bit set i:=rfl;rw[hk,hk'];simp only[Bt1];by_cases h2:bit set i=1<;>rcases Bl (knw (i:Int)) with h3|h3<;>simp(disch:=omega)only[Cr6,Ds,Pw,Hq4,h0,h1,h2,h3,Av,simprocAttr]
  all_goals simp[Out.goes]
 ·simp(disch:=omega) [Cr6,xe,EVP,EV,simprocAttr,Out.goes,Bt1]
def Is8 (set:Int):S u6 1 [.i .u64 set]=some [.b (Bt1 set 0 64)]:=by refine Hg8 (N:=65) rfl ?_;simp(disch:=omega)only[Cr6,Is9,Av,simprocAttr];cases Bt1 set 0 64<;>rfl
def be (v:Int):Nat→List UInt8
 |0=>[]
 |n+1=>UInt8.ofNat (v / 256 ^ n % 256).toNat::be v n
def Ff (v:Int):∀n,(be v n).length=n
 |0=>rfl
 |n+1=>by simp[be,Ff v n]
def Yg (z:Int) (h1:0≤z) (h2:z<256):((UInt8.ofNat z.toNat).toNat:Int)=z:=by simp;omega
def Af4 (v:Int) (j:Nat):v / 256 ^ j / 256=v / 256 ^ (j+1):=by rw[Int.pow_succ,Int.ediv_ediv_of_nonneg (Int.le_of_lt (Int.pow_pos (by decide)))]
def zy (v:Int) (j:Nat) (h:0≤v):0≤v / 256 ^ j:=Int.ediv_nonneg h (Int.le_of_lt (Int.pow_pos (by decide)))
def zz (v:Int) (j:Nat) (h:0≤v):v / 256 ^ j≤v:=Int.ediv_le_self _ h
def Dg1 (v:Int) (n i:Nat) (p q:PV) (N:Nat) (hN:i<N) (hi:i≤1000) (h0:0≤v) (h1:v≤18446744073709551615):
  Dp8.ev S N [.i .u64 v,p,q,.i .i64 (i:Int)]=some (.yld 2 [.i .u64 (v / 256 ^ i)]):=by
 refine F7 i (fun j=>[.i .u64 (v / 256 ^ j),.i .i64 (j:Int)]) (fun j=> .yld 2 [.i .u64 (v / 256 ^ i)]) (by simp[mf,Ad2,Kq8,Kv2]) hN (fun j hj=> ?_) ?_
 ·left;have h2:=zy v j h0;have h3:=zz v j h0;have h4:=Af4 v j;simp(disch:=omega)only[pc,h4,Av,simprocAttr];simp
 ·simp(disch:=omega)only[pc,Av,simprocAttr];simp[Out.goes]
def Dg2 (v:Int) (n:Nat) (N:Nat) (hN:n+1<N) (hn:n≤1000) (h0:0≤v) (h1:v≤18446744073709551615):
  Ab3.ev S N [.i .u64 v,.i .i64 (n:Int)]=some (.yld 0 [.l 1 (Dx (be v n))]):=by
 have key:=Jc (fn:=S) (N:=N) (η:=[.i .u64 v,.i .i64 (n:Int)]) (id:=1) (init:=[(.c (.l 1 [])),(.bin .sub (.v 1) (.c (.i .i64 (1))))]) (body:=Am6) (α:=Nat×List UInt8) (fun a=>[.l 1 (Dx a.2),.i .i64 ((a.1:Int) - 1)]) (fun a=> .yld 0 [.l 1 (Dx (a.2++be v a.1))]) (fun a=>a.1+a.2.length=n) (fun a=>a.1) (n,[]) (by simp(disch:=omega)only[Av,simprocAttr];rfl) rfl (by simp only;omega) ?_
 ·simpa [Ab3] using key
 ·rintro⟨m,acc⟩ hm;simp only at hm ⊢;cases m with
  |zero=>
   right;simp(disch:=omega)only[pc,Av,simprocAttr];simp[be,Out.goes]
  |succ m=>
   left;have h2:=zy v m h0;have h3:=zz v m h0;have e:((m+1:Nat):Int) - 1=(m:Int):=by omega
   have e2:=Yg (v / 256 ^ m % 256) (by omega) (by omega);have e3:=Pv acc;refine⟨(m,acc++[UInt8.ofNat (v / 256 ^ m % 256).toNat]),?_,by simp;omega,by simp,by simp[be]⟩;rw[e];have hin:=Dg1 v n m (.i .i64 (n:Int)) (.l 1 (Dx acc)) N (by omega) (by omega) h0 h1;simp(disch:=omega)only[pc,hin,Av,simprocAttr];rw[←Vv,e2]
def Yh (v:Int) (n:Nat) (hn:n≤1000) (h0:0≤v) (h1:v≤18446744073709551615):S Yp 2 [.i .u64 v,.i .i64 (n:Int)]=some [.s (be v n)]:=by refine Hd6 (N:=n+2) rfl ?_;simp(disch:=omega)only[pc,Dg2,Av,simprocAttr]
def Eg4 (v:Int) (n i:Nat) (p q:PV) (N:Nat) (hN:i<N) (hi:i≤1000) (h0:0≤v) (h1:v≤9223372036854775807):
  Dr0.ev S N [.i .i64 v,p,q,.i .i64 (i:Int)]=some (.yld 2 [.i .i64 (v / 256 ^ i)]):=by
 refine F7 i (fun j=>[.i .i64 (v / 256 ^ j),.i .i64 (j:Int)]) (fun j=> .yld 2 [.i .i64 (v / 256 ^ i)]) (by simp[mf,Ad2,Kq8,Kv2]) hN (fun j hj=> ?_) ?_
 ·left;have h2:=zy v j h0;have h3:=zz v j h0;have h4:=Af4 v j;simp(disch:=omega)only[pd,h4,Av,simprocAttr];simp
 ·simp(disch:=omega)only[pd,Av,simprocAttr];simp[Out.goes]
def Eg5 (v:Int) (n:Nat) (N:Nat) (hN:n+1<N) (hn:n≤1000) (h0:0≤v) (h1:v≤9223372036854775807):
  Ab4.ev S N [.i .i64 v,.i .i64 (n:Int)]=some (.yld 0 [.l 1 (Dx (be v n))]):=by
 have key:=Jc (fn:=S) (N:=N) (η:=[.i .i64 v,.i .i64 (n:Int)]) (id:=1) (init:=[(.c (.l 1 [])),(.bin .sub (.v 1) (.c (.i .i64 (1))))]) (body:=Am8) (α:=Nat×List UInt8) (fun a=>[.l 1 (Dx a.2),.i .i64 ((a.1:Int) - 1)]) (fun a=> .yld 0 [.l 1 (Dx (a.2++be v a.1))]) (fun a=>a.1+a.2.length=n) (fun a=>a.1) (n,[]) (by simp(disch:=omega)only[Av,simprocAttr];rfl) rfl (by simp only;omega) ?_
 ·simpa [Ab4] using key
 ·rintro⟨m,acc⟩ hm;simp only at hm ⊢;cases m with
  |zero=>
   right;simp(disch:=omega)only[pd,Av,simprocAttr];simp[be,Out.goes]
  |succ m=>
   left;have h2:=zy v m h0;have h3:=zz v m h0;have e:((m+1:Nat):Int) - 1=(m:Int):=by omega
   have e2:=Yg (v / 256 ^ m % 256) (by omega) (by omega);have e3:=Pv acc;refine⟨(m,acc++[UInt8.ofNat (v / 256 ^ m % 256).toNat]),?_,by simp;omega,by simp,by simp[be]⟩;rw[e];have hin:=Eg4 v n m (.i .i64 (n:Int)) (.l 1 (Dx acc)) N (by omega) (by omega) h0 h1;simp(disch:=omega)only[pd,hin,Av,simprocAttr];rw[←Vv,e2]
def Pd (v:Int) (n:Nat) (hn:n≤1000) (h0:0≤v) (h1:v≤9223372036854775807):S Gd 2 [.i .i64 v,.i .i64 (n:Int)]=some [.s (be v n)]:=by refine Hd9 (N:=n+2) rfl ?_;simp(disch:=omega)only[pd,Eg5,Av,simprocAttr]
end Go.X.G
/- Data of records: the wire form. -/
namespace Go.X.G
open Go Go.X
def Zq {s:List UInt8} (h:K4 s=true):s.length≤63:=by
 unfold K4 at h;simp at h;rcases h with h|h
 ·simp[h]
 ·omega
def j9:∀(r:List UInt8) (f:Bool) (cur:List UInt8) (l:List (List UInt8)),spl f cur r=some l→∀x∈l,K4 x=true
 |[],f,cur,l,h=>by simp[spl] at h;subst h;simp
 |c::r,f,cur,l,h=>by
  simp only[spl] at h;split at h
  ·split at h
   ·rename_i h2;obtain⟨m,hm,rfl⟩:=Bt.1 h;intro x hx;simp at hx;rcases hx with rfl|hx
    ·exact h2.1
    ·exact j9 r _ _ _ hm x hx
   ·cases h
  ·exact j9 r _ _ _ h
def Tw (n:List UInt8):∀x∈lbl n,K4 x=true:=by
 unfold lbl nm;split
 ·simp
 ·split
  ·cases h:spl true [] n with
   |none=>simp
   |some l=>simpa using j9 _ _ _ _ h
  ·simp
def wireL (l:List (List UInt8)):List UInt8:=l.flatMap fun x=>be (x.length:Int) 1++x
def Kt (n:List UInt8):List UInt8:=wireL (lbl n)++be 0 1
def Sz:∀(l:List (List UInt8)),(∀x∈l,K4 x=true)→(wireL l).length≤64*l.length
 |[],_=>by simp[wireL]
 |x::l,h=>by have h1:=Zq (h x (by simp));have h2:=Sz l (fun y hy=>h y (by simp[hy]));simp only[wireL,Jv,B3,Ff,Cv] at h2 ⊢;omega
def Sy (n:List UInt8):(Kt n).length≤20000:=by have h1:=Sz (lbl n) (Tw n);have h2:=Gl n;simp only[Kt,B3,Ff];omega
def Ap5 (n:List UInt8) (N:Nat) (hN:254<N):
  Ab5.ev S N [.s n,Cn (lbl n)]=some (.yld 0 [.s (wireL (lbl n))]):=by
 have hl:=Gl n;have key:=Ed (fn:=S) (N:=N) (η:=[.s n,Cn (lbl n)]) (id:=1) (init:=[(.c (.s [])),(.c (.i .i64 (0)))]) (body:=Am9) (lbl n) (fun i (g:List UInt8)=>[.s g,.i .i64 (i:Int)]) (fun i g r=> .yld 0 [.s (g++wireL r)]) (fun i g=>g.length≤64*i) [] rfl (B7 _) (by omega) (fun i g c r hd hi hc hI=> ?_) (fun g hI=> ?_)
 ·simpa [Ab5] using key
 ·left;have h1:=Zq (Tw n c (Ck hc));have h2:=Pd (c.length:Int) 1 (by omega) (by omega) (by omega);have h3:=Ff (c.length:Int) 1;have h4:(be (c.length:Int) 1++c).length=1+c.length:=by rw[B3,h3]
  refine⟨g++(be (c.length:Int) 1++c),?_,?_,?_⟩
  ·simp only[Int.natCast_one] at h2;simp(disch:=omega)only[Cr0,hc,h2,Av,simprocAttr]
  ·rw[B3,h4];omega
  ·simp[wireL]
 ·simp(disch:=omega)only[Cr0,Av,simprocAttr];simp[Out.goes,wireL]
def Gq (n:List UInt8) (hn:n.length≤9223372036854775807):S Of 1 [.s n]=some [.s (Kt n)]:=by refine Hf0 (N:=255) rfl ?_;have h1:=Sz (lbl n) (Tw n);have h2:=Gl n;have h3:=Ff 0 1;have h4:=Pd 0 1 (by omega) (by omega) (by omega);simp only[Int.natCast_one] at h4;simp(disch:=omega)only[Cr0,J2,Ap5,h4,Av,simprocAttr];rfl
def bmV (set:Int) (i:Nat):Nat→Int
 |0=>0
 |j+1=>bmV set i j*2+bit set (i*8+j)
def Ed0 (set:Int) (t:Nat):0≤bit set t∧bit set t≤1:=by unfold bit;omega
def ig (set:Int) (i:Nat):∀j,0≤bmV set i j∧bmV set i j<2 ^ j
 |0=>by simp[bmV]
 |j+1=>by have h1:=ig set i j;have h2:=Ed0 set (i*8+j);simp only[bmV,Int.pow_succ];omega
def bmB (set:Int) (i:Nat):UInt8:=UInt8.ofNat (bmV set i 8).toNat
def bmL (set:Int):Nat→Nat
 |0=>0
 |i+1=>if bmV set i 8≠0 then i+1 else bmL set i
def Ec3 (set:Int):∀i,bmL set i≤i
 |0=>B7 _
 |i+1=>by have:=Ec3 set i;simp only[bmL];split<;>omega
def bmap (set:Int):List UInt8:=((List.range 8).map (bmB set)).take (bmL set 8)
def Ec7 (set:Int) (p q:PV) (i:Nat) (hi:i<8) (N:Nat) (hN:8<N):
  Dp9.ev S N [.i .u64 set,p,q,.i .i64 (i:Int)]=some (.yld 2 [.i .i64 (bmV set i 8)]):=by
 refine F7 8 (fun j=>[.i .i64 (bmV set i j),.i .i64 (j:Int)]) (fun j=> .yld 2 [.i .i64 (bmV set i 8)]) rfl hN (fun j hj=> ?_) ?_
 ·left;have hb:IntKind.u64.bits=64:=rfl;have hi':i*8+j<IntKind.u64.bits:=by rw[hb];omega
  have e:((i:Int)*8+(j:Int))=((i*8+j:Nat):Int):=by simp
  have h0:X.bin .shr (.i .u64 set) (.i .u64 ((i*8+j:Nat):Int))=some (.i .u64 (set / 2 ^ (i*8+j))):=Aw5 _ _ _ _ hi';have h1:set / 2 ^ (i*8+j) % 2=bit set (i*8+j):=rfl;have h2:=ig set i j;have h3:(2:Int) ^ j≤128:=(by decide:∀j,j<8→(2:Int) ^ j≤128) j hj;have h4:=Ed0 set (i*8+j);simp(disch:=omega)only[c9,Pw,Hq4,h0,h1,←e,Av,simprocAttr];refine⟨?_,trivial⟩;rw[e,h0];simp(disch:=omega)only[Pw,Hq4,h0,h1,Av,simprocAttr];rfl
 ·simp(disch:=omega)only[c9,Av,simprocAttr];simp[Out.goes]
def Ec8 (set:Int) (N:Nat) (hN:8<N):
  Dr9.ev S N [.i .u64 set]=some (.yld 0 [.l 1 (Dx ((List.range 8).map (bmB set))),.i .i64 (bmL set 8:Int)]):=by
 refine F7 8 (fun i=>[.l 1 (Dx ((List.range i).map (bmB set))),.i .i64 (bmL set i:Int),.i .i64 (i:Int)]) (fun _=> .yld 0 [.l 1 (Dx ((List.range 8).map (bmB set))),.i .i64 (bmL set 8:Int)]) rfl hN (fun i hi=> ?_) ?_
 ·left;have h1:=Ec7 set (.l 1 (Dx ((List.range i).map (bmB set)))) (.i .i64 (bmL set i:Int)) i hi N hN;have h2:=ig set i 8;have h3:(2:Int) ^ 8=256:=rfl;have h4:=Yg (bmV set i 8) (by omega) (by omega);have h5:(Dx ((List.range i).map (bmB set))).length=i:=by simp[Pv]
  have h6:Dx ((List.range (i+1)).map (bmB set))=Dx ((List.range i).map (bmB set))++[.i .u8 (bmV set i 8)]:=by rw[List.range_succ,It5,←h4];exact(Vv _ _).symm
  rw[h6];by_cases h7:bmV set i 8=0
  ·simp(disch:=omega)only[c9,h1,bmL,h7,Av,simprocAttr];simp
  ·simp(disch:=omega)only[c9,h1,bmL,Av,simprocAttr];simp[h7]
 ·simp(disch:=omega)only[c9,Av,simprocAttr];simp[Out.goes]
def Ec6 (set:Int):S uq 1 [.i .u64 set]=some [.s (bmap set)]:=by
 refine Hd8 (N:=9) rfl ?_;have h1:=Ec3 set 8;have h2:(Dx ((List.range 8).map (bmB set))).length=8:=by simp[Pv]
 have h3:List.drop 0 (List.take (bmL set 8) (Dx ((List.range 8).map (bmB set))))=Dx (bmap set):=by simp only[Fx,bmap,Dx,List.map_take]
 simp(disch:=omega)only[c9,Ec8,h3,Av,simprocAttr]
def ow (set:Int):(bmap set).length≤8:=by simp[bmap];omega
def Sb (d:Dat):List UInt8:=if d.v6 then be d.hi 8++be d.lo 8 else be d.lo 4
def Bt4 (d:Dat) (h:d.wf):S uv 1 [Lg d]=some (if Fp d=true then [.s (Sb d),.i .i64 0] else [.s [],.i .i64 3]):=by refine Hf1 (N:=1) rfl ?_;have h1:=h.hi;have h2:=h.lo;have a1:=Yh d.hi 8 (by omega) h1.1 h1.2;have a2:=Yh d.lo 8 (by omega) h2.1 h2.2;have a3:=Yh d.lo 4 (by omega) h2.1 h2.2;have b1:=Ff d.hi 8;have b2:=Ff d.lo 8;simp only[Int.cast_ofNat_Int] at a1 a2 a3;unfold Sb;rcases Bl (Fp d) with h3|h3<;>rcases Bl d.v6 with h4|h4<;>simp(disch:=omega)only[Hv0,z8,h3,h4,a1,a2,a3,Av,simprocAttr]
def usd (t:Int) (d:Dat):Dat:=
 if t=1∨t=28 then ⟨d.v6,d.hi,d.lo,[],[],[],0,0,0,0,0,0,0⟩
 else if t=2∨t=5∨t=12∨t=39 then ⟨false,0,0,d.host,[],[],0,0,0,0,0,0,0⟩
 else if t=6 then ⟨false,0,0,d.host,d.mail,[],d.a,d.b,d.c,d.d,d.e,0,0⟩
 else if t=15 then ⟨false,0,0,d.host,[],[],d.a,0,0,0,0,0,0⟩
 else if t=16 then ⟨false,0,0,[],[],d.text,0,0,0,0,0,0,0⟩
 else if t=33 then ⟨false,0,0,d.host,[],[],d.a,d.b,d.c,0,0,0,0⟩
 else if t=43∨t=48 then ⟨false,0,0,[],[],d.text,d.a,d.b,d.c,0,0,0,0⟩
 else if t=46 then ⟨false,0,0,d.host,[],d.text,d.a,d.b,d.c,d.d,d.e,d.f,0⟩
 else ⟨false,0,0,d.host,[],[],0,0,0,0,0,0,d.bits⟩
def I6 (t:Int) (d:Dat):S u9 2 [.i .i64 t,d.pv]=some [(usd t d).pv]:=by
 refine Hh4 (N:=1) rfl ?_;rcases t15 t with rfl|rfl|rfl|rfl|rfl|rfl|rfl|rfl|rfl|rfl|rfl|rfl|rfl|rfl|⟨h0,h1,h2,h3,h4,h5,h6,h7,h8,h9,h10,h11,h12,h13⟩
 all_goals simp(disch:=omega)only[Hv7,Av,simprocAttr]
 all_goals first|rfl|(unfold usd;simp[*])
end Go.X.G
/- Data of records: which are valid. -/
namespace Go.X.G
open Go Go.X
def D7 (t:Int) (d:Dat):Bool:=
 if t=1 then Fp d && !d.v6
 else if t=28 then d.v6
 else if t=6 then Hr d.host && Hr d.mail && inB d.a 4294967295 && inB d.b 2147483647 && inB d.c 2147483647 && inB d.d 2147483647 && inB d.e 2147483647
 else if t=15 then Hr d.host && inB d.a 65535
 else if t=16 then decide (d.text.length≤255)
 else if t=33 then Hr d.host && inB d.a 65535 && inB d.b 65535 && inB d.c 65535
 else if t=43 then inB d.a 65535 && inB d.b 255 && inB d.c 255 && Iq d.text
 else if t=46 then knw d.a && decide (d.a≠46) && inB d.b 127 && inB d.c 2147483647 && inB d.d 4294967295 && inB d.e 4294967295 && inB d.f 65535 && Hr d.host && Iq d.text
 else if t=47 then vld d.host && decide (d.bits≠0) && Bt1 d.bits 0 64
 else if t=48 then(decide (d.a=256)||decide (d.a=257)) && decide (d.b=3) && inB d.c 255 && Iq d.text
 else Hr d.host
def Fy (t:Int) (d:Dat):Bool:=knw t && decide (usd t d=d) && D7 t d
def Gw (t:Int) (d:Dat) (h:d.wf):S fx 2 [.i .i64 t,d.pv]=some [.b (Fy t d)]:=by
 refine Hm0 (N:=1) rfl ?_;have g1:=h.host;have g2:=h.mail;have g3:=h.text;unfold Lh at g1 g2 g3;rcases Bl (knw t) with hk|hk
 ·by_cases hu:usd t d=d
  ·rcases t15 t with rfl|rfl|rfl|rfl|rfl|rfl|rfl|rfl|rfl|rfl|rfl|rfl|rfl|rfl|⟨h0,h1,h2,h3,h4,h5,h6,h7,h8,h9,h10,h11,h12,h13⟩
   ·rcases ch2 (Fp d) (d.v6) with e0|⟨e0,e1⟩|⟨e0,e1⟩
    all_goals simp(disch:=omega)only[Kp,Ds,I6,z8,xe,EVP,EV,simprocAttr,hk,hu, *]
    all_goals (unfold Fy D7;simp[*])
   ·simp(disch:=omega)only[Kp,Ds,I6,J6,xe,EVP,EV,simprocAttr,hk,hu];unfold Fy D7;simp[*]
   ·simp(disch:=omega)only[Kp,Ds,I6,J6,xe,EVP,EV,simprocAttr,hk,hu];unfold Fy D7;simp[*]
   ·rcases ch7 (Hr d.host) (Hr d.mail) (inB d.a 4294967295) (inB d.b 2147483647) (inB d.c 2147483647) (inB d.d 2147483647) (inB d.e 2147483647) with e0|⟨e0,e1⟩|⟨e0,e1,e2⟩|⟨e0,e1,e2,e3⟩|⟨e0,e1,e2,e3,e4⟩|⟨e0,e1,e2,e3,e4,e5⟩|⟨e0,e1,e2,e3,e4,e5,e6⟩|⟨e0,e1,e2,e3,e4,e5,e6⟩
    all_goals simp(disch:=omega)only[Kp,Ds,I6,J6,Eg0,Cc1,xe,EVP,EV,simprocAttr,hk,hu, *]
    all_goals (unfold Fy D7;simp[*])
   ·simp(disch:=omega)only[Kp,Ds,I6,J6,xe,EVP,EV,simprocAttr,hk,hu];unfold Fy D7;simp[*]
   ·rcases ch2 (Hr d.host) (inB d.a 65535) with e0|⟨e0,e1⟩|⟨e0,e1⟩
    all_goals simp(disch:=omega)only[Kp,Ds,I6,J6,Cc1,xe,EVP,EV,simprocAttr,hk,hu, *]
    all_goals (unfold Fy D7;simp[*])
   ·simp(disch:=omega)only[Kp,Ds,I6,J6,xe,EVP,EV,simprocAttr,hk,hu];unfold Fy D7;simp[*];omega
   ·simp(disch:=omega)only[Kp,Ds,I6,J6,xe,EVP,EV,simprocAttr,hk,hu];unfold Fy D7;simp[*]
   ·rcases ch4 (Hr d.host) (inB d.a 65535) (inB d.b 65535) (inB d.c 65535) with e0|⟨e0,e1⟩|⟨e0,e1,e2⟩|⟨e0,e1,e2,e3⟩|⟨e0,e1,e2,e3⟩
    all_goals simp(disch:=omega)only[Kp,Ds,I6,J6,Cc1,xe,EVP,EV,simprocAttr,hk,hu, *]
    all_goals (unfold Fy D7;simp[*])
   ·simp(disch:=omega)only[Kp,Ds,I6,J6,xe,EVP,EV,simprocAttr,hk,hu];unfold Fy D7;simp[*]
   ·rcases ch4 (inB d.a 65535) (inB d.b 255) (inB d.c 255) (Iq d.text) with e0|⟨e0,e1⟩|⟨e0,e1,e2⟩|⟨e0,e1,e2,e3⟩|⟨e0,e1,e2,e3⟩
    all_goals simp(disch:=omega)only[Kp,Ds,I6,Cc1,j7,xe,EVP,EV,simprocAttr,hk,hu, *]
    all_goals (unfold Fy D7;simp[*])
   ·rcases ch9 (knw d.a) (decide (d.a≠46)) (inB d.b 127) (inB d.c 2147483647) (inB d.d 4294967295) (inB d.e 4294967295) (inB d.f 65535) (Hr d.host) (Iq d.text) with e0|⟨e0,e1⟩|⟨e0,e1,e2⟩|⟨e0,e1,e2,e3⟩|⟨e0,e1,e2,e3,e4⟩|⟨e0,e1,e2,e3,e4,e5⟩|⟨e0,e1,e2,e3,e4,e5,e6⟩|⟨e0,e1,e2,e3,e4,e5,e6,e7⟩|⟨e0,e1,e2,e3,e4,e5,e6,e7,e8⟩|⟨e0,e1,e2,e3,e4,e5,e6,e7,e8⟩
    all_goals simp(disch:=omega)only[Kp,Ds,I6,J6,Cc1,j7,xe,EVP,EV,simprocAttr,hk,hu, *]
    all_goals (unfold Fy D7;simp[*])
   ·rcases ch3 (vld d.host) (decide (d.bits≠0)) (Bt1 d.bits 0 64) with e0|⟨e0,e1⟩|⟨e0,e1,e2⟩|⟨e0,e1,e2⟩
    all_goals simp(disch:=omega)only[Kp,Ds,I6,Gx,Is8,xe,EVP,EV,simprocAttr,hk,hu, *]
    all_goals (unfold Fy D7;simp[*])
   ·rcases ch4 (decide (d.a=256)||decide (d.a=257)) (decide (d.b=3)) (inB d.c 255) (Iq d.text) with e0|⟨e0,e1⟩|⟨e0,e1,e2⟩|⟨e0,e1,e2,e3⟩|⟨e0,e1,e2,e3⟩
    all_goals simp(disch:=omega)only[Kp,Ds,I6,Cc1,j7,xe,EVP,EV,simprocAttr,hk,hu, *]
    all_goals (unfold Fy D7;simp[*])
   ·simp[knw, *] at hk
  ·simp(disch:=omega)only[Kp,Ds,I6,xe,EVP,EV,simprocAttr,hk,hu];unfold Fy;simp[hu]
 ·simp(disch:=omega)only[Kp,Ds,xe,EVP,EV,simprocAttr,hk];unfold Fy;simp[hk]
def K0 (t:Int) (d:Dat):List UInt8:=
 if t=1∨t=28 then Sb d
 else if t=6 then Kt d.host++Kt d.mail++be d.a 4++be d.b 4++be d.c 4++be d.d 4++be d.e 4
 else if t=15 then be d.a 2++Kt d.host
 else if t=16 then be (d.text.length:Int) 1++d.text
 else if t=33 then be d.a 2++be d.b 2++be d.c 2++Kt d.host
 else if t=43∨t=48 then be d.a 2++be d.b 1++be d.c 1++d.text
 else if t=46 then be d.a 2++be 253 1++be d.b 1++be d.c 4++be d.d 4++be d.e 4++be d.f 2++Kt d.host++d.text
 else if t=47 then Kt d.host++be 0 1++be ((bmap d.bits).length:Int) 1++bmap d.bits
 else Kt d.host
def knw_cases {t:Int} (h:knw t=true):t=1∨t=2∨t=5∨t=6∨t=12∨t=15∨t=16∨t=28∨t=33∨t=39∨t=43∨t=46∨t=47∨t=48:=by simp[knw] at h;omega
def av (v:Int) (h0:0≤v) (h1:v≤9223372036854775807):S Gd 2 [.i .i64 v,.i .i64 1]=some [.s (be v 1)]:=Pd v 1 (by omega) h0 h1
def ak (v:Int) (h0:0≤v) (h1:v≤9223372036854775807):S Gd 2 [.i .i64 v,.i .i64 2]=some [.s (be v 2)]:=Pd v 2 (by omega) h0 h1
def Eg6 (v:Int) (h0:0≤v) (h1:v≤9223372036854775807):S Gd 2 [.i .i64 v,.i .i64 4]=some [.s (be v 4)]:=Pd v 4 (by omega) h0 h1
def Xg (t:Int) (d:Dat) (h:d.wf):S d9 2 [.i .i64 t,d.pv]=some (if Fy t d=true then [.s (K0 t d),.i .i64 0] else if knw t=true then [.s [],.i .i64 5] else [.s [],.i .i64 4]):=by
 refine Hf5 (N:=1) rfl ?_;have g1:=h.host;have g2:=h.mail;have g3:=h.text;unfold Lh at g1 g2 g3;have g4:=Sy d.host;have g5:=Sy d.mail;have g6:=ow d.bits;rcases Bl (knw t) with hk|hk
 ·rcases Bl (Fy t d) with hv|hv
  ·rw[if_pos hv];have hv':=hv;rcases knw_cases hk with rfl|rfl|rfl|rfl|rfl|rfl|rfl|rfl|rfl|rfl|rfl|rfl|rfl|rfl
   ·simp[Fy,D7] at hv';simp(disch:=omega)only[Kn,Ds,Gw _ _ h,Bt4 d h,hk,hv,hv'.2.1,Av,simprocAttr];rfl
   ·simp(disch:=omega)only[Kn,Ds,Gw _ _ h,Gq,hk,hv,Av,simprocAttr];rfl
   ·simp(disch:=omega)only[Kn,Ds,Gw _ _ h,Gq,hk,hv,Av,simprocAttr];rfl
   ·simp[Fy,D7,inB,Iq] at hv';simp(disch:=first|omega|(simp only[B3,Ff];omega))only[Kn,Ds,Gw _ _ h,Gq,Eg6,hk,hv,Av,simprocAttr];rfl
   ·simp(disch:=omega)only[Kn,Ds,Gw _ _ h,Gq,hk,hv,Av,simprocAttr];rfl
   ·simp[Fy,D7,inB,Iq] at hv';simp(disch:=first|omega|(simp only[B3,Ff];omega))only[Kn,Ds,Gw _ _ h,Gq,ak,hk,hv,Av,simprocAttr];rfl
   ·simp[Fy,D7,inB,Iq] at hv';simp(disch:=first|omega|(simp only[B3,Ff];omega))only[Kn,Ds,Gw _ _ h,Gq,av,hk,hv,Av,simprocAttr];rfl
   ·simp[Fy,D7] at hv';have ha:Fp d=true:=by simp[Fp,hv'.2]
    simp(disch:=omega)only[Kn,Ds,Gw _ _ h,Bt4 d h,hk,hv,ha,Av,simprocAttr];rfl
   ·simp[Fy,D7,inB,Iq] at hv';simp(disch:=first|omega|(simp only[B3,Ff];omega))only[Kn,Ds,Gw _ _ h,Gq,ak,hk,hv,Av,simprocAttr];rfl
   ·simp(disch:=omega)only[Kn,Ds,Gw _ _ h,Gq,hk,hv,Av,simprocAttr];rfl
   ·simp[Fy,D7,inB,Iq] at hv';simp(disch:=first|omega|(simp only[B3,Ff];omega))only[Kn,Ds,Gw _ _ h,Gq,av,ak,hk,hv,Av,simprocAttr];rfl
   ·simp[Fy,D7,inB,Iq] at hv';have k1:0≤d.a:=by have:=knw_cases hv'.2.1.1.1.1.1.1.1.1;omega
    have k2:=h.a.2;simp(disch:=first|omega|(simp only[B3,Ff];omega))only[Kn,Ds,Gw _ _ h,Gq,av,ak,Eg6,hk,hv,Av,simprocAttr];rfl
   ·simp(disch:=first|omega|(simp only[B3,Ff];omega))only[Kn,Ds,Gw _ _ h,Gq,Ec6,av,hk,hv,Av,simprocAttr];rfl
   ·simp[Fy,D7,inB,Iq] at hv';simp(disch:=first|omega|(simp only[B3,Ff];omega))only[Kn,Ds,Gw _ _ h,Gq,av,ak,hk,hv,Av,simprocAttr];rfl
  ·simp(disch:=omega)only[Kn,Ds,Gw _ _ h,hk,hv,Av,simprocAttr]
 ·have hv:Fy t d=false:=by simp[Fy,hk]
  simp(disch:=omega)only[Kn,Ds,hk,hv,Av,simprocAttr]
def Ey1 (t:Int) (a b:Dat):Int:=
 if Fy t a && Fy t b then cmpS (K0 t a) (K0 t b) else if Fy t a then -1 else if Fy t b then 1 else 0
def Ar5 (t:Int) (a b:Dat) (ha:a.wf) (hb:b.wf):S u4 3 [.i .i64 t,a.pv,b.pv]=some [.i .i64 (Ey1 t a b)]:=by
 refine Hg6 (N:=1) rfl ?_;unfold Ey1 cmpS;rcases Bl (Fy t a) with h1|h1<;>rcases Bl (Fy t b) with h2|h2
 ·simp(disch:=omega)only[Fp5,Xg _ _ ha,Xg _ _ hb,h1,h2,Av,simprocAttr];cases Op.bytesLess (K0 t a) (K0 t b)
  ·by_cases h3:K0 t a=K0 t b<;>simp[h3]
  ·simp
 all_goals rcases Bl (knw t) with h3|h3<;>simp(disch:=omega) [Fp5,Xg _ _ ha,Xg _ _ hb,h1,h2,h3,Av,simprocAttr]
end Go.X.G
/- Lists of records: what the reference's functions give. -/
namespace Go.X.G
open Go Go.X
def Qb (r:Rec):Bool:=vld r.name && knw r.typ && decide (0≤r.ttl) && decide (r.ttl≤2147483647) && Fy r.typ r.data
def z7 (r:Rec) (h:r.wf):S w7 1 [r.pv]=some [.b (Qb r)]:=by
 refine Hs1 (N:=1) rfl ?_;have g:=h.name;unfold Lh at g;unfold Qb;by_cases h0:0≤r.ttl<;>by_cases h1:r.ttl≤2147483647
 all_goals rcases ch3 (vld r.name) (knw r.typ) (Fy r.typ r.data) with e0|⟨e0,e1⟩|⟨e0,e1,e2⟩|⟨e0,e1,e2⟩
 all_goals simp(disch:=omega) [Hx7,Gx,Ds,Gw _ _ h.data,xe,EVP,EV,simprocAttr, *]
def zd (a b:Int):Int:=if a<b then -1 else if b<a then 1 else 0
def Cy3 (a b:Int):S u5 2 [.i .i64 a,.i .i64 b]=some [.i .i64 (zd a b)]:=by
 refine Hg7 (N:=1) rfl ?_;unfold zd;simp(disch:=omega)only[Hv2,Av,simprocAttr]
 grind
def Rn (a b:Rec):Int:=
 if Jp a.name b.name≠0 then Jp a.name b.name else if zd a.typ b.typ≠0 then zd a.typ b.typ else Ey1 a.typ a.data b.data
def yl (a b:Rec) (ha:a.wf) (hb:b.wf):S fw 2 [a.pv,b.pv]=some [.i .i64 (Rn a b)]:=by refine Hl9 (N:=1) rfl ?_;have g1:=ha.name;have g2:=hb.name;unfold Lh at g1 g2;unfold Rn;simp(disch:=omega)only[Hw7,J4,Cy3,Ar5 _ _ _ ha.data hb.data,Av,simprocAttr];by_cases h1:Jp a.name b.name=0<;>by_cases h2:zd a.typ b.typ=0<;>simp[h1,h2]
def isK (n:List UInt8) (t:Int) (r:Rec):Bool:=decide (r.name=n) && decide (r.typ=t)
def findR (l:List Rec) (n:List UInt8) (t:Int):List Rec:=l.filter (isK n t)
def Nb (l:List Rec) (n:List UInt8) (t:Int) (hl:l.length≤1000000):S V1 3 [B6 l,.s n,.i .i64 t]=some [B6 (findR l n t)]:=by
 refine Hs2 (N:=l.length+1) rfl ?_;have key:Ej5.ev S (l.length+1) [B6 l,.s n,.i .i64 t]=some (.yld 0 [B6 ([]++findR l n t)]):=by
  refine Ed l (fun i (g:List Rec)=>[B6 g,.i .i64 (i:Int)]) (fun i g r=> .yld 0 [B6 (g++findR r n t)]) (fun i g=>g.length≤i) [] rfl (Db _) (by omega) (fun i g c r hd hi hc hI=> ?_) (fun g hI=> ?_)
  ·left;by_cases h:isK n t c=true
   ·refine⟨g++[c],?_,by simp;omega,by simp[findR,h]⟩;simp[isK] at h;simp(disch:=omega)only[qw,hc,h.1,h.2,Av,simprocAttr]
   ·refine⟨g,?_,by omega,by simp[findR,h]⟩;simp[isK] at h;by_cases h1:c.name=n
    ·simp(disch:=omega)only[qw,hc,h1,h h1,Av,simprocAttr]
    ·simp(disch:=omega)only[qw,hc,h1,Av,simprocAttr]
  ·simp(disch:=omega)only[qw,Av,simprocAttr];simp[findR,Out.goes]
 simp(disch:=omega)only[qw,key,Av,simprocAttr]
def Fn4 (l:List Rec) (n:List UInt8) (t:Int) (hl:l.length≤1000000):S Dg6 3 [B6 l,.s n,.i .i64 t]=some [B6 (findR l n t)]:=by
 refine Jy8 (N:=l.length+1) rfl ?_;have key:Gj1.ev S (l.length+1) [B6 l,.s n,.i .i64 t]=some (.yld 0 [B6 ([]++findR l n t)]):=by
  refine Ed l (fun i (g:List Rec)=>[B6 g,.i .i64 (i:Int)]) (fun i g r=> .yld 0 [B6 (g++findR r n t)]) (fun i g=>g.length≤i) [] rfl (Db _) (by omega) (fun i g c r hd hi hc hI=> ?_) (fun g hI=> ?_)
  ·left;by_cases h:isK n t c=true
   ·refine⟨g++[c],?_,by simp;omega,by simp[findR,h]⟩;simp[isK] at h;simp(disch:=omega)only[Cp0,hc,h.1,h.2,Av,simprocAttr]
   ·refine⟨g,?_,by omega,by simp[findR,h]⟩;simp[isK] at h;by_cases h1:c.name=n
    ·simp(disch:=omega)only[Cp0,hc,h1,h h1,Av,simprocAttr]
    ·by_cases h2:c.typ=t<;>simp(disch:=omega)only[Cp0,hc,h1,h2,Av,simprocAttr]
  ·simp(disch:=omega)only[Cp0,Av,simprocAttr];simp[findR,Out.goes]
 simp(disch:=omega)only[Cp0,key,Av,simprocAttr]
def T6 (a b:List Rec) (ha:a.length≤1000000):S w6 2 [B6 a,B6 b]=some [.b (decide (a=b))]:=by
 refine Hs0 (N:=a.length+1) rfl ?_;by_cases hl:a.length=b.length
 ·have key:Ej4.ev S (a.length+1) [B6 a,B6 b]=some (if a.drop 0=b.drop 0 then .yld 0 [] else .ret [.b false]):=by
   refine E2 a (fun i=>[.i .i64 (i:Int)]) (fun i r=>if r=b.drop i then .yld 0 [] else .ret [.b false]) rfl (by omega) (fun i c r hd hi hc=> ?_) ?_
   ·obtain⟨y,r',hb,hd2,hd3⟩:∃y r',b[i]? =some y∧b.drop i=y::r'∧b.drop (i+1)=r':=⟨b[i]'(by omega),_,Bs (by omega),Dy (by omega),rfl⟩;rw[hd2,hd3];by_cases h:c=y
    ·subst h;left;simp(disch:=omega)only[dq,hc,hb,Av,simprocAttr];simp
    ·right;simp(disch:=omega)only[dq,hc,hb,h,Av,simprocAttr];simp[h,Out.goes]
   ·have hd2:b.drop a.length=[]:=Hz (by omega);rw[hd2];simp(disch:=omega)only[dq,Av,simprocAttr];simp[Out.goes]
  simp only[Fx] at key;by_cases h:a=b
  ·rw[if_pos h] at key;simp(disch:=omega)only[dq,key,Av,simprocAttr]
   try simp[h]
  ·rw[if_neg h] at key;simp(disch:=omega)only[dq,key,Av,simprocAttr]
   try simp[h]
 ·have h:a≠b:=fun h=>hl (by rw[h]);simp(disch:=omega) [dq,h,Av,simprocAttr]
def Zw (x:Rec):List Rec→List Rec
 |[]=>[x]
 |y::r=>if Rn y x<0 then y::Zw x r else if Rn y x=0 then(if x.ttl<y.ttl then x::r else y::r) else x::y::r
def sortR (l:List Rec):List Rec:=l.foldl (fun acc x=>Zw x acc) []
def Nk (x:Rec):List Rec→Nat
 |[]=>0
 |y::r=>if Rn y x<0 then Nk x r+1 else 0
def Bh6 (x:Rec):∀l,Nk x l≤l.length
 |[]=>B7 _
 |y::r=>by have:=Bh6 x r;simp only[Nk];split<;>simp;omega
def Eq4 (x:Rec):∀(l:List Rec),Zw x l=match l[Nk x l]? with
  |some y=>if Rn y x=0 then(if x.ttl<y.ttl then l.set (Nk x l) x else l) else l.take (Nk x l)++[x]++l.drop (Nk x l)
  |none=>l.take (Nk x l)++[x]++l.drop (Nk x l)
 |[]=>rfl
 |y::r=>by
  simp only[Zw,Nk];by_cases h:Rn y x<0
  ·simp only[if_pos h,E1];rw[Eq4 x r];cases h2:r[Nk x r]? with
   |none=>simp
   |some z=>by_cases h3:Rn z x=0<;>by_cases h4:x.ttl<z.ttl<;>simp[h3,h4]
  ·simp only[if_neg h,Dh];by_cases h3:Rn y x=0<;>by_cases h4:x.ttl<y.ttl<;>simp[h3,h4]
def Bl3 (x:Rec):∀l,(Zw x l).length≤l.length+1
 |[]=>by simp[Zw]
 |y::r=>by
  have:=Bl3 x r;simp only[Zw];split
  ·simp;omega
  ·split
   ·split<;>simp
   ·simp
def insR_mem (x:Rec):∀(l:List Rec) (y:Rec),y∈Zw x l→y=x∨y∈l
 |[],y,h=>by simp[Zw] at h;exact .inl h
 |z::r,y,h=>by
  simp only[Zw] at h;split at h
  ·simp at h;rcases h with h|h
   ·exact .inr (by simp[h])
   ·rcases insR_mem x r y h with h|h
    ·exact .inl h
    ·exact .inr (by simp[h])
  ·split at h
   ·split at h
    ·simp at h;rcases h with h|h
     ·exact .inl h
     ·exact .inr (by simp[h])
    ·exact .inr h
   ·simp at h;rcases h with h|h
    ·exact .inl h
    ·exact .inr (by simpa using h)
def Hk1 (l g:List Rec) (i:Nat) (x:Rec) (hx:l[i]? =some x) (hw:∀r∈l,r.wf) (hg:∀r∈g,r.wf) (N:Nat) (hN:g.length<N) (hl:g.length≤1000000):
  Ab2.ev S N [B6 l,B6 g,.i .i64 (i:Int)]=some (.yld 2 [.i .i64 (Nk x g:Int)]):=by
 have key:Ab2.ev S N [B6 l,B6 g,.i .i64 (i:Int)]=some (.yld 2 [.i .i64 ((0+Nk x g:Nat):Int)]):=by
  refine E2 g (fun k=>[.i .i64 (k:Int)]) (fun k r=> .yld 2 [.i .i64 ((k+Nk x r:Nat):Int)]) rfl hN (fun k c r hd hk hc=> ?_) ?_
  ·have h1:=yl c x (hg c (Ck hc)) (hw x (Ck hx));by_cases h:Rn c x<0
   ·left;simp(disch:=omega)only[Sq,hc,hx,h1,h,Av,simprocAttr];refine⟨trivial,?_⟩;simp only[Nk,if_pos h];congr 3;push_cast;omega
   ·right;simp(disch:=omega)only[Sq,hc,hx,h1,Av,simprocAttr];simp[Nk,h,Out.goes]
  ·simp(disch:=omega)only[Sq,Av,simprocAttr];simp[Nk,Out.goes]
 simpa using key
def Hk2 (l:List Rec) (hw:∀r∈l,r.wf) (N:Nat) (hN:l.length<N) (hl:l.length≤1000000):
  Ej3.ev S N [B6 l]=some (.yld 0 [B6 (sortR l)]):=by
 refine Ed l (fun i (g:List Rec)=>[B6 g,.i .i64 (i:Int)]) (fun i g r=> .yld 0 [B6 (r.foldl (fun acc x=>Zw x acc) g)]) (fun i g=>g.length≤i∧∀r∈g,r.wf) [] rfl ⟨B7 _,fun r h=>by cases h⟩ hN (fun i g c r hd hi hc hI=> ?_) (fun g hI=> ?_)
 ·left;obtain⟨h1,h2⟩:=hI;have hcw:=hw c (Ck hc);have h3:=Hk1 l g i c hc hw h2 N (by omega) (by omega);have h4:=Bh6 c g;have h5:=Bl3 c g;refine⟨Zw c g,?_,⟨by omega,fun r hr=> ?_⟩,rfl⟩
  ·rw[Eq4];cases h6:g[Nk c g]? with
   |none=>
    have h7:=Q4.1 h6;have h8:Nk c g=g.length:=by omega
    simp(disch:=first|omega|(simp;omega))only[Sq,hc,h3,h8,Av,simprocAttr];simp
   |some y=>
    have h7:=(Bp.1 h6).1;have h8:=yl y c (h2 y (Ck h6)) hcw;by_cases h9:Rn y c=0
    ·by_cases h10:c.ttl<y.ttl
     ·simp(disch:=omega)only[Sq,hc,h3,h6,h8,h9,h10,Av,simprocAttr]
     ·simp(disch:=omega)only[Sq,hc,h3,h6,h8,h9,h10,Av,simprocAttr]
    ·simp(disch:=first|omega|(simp;omega))only[Sq,hc,h3,h6,h8,h9,Av,simprocAttr];simp
  ·rcases insR_mem c g r hr with h|h
   ·subst h;exact hcw
   ·exact h2 r h
 ·simp(disch:=omega)only[Sq,Av,simprocAttr];simp[Out.goes]
def Xl (l:List Rec) (hw:∀r∈l,r.wf) (hl:l.length≤1000000):S wt 1 [B6 l]=some [B6 (sortR l)]:=by refine Hr9 (N:=l.length+1) rfl ?_;simp(disch:=omega)only[Sq,Hk2 l hw,Av,simprocAttr]
end Go.X.G
/- Zones: what the reference's check gives. -/
namespace Go.X.G
open Go Go.X
def Fl (n top:List UInt8):Bool:=decide (n≠top) && under n top
def Mr (n top:List UInt8) (hn:n.length≤9223372036854775807) (ht:top.length≤9223372036854775807):S S6 2 [.s n,.s top]=some [.b (Fl n top)]:=by
 refine Hr1 (N:=1) rfl ?_;unfold Fl;by_cases h:n=top
 ·simp(disch:=omega)only[Fr3,Gy,h,Av,simprocAttr];simp
 ·simp(disch:=omega)only[Fr3,Gy,h,Av,simprocAttr];simp
def az (l:List Rec) (n:List UInt8) (t:Int):Bool:=decide (0<(findR l n t).length)
def Tb (l:List Rec) (n:List UInt8) (t:Int) (hl:l.length≤1000000):S f9 3 [B6 l,.s n,.i .i64 t]=some [.b (az l n t)]:=by refine Hr8 (N:=1) rfl ?_;unfold az;simp(disch:=omega)only[Hx6,Nb,Av,simprocAttr];simp
def Jl (r x:Rec):Bool:=
 !decide (x.name=r.name)||(!(decide (x.typ=r.typ) && decide (r.typ≠46) && decide (x.ttl≠r.ttl)) && !(decide (x.typ=r.typ) && (decide (r.typ=6)||decide (r.typ=5)||decide (r.typ=39)) && decide (x≠r)) &&
  !(decide (r.typ=5) && decide (x.typ≠5) && decide (x.typ≠46) && decide (x.typ≠47)))
def Px (z:Zone) (r:Rec):Bool:=z.recs.all (Jl r)
def Ed3 (z:Zone) (r:Rec) (N:Nat) (hN:z.recs.length<N) (hz:z.recs.length≤1000000):
  Ej2.ev S N [z.pv,r.pv]=some (if Px z r=true then .yld 0 [] else .ret [.b false]):=by
 refine E2 z.recs (fun i=>[.i .i64 (i:Int)]) (fun i l=>if l.all (Jl r)=true then .yld 0 [] else .ret [.b false]) rfl hN (fun i c l hd hi hc=> ?_) ?_
 ·have key:An8.ev S N ([z.pv,r.pv]++[.i .i64 (i:Int)])=some (if Jl r c=true then .yld 1 [.i .i64 ((i:Int)+1)] else .ret [.b false]):=by
   by_cases h1:c.name=r.name
   ·by_cases h2:c.typ=r.typ
    ·simp(disch:=omega)only[qv,Aj1,hc,h1,h2,Av,simprocAttr];simp only[Jl,h1,h2]
     grind
    ·simp(disch:=omega)only[qv,Aj1,hc,h1,h2,Av,simprocAttr];simp only[Jl,h1,h2]
     grind
   ·simp(disch:=omega)only[qv,hc,h1,Av,simprocAttr];simp[Jl,h1]
  rw[key];rcases Bl (Jl r c) with h|h<;>simp[h,Out.goes]
 ·simp(disch:=omega) [qv,xe,EVP,EV,simprocAttr,Out.goes]
def Ed2 (z:Zone) (r:Rec) (hz:z.recs.length≤1000000):S wn 2 [z.pv,r.pv]=some [.b (Px z r)]:=by refine Hr7 (N:=z.recs.length+1) rfl ?_;simp(disch:=omega)only[qv,Ed3,Av,simprocAttr];cases Px z r<;>simp
def Hp (z:Zone) (r x:Rec):Bool:=
 !(decide (x.typ=39) && Fl r.name x.name) && !(decide (x.typ=2) && Fl x.name z.origin && Fl r.name x.name && decide (r.typ≠1) && decide (r.typ≠28))
def Up (t:Int):Bool:=decide (t=2)||decide (t=43)||decide (t=47)||decide (t=46)||decide (t=1)||decide (t=28)
def Rq (z:Zone) (r:Rec):Bool:=
 if(lbl r.name)[0]? =some [42]∧(r.typ=2∨r.typ=39) then false
 else z.recs.all (Hp z r) && (if Fl r.name z.origin && az z.recs r.name 2 then Up r.typ else decide (r.typ≠43))
def Yy (z:Zone) (r:Rec) (hz:z.wf) (hr:r.wf) (p:PV) (N:Nat) (hN:z.recs.length<N) (hl:z.recs.length≤1000000):
  Ej1.ev S N [z.pv,r.pv,p]=some (if z.recs.all (Hp z r)=true then .yld 0 [] else .ret [.b false]):=by
 have g1:=hz.origin;have g2:=hr.name;unfold Lh at g1 g2;refine E2 z.recs (fun i=>[.i .i64 (i:Int)]) (fun i l=>if l.all (Hp z r)=true then .yld 0 [] else .ret [.b false]) rfl hN (fun i c l hd hi hc=> ?_) ?_
 ·have g3:=(hz.recs.2 c (Ck hc)).name;unfold Lh at g3;have key:An7.ev S N ([z.pv,r.pv,p]++[.i .i64 (i:Int)])=some (if Hp z r c=true then .yld 1 [.i .i64 ((i:Int)+1)] else .ret [.b false]):=by
   by_cases h1:c.typ=39
   ·have h2:c.typ≠2:=by omega
    rcases Bl (Fl r.name c.name) with h3|h3<;>simp(disch:=omega)only[Sk,Mr,hc,h1,h3,Av,simprocAttr]<;>simp[Hp,h1,h3]
   ·by_cases h2:c.typ=2
    ·rcases Bl (Fl r.name c.name) with h3|h3<;>rcases Bl (Fl c.name z.origin) with h4|h4<;>simp(disch:=omega)only[Sk,Mr,hc,h2,h3,h4,Av,simprocAttr]<;>simp[Hp,h2,h3,h4];by_cases h5:r.typ=1<;>by_cases h6:r.typ=28<;>simp[h5,h6]
    ·simp(disch:=omega)only[Sk,hc,h1,h2,Av,simprocAttr];simp[Hp,h1,h2]
  rw[key];rcases Bl (Hp z r c) with h|h<;>simp[h,Out.goes]
 ·simp(disch:=omega) [Sk,xe,EVP,EV,simprocAttr,Out.goes]
def Dd3 (z:Zone) (r:Rec) (hz:z.wf) (hr:r.wf) (hl:z.recs.length≤1000000):S wm 2 [z.pv,r.pv]=some [.b (Rq z r)]:=by
 refine Hr6 (N:=z.recs.length+1) rfl ?_;have g1:=hz.origin;have g2:=hr.name;unfold Lh at g1 g2;have g3:=Gl r.name;have tail:T.ev S (z.recs.length+1) nt [z.pv,r.pv,Cn (lbl r.name)]=some (.ret [.b (z.recs.all (Hp z r) && (if Fl r.name z.origin && az z.recs r.name 2 then Up r.typ else decide (r.typ≠43)))]):=by
  rcases Bl (z.recs.all (Hp z r)) with h0|h0
  ·rcases Bl (Fl r.name z.origin) with h1|h1<;>rcases Bl (az z.recs r.name 2) with h2|h2
   ·simp(disch:=omega)only[Sk,Yy z r hz hr,Mr,Tb,h0,h1,h2,Av,simprocAttr];simp only[Up]
    grind
   all_goals simp(disch:=omega)only[Sk,Yy z r hz hr,Mr,Tb,h0,h1,h2,Av,simprocAttr]
   all_goals simp
  ·simp(disch:=omega)only[Sk,Yy z r hz hr,h0,Av,simprocAttr];simp
 unfold Rq;cases h:lbl r.name with
 |nil=>
  rw[h] at tail;simp(disch:=first|omega|(simp;omega))only[↓tail,Sk,J2,h,Av,simprocAttr];simp
 |cons a l=>
  rw[h] at tail;have g4:0<((a::l).length:Int):=by simp only[Cv];omega
  by_cases h1:a=[42]<;>by_cases h2:r.typ=2<;>by_cases h3:r.typ=39
  all_goals first|omega|skip
  all_goals try subst h1
  all_goals simp(disch:=first|omega|(simp;omega))only[↓tail,Sk,J2,h,h2,h3,Av,simprocAttr]
  all_goals simp[h2,h3, *]
def M6 (z:Zone) (r:Rec):Bool:=under r.name z.origin && !(decide (r.typ=6) && decide (r.name≠z.origin)) && Px z r && Rq z r
def Jh (z:Zone):Int:=
 if vld z.origin=false then 2
 else if 2048<z.recs.length then 9
 else if z.recs.all (fun r=>decide ((findR z.recs r.name r.typ).length≤64))=false then 9
 else if z.recs.all Qb=false then 5
 else if z.recs≠sortR z.recs then 7
 else if(findR z.recs z.origin 6).length≠1∨az z.recs z.origin 2=false then 13
 else if z.recs.all (M6 z)=false then 13
 else 0
def Qz (z:Zone) (N:Nat) (hN:z.recs.length<N) (hl:z.recs.length≤1000000) (p:PV):
  Gk8.ev S N [z.pv,p]=some (if z.recs.all (fun r=>decide ((findR z.recs r.name r.typ).length≤64))=true then .yld 0 [] else .ret [.i .i64 9]):=by
 refine E2 z.recs (fun i=>[.i .i64 (i:Int)]) (fun i l=>if l.all (fun r=>decide ((findR z.recs r.name r.typ).length≤64))=true then .yld 0 [] else .ret [.i .i64 9]) rfl hN (fun i c l hd hi hc=> ?_) ?_
 ·by_cases h:(findR z.recs c.name c.typ).length≤64
  ·left;simp(disch:=omega)only[N7,Nb,hc,Av,simprocAttr];simp[h]
  ·right;simp(disch:=omega)only[N7,Nb,hc,Av,simprocAttr];simp[h,Out.goes]
 ·simp(disch:=omega) [N7,xe,EVP,EV,simprocAttr,Out.goes]
def T7 (z:Zone) (hz:z.wf) (N:Nat) (hN:z.recs.length<N) (hl:z.recs.length≤1000000) (p:PV):
  Ft7.ev S N [z.pv,p]=some (if z.recs.all Qb=true then .yld 0 [] else .ret [.i .i64 5]):=by
 refine E2 z.recs (fun i=>[.i .i64 (i:Int)]) (fun i l=>if l.all Qb=true then .yld 0 [] else .ret [.i .i64 5]) rfl hN (fun i c l hd hi hc=> ?_) ?_
 ·have hw:=hz.recs.2 c (Ck hc);rcases Bl (Qb c) with h|h
  ·left;simp(disch:=omega)only[N7,z7 c hw,hc,h,Av,simprocAttr];simp[h]
  ·right;simp(disch:=omega)only[N7,z7 c hw,hc,h,Av,simprocAttr];simp[h,Out.goes]
 ·simp(disch:=omega) [N7,xe,EVP,EV,simprocAttr,Out.goes]
def Fn5 (z:Zone) (hz:z.wf) (N:Nat) (hN:z.recs.length<N) (hl:z.recs.length≤1000000) (p1 p2 p3 p4 p5:PV):
  Ft6.ev S N [z.pv,p1,p2,p3,p4,p5]=some (if z.recs.all (M6 z)=true then .yld 0 [] else .ret [.i .i64 13]):=by
 have g1:=hz.origin;unfold Lh at g1;refine E2 z.recs (fun i=>[.i .i64 (i:Int)]) (fun i l=>if l.all (M6 z)=true then .yld 0 [] else .ret [.i .i64 13]) rfl hN (fun i c l hd hi hc=> ?_) ?_
 ·have hw:=hz.recs.2 c (Ck hc);have g2:=hw.name;unfold Lh at g2;have key:Ed4.ev S N ([z.pv,p1,p2,p3,p4,p5]++[.i .i64 (i:Int)])=some (if M6 z c=true then .yld 1 [.i .i64 ((i:Int)+1)] else .ret [.i .i64 13]):=by
   rcases Bl (under c.name z.origin) with h1|h1
   ·by_cases h2:c.typ=6<;>by_cases h3:c.name=z.origin
    all_goals try rw[h3] at h1 g2
    all_goals rcases ch2 (Px z c) (Rq z c) with e0|⟨e0,e1⟩|⟨e0,e1⟩
    all_goals simp(disch:=omega)only[N7,Gy,Ed2,Dd3 z c hz hw,hc,h1,h2,h3,xe,EVP,EV,simprocAttr, *]
    all_goals simp[M6,h1,h2,h3, *]
   ·simp(disch:=omega)only[N7,Gy,hc,h1,Av,simprocAttr];simp[M6,h1]
  rw[key];rcases Bl (M6 z c) with h|h<;>simp[h,Out.goes]
 ·simp(disch:=omega) [N7,xe,EVP,EV,simprocAttr,Out.goes]
def Cl9 (z:Zone) (hz:z.wf):S Dh6 1 [z.pv]=some [.i .i64 (Jh z)]:=by
 refine Jc9 (N:=z.recs.length+1) rfl ?_;have g1:=hz.origin;unfold Lh at g1;unfold Jh;rcases Bl (vld z.origin) with h1|h1
 ·by_cases h2:2048<z.recs.length
  ·simp(disch:=omega)only[N7,Gx,h1,h2,Av,simprocAttr]
  ·rcases Bl (z.recs.all (fun r=>decide ((findR z.recs r.name r.typ).length≤64))) with h3|h3
   ·rcases Bl (z.recs.all Qb) with h4|h4
    ·by_cases h5:z.recs=sortR z.recs
     ·by_cases h6:(findR z.recs z.origin 6).length=1
      ·rcases Bl (az z.recs z.origin 2) with h7|h7
       ·rcases Bl (z.recs.all (M6 z)) with h8|h8<;>simp(disch:=omega)only[N7,Gx,Qz,T7 z hz,Fn5 z hz,Xl _ hz.recs.2,T6,Nb,Tb,h1,h2,h3,h4,←h5,h6,h7,h8,Av,simprocAttr]<;>simp
       ·simp(disch:=omega)only[N7,Gx,Qz,T7 z hz,Xl _ hz.recs.2,T6,Nb,Tb,h1,h2,h3,h4,←h5,h6,h7,Av,simprocAttr];simp
      ·simp(disch:=omega)only[N7,Gx,Qz,T7 z hz,Xl _ hz.recs.2,T6,Nb,Tb,h1,h2,h3,h4,←h5,h6,Av,simprocAttr];simp
     ·simp(disch:=omega)only[N7,Gx,Qz,T7 z hz,Xl _ hz.recs.2,T6,h1,h2,h3,h4,h5,Av,simprocAttr]
    ·simp(disch:=omega)only[N7,Gx,Qz,T7 z hz,h1,h2,h3,h4,Av,simprocAttr]
   ·simp(disch:=omega)only[N7,Gx,Qz,h1,h2,h3,Av,simprocAttr]
 ·simp(disch:=omega)only[N7,Gx,h1,Av,simprocAttr]
end Go.X.G
/- The law LookupSoas. -/
namespace Go.X.G
open Go Go.X
def soaR (z:Zone):List Rec:=match findR z.recs z.origin 6 with
 |[]=>[]
 |r::_=>[{r with ttl:=if r.data.e<r.ttl then r.data.e else r.ttl}]
def zero:Dat:=⟨false,0,0,[],[],[],0,0,0,0,0,0,0⟩
end Go.X.G
/- The canonical order of names is a total order. -/
namespace Go.X.G
open Go Go.X
structure TO {α:Type} (lt:α→α→Prop):Prop where
 irr:∀a,¬lt a a
 tr:∀a b c,lt a b→lt b c→lt a c
 tri:∀a b,lt a b∨a=b∨lt b a
def TO.asym {α:Type} {lt:α→α→Prop} (h:TO lt) {a b:α} (h1:lt a b):¬lt b a:=fun h2=>h.irr a (h.tr _ _ _ h1 h2)
def TO.ntr {α:Type} {lt:α→α→Prop} (h:TO lt) {a b c:α} (h1:¬lt a b) (h2:¬lt b c):¬lt a c:=by
 intro h3;rcases h.tri b a with h4|h4|h4
 ·exact h2 (h.tr _ _ _ h4 h3)
 ·subst h4;exact h2 h3
 ·exact h1 h4
def lex {α:Type} (lt:α→α→Prop):List α→List α→Prop
 |[],[]=>False
 |[],_::_=>True
 |_::_,[]=>False
 |a::x,b::y=>lt a b∨(a=b∧lex lt x y)
def Dn6 {α:Type} {lt:α→α→Prop} (h:TO lt):∀x:List α,¬lex lt x x
 |[]=>by simp[lex]
 |a::x=>by simp only[lex,true_and,not_or];exact⟨h.irr a,Dn6 h x⟩
def Ft5 {α:Type} {lt:α→α→Prop} (h:TO lt):∀x y z:List α,lex lt x y→lex lt y z→lex lt x z
 |[],[],_,h1,_=>by simp[lex] at h1
 |[],_::_,[],_,h2=>by simp[lex] at h2
 |[],_::_,_::_,_,_=>by simp[lex]
 |_::_,[],_,h1,_=>by simp[lex] at h1
 |_::_,_::_,[],_,h2=>by simp[lex] at h2
 |a::x,b::y,c::z,h1,h2=>by
  simp only[lex] at h1 h2 ⊢;rcases h1 with h1|⟨rfl,h1⟩
  ·rcases h2 with h2|⟨rfl,h2⟩
   ·exact .inl (h.tr _ _ _ h1 h2)
   ·exact .inl h1
  ·rcases h2 with h2|⟨rfl,h2⟩
   ·exact .inl h2
   ·exact .inr ⟨rfl,Ft5 h x y z h1 h2⟩
def lex_tri {α:Type} {lt:α→α→Prop} (h:TO lt):∀x y:List α,lex lt x y∨x=y∨lex lt y x
 |[],[]=> .inr (.inl rfl)
 |[],_::_=> .inl (by simp[lex])
 |_::_,[]=> .inr (.inr (by simp[lex]))
 |a::x,b::y=>by
  simp only[lex];rcases h.tri a b with h1|rfl|h1
  ·exact .inl (.inl h1)
  ·rcases lex_tri h x y with h2|rfl|h2
   ·exact .inl (.inr ⟨rfl,h2⟩)
   ·exact .inr (.inl rfl)
   ·exact .inr (.inr (.inr ⟨rfl,h2⟩))
  ·exact .inr (.inr (.inl h1))
def TO.lex {α:Type} {lt:α→α→Prop} (h:TO lt):TO (G.lex lt):=⟨Dn6 h,Ft5 h,lex_tri h⟩
def Jx5:TO (fun a b:UInt8=>a<b):=⟨fun a=>UInt8.lt_irrefl a,fun a b c h1 h2=>UInt8.lt_trans h1 h2,fun a b=>by
 rcases UInt8.lt_or_le a b with h|h
 ·exact .inl h
 ·rcases UInt8.lt_or_le b a with h2|h2
  ·exact .inr (.inr h2)
  ·exact .inr (.inl (UInt8.le_antisymm h2 h))⟩
abbrev ltB:List UInt8→List UInt8→Prop:=lex fun a b:UInt8=>a<b
def El4:TO ltB:=Jx5.lex
def Z7:∀a b:List UInt8,Op.bytesLess a b=true↔ltB a b
 |[],[]=>by simp[Op.bytesLess,lex]
 |[],_::_=>by simp[Op.bytesLess,lex]
 |_::_,[]=>by simp[Op.bytesLess,lex]
 |a::x,b::y=>by have ih:=Z7 x y;simp only[Op.bytesLess,Cy,decide_eq_true_eq,Br,beq_iff_eq,lex];rw[ih]
def Xy (a b:List UInt8):cmpS a b<0↔ltB a b:=by
 rw[←Z7];unfold cmpS;cases h:Op.bytesLess a b
 ·simp only[B5,if_false,iff_false];split<;>omega
 ·simp
abbrev ltL:List (List UInt8)→List (List UInt8)→Prop:=lex ltB
def to_L:TO ltL:=El4.lex
def Ch0 (a b:List (List UInt8)):Int:=match Xz a b with
 |some c=>c
 |none=>if a.length<b.length then -1 else if b.length<a.length then 1 else 0
def Bn5:∀a b:List (List UInt8),Ch0 a b<0↔ltL a b
 |[],[]=>by simp[Ch0,Xz,lex]
 |[],_::_=>by simp[Ch0,Xz,lex]
 |_::_,[]=>by simp[Ch0,Xz,lex]
 |x::xs,y::ys=>by
  have ih:=Bn5 xs ys;simp only[Ch0,Xz,lex] at ih ⊢;by_cases h:x=y
  ·subst h;rw[if_pos rfl];simp only[Cv,Nat.add_lt_add_iff_right,true_and];rw[ih];constructor
   ·exact fun h=> .inr h
   ·rintro (h|h)
    ·exact absurd h (El4.irr x)
    ·exact h
  ·rw[if_neg h];simp only;rw[Xy];simp[h]
def Af7 (a b:List (List UInt8)):Af8 a b=Ch0 a.reverse b.reverse:=by unfold Af8 Ch0;cases Xz a.reverse b.reverse<;>simp
def Ex8 (a b:List (List UInt8)):Af8 a b<0↔ltL a.reverse b.reverse:=by rw[←Bn5,Af7]
def ltN (a b:List UInt8):Prop:=if vld a=true then(if vld b=true then ltL (lbl a).reverse (lbl b).reverse else True) else(if vld b=true then False else ltB a b)
def Gs (a b:List UInt8):Jp a b<0↔ltN a b:=by
 unfold ltN;rcases Bl (vld a) with ha|ha
 ·rcases Bl (vld b) with hb|hb
  ·rw[Z3 ha hb,Ex8,if_pos ha,if_pos hb]
  ·unfold Jp;simp[ha,hb]
 ·rcases Bl (vld b) with hb|hb
  ·unfold Jp;simp[ha,hb]
  ·have e:Jp a b=cmpS a b:=by unfold Jp;simp[ha,hb]
   rw[e,Xy];simp[ha,hb]
def to_N:TO ltN:=by
 refine⟨fun a h=> ?_,fun a b c h1 h2=> ?_,fun a b=> ?_⟩
 ·unfold ltN at h;split at h
  ·exact to_L.irr _ h
  ·exact El4.irr _ h
 ·unfold ltN at*;rcases Bl (vld a) with ha|ha<;>rcases Bl (vld b) with hb|hb<;>rcases Bl (vld c) with hc|hc<;>
   simp only[ha,hb,hc,if_true,B5,if_false] at h1 h2 ⊢
  ·exact to_L.tr _ _ _ h1 h2
  ·exact El4.tr _ _ _ h1 h2
 ·unfold ltN;rcases Bl (vld a) with ha|ha<;>rcases Bl (vld b) with hb|hb<;>simp only[ha,hb,if_true,B5,if_false]
  ·rcases to_L.tri (lbl a).reverse (lbl b).reverse with h|h|h
   ·exact .inl h
   ·exact .inr (.inl (On ha hb (List.reverse_inj.1 h)))
   ·exact .inr (.inr h)
  ·simp
  ·simp
  ·exact El4.tri a b
def Kz {a b:List UInt8}:Jp a b=0↔a=b:=by
 constructor
 ·intro h;rcases Bl (vld a) with ha|ha
  ·rcases Bl (vld b) with hb|hb
   ·rw[Z3 ha hb] at h;have key:∀x y:List (List UInt8),Ch0 x y=0→x=y:=by
     intro x
     induction x with
     |nil=>intro y hy;cases y with
      |nil=>rfl
      |cons=>simp[Ch0,Xz] at hy
     |cons x xs ih=>intro y hy;cases y with
      |nil=>simp[Ch0,Xz] at hy
      |cons y ys=>
       simp only[Ch0,Xz] at hy ih;by_cases e:x=y
       ·subst e;rw[if_pos rfl] at hy;simp only[Cv,Nat.add_lt_add_iff_right] at hy;rw[ih ys hy]
       ·rw[if_neg e] at hy;exact absurd (Ky.1 hy) e
    rw[Af7] at h;exact On ha hb (List.reverse_inj.1 (key _ _ h))
   ·unfold Jp at h;simp[ha,hb] at h
  ·rcases Bl (vld b) with hb|hb
   ·unfold Jp at h;simp[ha,hb] at h
   ·have e:Jp a b=cmpS a b:=by unfold Jp;simp[ha,hb]
    rw[e] at h;exact Ky.1 h
 ·rintro rfl;have h1:=Gs a a;have h2:¬Jp a a<0:=fun h=>to_N.irr a (h1.1 h);have key:∀x:List (List UInt8),Ch0 x x=0:=by
   intro x
   induction x with
   |nil=>rfl
   |cons x xs ih=>
    simp only[Ch0,Xz] at ih ⊢;simp only[if_true,Cv,Nat.add_lt_add_iff_right];exact ih
  rcases Bl (vld a) with ha|ha
  ·rw[Z3 ha ha];rw[Af7];exact key _
  ·have e:Jp a a=cmpS a a:=by unfold Jp;simp[ha]
   rw[e];exact Ky.2 rfl
end Go.X.G
/- Sorted lists of names, each once. -/
namespace Go.X.G
open Go Go.X
def Wt {α:Type} (e:α→α→Bool):α→List α→List α
 |_,[]=>[]
 |p,c::r=>if e c p=true then Wt e c r else c::Wt e c r
def cpt {α:Type} (e:α→α→Bool):List α→List α
 |[]=>[]
 |x::r=>x::Wt e x r
def zc {α:Type} (e:α→α→Bool) (c:α):∀(r:List α) (p:α),Wt e p (r++[c])=Wt e p r++(if e c ((p::r).getLast (by simp))=true then [] else [c])
 |[],p=>by simp only[Dc,Wt,List.getLast_singleton];rfl
 |x::r,p=>by
  have ih:=zc e c r x;simp only[Dd,Wt,List.getLast_cons_cons];split
  ·exact ih
  ·rw[ih];rfl
def Qk {α:Type} (e:α→α→Bool) (c:α) (l:List α) (h:l≠[]):cpt e (l++[c])=cpt e l++(if e c (l.getLast h)=true then [] else [c]):=by
 cases l with
 |nil=>exact absurd rfl h
 |cons x r=>
  show x::Wt e x (r++[c])=_;rw[zc];rfl
def Bm9 {α:Type} (e:α→α→Bool):∀(r:List α) (p:α),(Wt e p r).length≤r.length
 |[],_=>by simp[Wt]
 |c::r,p=>by have:=Bm9 e r c;simp only[Wt];split<;>simp<;>omega
def nv {α:Type} (e:α→α→Bool) (l:List α):(cpt e l).length≤l.length:=by
 cases l with
 |nil=>simp[cpt]
 |cons x r=>have:=Bm9 e r x;simp[cpt];exact this
def nw {α:Type} (e:α→α→Bool):∀(r:List α) (p:α),∀x∈Wt e p r,x∈r
 |[],_,x,h=>by simp[Wt] at h
 |c::r,p,x,h=>by
  simp only[Wt] at h;split at h
  ·exact .tail _ (nw e r c x h)
  ·rcases Cj.1 h with rfl|h
   ·exact .head _
   ·exact .tail _ (nw e r c x h)
def Gr9 {α:Type} (e:α→α→Bool) (l:List α):∀x∈cpt e l,x∈l:=by
 cases l with
 |nil=>intro x h;simp[cpt] at h
 |cons y r=>
  intro x h;rcases Cj.1 (show x∈y::Wt e y r from h) with rfl|h
  ·exact .head _
  ·exact .tail _ (nw e r y x h)
abbrev eqs {α:Type} [DecidableEq α]:α→α→Bool:=fun a b=>decide (a=b)
def cptG_mem {α:Type} [DecidableEq α]:∀(r:List α) (p x:α),x∈r→x=p∨x∈Wt eqs p r
 |[],_,x,h=>by simp at h
 |c::r,p,x,h=>by
  simp only[Wt];by_cases hc:c=p
  ·subst hc;rw[if_pos (by simp[eqs])];rcases Cj.1 h with rfl|h
   ·exact .inl rfl
   ·exact cptG_mem r c x h
  ·rw[if_neg (by simp[eqs,hc])];right;rcases Cj.1 h with rfl|h
   ·exact .head _
   ·rcases cptG_mem r c x h with rfl|h
    ·exact .head _
    ·exact .tail _ h
def Gs0 {α:Type} [DecidableEq α] (l:List α) (x:α):x∈cpt eqs l↔x∈l:=by
 refine⟨Gr9 _ l x,fun h=> ?_⟩;cases l with
 |nil=>simp at h
 |cons y r=>
  rcases Cj.1 h with rfl|h
  ·exact .head _
  ·rcases cptG_mem r y x h with rfl|h
   ·exact .head _
   ·exact .tail _ h
def Z1 {α:Type} [DecidableEq α] {lt:α→α→Prop} (ht:TO lt):∀(r:List α) (p:α),(p::r).Pairwise (fun a b=>¬lt b a)→(p::Wt eqs p r).Pairwise lt
 |[],p,_=>by simp[Wt]
 |c::r,p,h=>by
  rw[Cd] at h;have ih:=Z1 ht r c h.2;simp only[Wt];by_cases hc:c=p
  ·subst hc;rw[if_pos (by simp[eqs])];exact ih
  ·rw[if_neg (by simp[eqs,hc])];rw[Cd];refine⟨fun x hx=> ?_,ih⟩;have hpc:lt p c:=by
    rcases ht.tri p c with h1|h1|h1
    ·exact h1
    ·exact absurd h1.symm hc
    ·exact absurd h1 (h.1 c (.head _))
   rcases Cj.1 hx with rfl|hx
   ·exact hpc
   ·exact ht.tr _ _ _ hpc ((Cd.1 ih).1 x hx)
def Cg7 {α:Type} [DecidableEq α] {lt:α→α→Prop} (ht:TO lt) (l:List α) (h:l.Pairwise (fun a b=>¬lt b a)):(cpt eqs l).Pairwise lt:=by
 cases l with
 |nil=>simp[cpt]
 |cons x r=>exact Z1 ht r x h
def Yv {α:Type} {lt:α→α→Prop} (ht:TO lt):∀(a b:List α),a.Pairwise lt→b.Pairwise lt→(∀x,x∈a↔x∈b)→a=b
 |[],[],_,_,_=>rfl
 |[],y::b,_,_,h=>absurd ((h y).2 (.head _)) (by simp)
 |x::a,[],_,_,h=>absurd ((h x).1 (.head _)) (by simp)
 |x::a,y::b,ha,hb,h=>by
  rw[Cd] at ha hb;have hxy:x=y:=by
   rcases Cj.1 ((h x).1 (.head _)) with h1|h1
   ·exact h1
   ·rcases Cj.1 ((h y).2 (.head _)) with h2|h2
    ·exact h2.symm
    ·exact absurd (hb.1 x h1) (ht.asym (ha.1 y h2))
  subst hxy;rw[Yv ht a b ha.2 hb.2 fun z=> ?_];constructor
  ·intro hz;rcases Cj.1 ((h z).1 (.tail _ hz)) with rfl|h1
   ·exact absurd (ha.1 z hz) (ht.irr z)
   ·exact h1
  ·intro hz;rcases Cj.1 ((h z).2 (.tail _ hz)) with rfl|h1
   ·exact absurd (hb.1 z hz) (ht.irr z)
   ·exact h1
def setN (l:List (List UInt8)):List (List UInt8):=cpt eqs (l.mergeSort fun x y=> !decide (Jp y x<0))
def Gl0 (l:List (List UInt8)):(l.mergeSort fun x y=> !decide (Jp y x<0)).Pairwise (fun a b=>¬ltN b a):=by
 have:=List.pairwise_mergeSort (le:=fun x y:List UInt8=> !decide (Jp y x<0)) (fun a b c h1 h2=>by
  simp only[Cg,decide_eq_false_iff_not,Gs] at h1 h2 ⊢;exact to_N.ntr h2 h1) (fun a b=>by
  simp only[Cy,Cg,decide_eq_false_iff_not,Gs];rcases to_N.tri a b with h|h|h
  ·exact .inl (to_N.asym h)
  ·subst h;exact .inl (to_N.irr a)
  ·exact .inr (to_N.asym h)) l
 refine this.imp fun {a b} h=> ?_;simpa only[Cg,decide_eq_false_iff_not,Gs] using h
def Q8 (l:List (List UInt8)):(setN l).Pairwise ltN:=Cg7 to_N _ (Gl0 l)
def M4 (l:List (List UInt8)) (x:List UInt8):x∈setN l↔x∈l:=by unfold setN;rw[Gs0];exact(List.mergeSort_perm _ _).mem_iff
def W5 (l:List (List UInt8)):(setN l).length≤l.length:=by have:=nv eqs (l.mergeSort fun x y=> !decide (Jp y x<0));rw[Ak6] at this;exact this
end Go.X.G
/- Records that go out of a list. -/
namespace Go.X.G
open Go Go.X
def s4 {step:List PV→Option Out} {id:Nat} {α:Type} (st:α→List PV) (Q:Out→Prop) (I:α→Prop) (μ:α→Nat)
  (h:∀a,I a→(∃b,step (st a)=some (.yld id (st b))∧I b∧μ b<μ a)∨∃o,step (st a)=some o∧o.goes id=false∧Q o):
  ∀(n:Nat) (a:α),I a→μ a<n→∃o,Iy step id n (st a)=some o∧Q o
 |0,a,_,hn=>by omega
 |n+1,a,ha,hn=>by
  simp only[Iy];rcases h a ha with⟨b,h1,h2,h3⟩|⟨o,h1,h2,h3⟩
  ·rw[h1];simp only[B0,if_true];exact s4 st Q I μ h n b h2 (by omega)
  ·rw[h1];refine⟨o,?_,h3⟩;simp only[B0];cases o with
   |ret vs=>rfl
   |yld j vs=>
    simp only[Out.goes,beq_eq_false_iff_ne,ne_eq] at h2;simp only[];rw[if_neg h2]
def Jd {fn:Fns} {N:Nat} {η:List PV} {id:Nat} {init:List E} {body:T} {α:Type} (st:α→List PV) (Q:Out→Prop) (I:α→Prop) (μ:α→Nat) (a0:α)
  (h0:E.evs η init=some (st a0)) (hI:I a0) (hN:μ a0<N)
  (h:∀a,I a→(∃b,body.ev fn N (η++st a)=some (.yld id (st b))∧I b∧μ b<μ a)∨∃o,body.ev fn N (η++st a)=some o∧o.goes id=false∧Q o):
  ∃o,(T.loop id init body).ev fn N η=some o∧Q o:=by
 simp only[T.ev,h0,B0];exact s4 st Q I μ h N a0 hI hN
abbrev zr:Rec:=⟨[],0,0,⟨false,0,0,[],[],[],0,0,0,0,0,0,0⟩⟩
abbrev As1:PV:=Rec.pv ⟨[],0,0,⟨false,0,0,[],[],[],0,0,0,0,0,0,0⟩⟩
def Il8 (p:Rec→Bool):∀(l:List Rec) (k:Nat),ixF p k l=ixG p k l
 |[],_=>rfl
 |r::rs,k=>by simp only[ixF,ixG,Il8 p rs]
def c8 (l:List Rec) (g:Nat) (caps:List PV) (p:Rec→Bool) (hl:l.length≤1000000) (h:∀r∈l,S g 1 (r.pv::caps)=some [.b (p r)]):S Ay4 2 [B6 l,.f g caps]=some [.i .i64 (ixG p 0 l)]:=by rw[←Il8];exact T3 l g caps p hl h
def Bf2 (n:Int) (h0:0≤n) (h1:n≤1073741824):N2 16 (.i .i64 n) As1=some (B6 (List.replicate n.toNat zr)):=by
 have h2:n≤(LIM:Int):=by simp only[LIM];omega
 have h3:As1.cells.length=16:=rfl;simp only[N2,h0,h2,h3,and_self,if_true];simp[B6,Rec.pv,Rec.cells,Dat.cells]
def i8 (l:List Rec) (g:Nat) (caps:List PV) (p:Rec→Bool) (hl:l.length≤1000000) (h:∀r∈l,S g 1 (r.pv::caps)=some [.b (p r)]):S lr 1048578 [B6 l,.f g caps]=some [B6 (l.filter fun x=> !p x)]:=by
 refine Jc1 (N:=l.length+1) rfl ?_;have h0:=c8 l g caps p hl h;have hany:=(Ac2 p l 0);by_cases hneg:ixG p 0 l= -1
 ·have hf:l.any p=false:=by
   rcases Bl (l.any p) with h1|h1
   ·have:=hany.1.2 h1;omega
   ·exact h1
  have e:l.filter (fun x=> !p x)=l:=Mn p (fun x hx=>by rw[List.any_eq_false] at hf;simpa using hf x hx);rw[hneg] at h0;rw[e];simp(disch:=omega)only[Cp4,h0,EVT,Ak,simprocAttr]
 ·obtain⟨j0,g1,g2,g3,x0,g4,g5⟩:=yw p l 0 (by have:=hany.2.2;omega);rw[g1] at h0;simp only[F5] at h0;have key:∃s:List Rec,s.length=l.length∧s.take (l.filter fun x=> !p x).length=l.filter (fun x=> !p x)∧Gk2.ev S (l.length+1) [B6 l,.f g caps,.i .i64 (j0:Int)]=some (.yld 0 [.i .i64 (((l.filter fun x=> !p x).length:Nat):Int),B6 s]):=by
   let nx:Nat×Nat×List Rec→Nat×Nat×List Rec:=fun a=>match l[a.2.1]? with
    |some c=>if p c=true then(a.1,a.2.1+1,a.2.2) else(a.1+1,a.2.1+1,a.2.2.set a.1 c)
    |none=>a
   let fin:Nat→Nat×Nat×List Rec→Nat×Nat×List Rec:=fun n a=>Nat.rec a (fun _ b=>nx b) n;have fin_s:∀n a,fin (n+1) a=nx (fin n a):=fun _ _=>rfl;have fin_c:∀n a,fin (n+1) a=fin n (nx a):=by
    intro n
    induction n with
    |zero=>intro a;rfl
    |succ n ih=>intro a;exact congrArg nx (ih a)
   let I:Nat×Nat×List Rec→Prop:=fun a=>a.1<a.2.1∧a.2.1≤l.length∧a.2.2.length=l.length∧a.2.2.take a.1=(l.take a.2.1).filter (fun x=> !p x)∧a.2.2.drop a.2.1=l.drop a.2.1;have I_nx:∀a,I a→a.2.1<l.length→I (nx a)∧(nx a).2.1=a.2.1+1:=by
    rintro⟨i,j,s⟩ ⟨i1,i2,i3,i4,i5⟩ hj;simp only at i1 i2 i3 i4 i5 hj;have hc:l[j]? =some l[j]:=Bs hj;have ht:l.take (j+1)=l.take j++[l[j]]:=by rw[Df,hc];rfl
    have hdrop:s.drop (j+1)=l.drop (j+1):=by rw[←D5 (i:=1) (j:=j),i5,D5]
    have hlen:i=((l.take j).filter fun x=> !p x).length:=by rw[←i4,Cq];omega
    simp only[nx,hc];rcases Bl (p l[j]) with h1|h1
    ·simp only[h1,if_true];refine⟨⟨by simp only;omega,by simp only;omega,i3,?_,hdrop⟩,trivial⟩;simp only;rw[ht,F1,i4];simp[h1]
    ·simp only[h1,B5,if_false];refine⟨⟨by simp only;omega,by simp only;omega,by simpa using i3,?_,?_⟩,trivial⟩
     ·simp only;rw[ht,F1,←i4,Df,jw (by omega),List.take_set_of_le (by omega)];simp[h1]
     ·simp only;rw[W1 (by omega),hdrop]
   have I_fin:∀n a,I a→a.2.1+n≤l.length→I (fin n a)∧(fin n a).2.1=a.2.1+n:=by
    intro n
    induction n with
    |zero=>intro a ha _;exact⟨ha,rfl⟩
    |succ n ih=>
     intro a ha hn;obtain⟨q1,q2⟩:=ih a ha (by omega);obtain⟨q3,q4⟩:=I_nx _ q1 (by omega);rw[fin_s];exact⟨q3,by rw[q4,q2];omega⟩
   have I0:I (j0,j0+1,l):=by refine⟨by simp only;omega,by simp only;omega,rfl,?_,rfl⟩;simp only;rw[Df,g4,F1,Mn p g3];simp[g5]
   obtain⟨z1,z2⟩:=I_fin (l.length - (j0+1)) (j0,j0+1,l) I0 (by simp only;omega);simp only at z2;refine⟨(fin (l.length - (j0+1)) (j0,j0+1,l)).2.2,z1.2.2.1,?_,?_⟩
   ·have q:=z1.2.2.2.1;have e1:(fin (l.length - (j0+1)) (j0,j0+1,l)).2.1=l.length:=by rw[z2];omega
    rw[e1,Es] at q;rw[←q,Cq,z1.2.2.1];have:=z1.1;rw[Mq (by omega)]
   ·have hlen:(fin (l.length - (j0+1)) (j0,j0+1,l)).1=(l.filter fun x=> !p x).length:=by
     have q:=z1.2.2.2.1;have e1:(fin (l.length - (j0+1)) (j0,j0+1,l)).2.1=l.length:=by rw[z2];omega
     rw[e1,Es] at q;have q2:=congrArg List.length q;have:=z1.1;rw[Cq,z1.2.2.1,Mq (by omega)] at q2;exact q2
    refine Eq.trans (Jc (α:=Nat×Nat×List Rec) (fun a=>[.i .i64 (a.1:Int),.i .i64 (a.2.1:Int),B6 a.2.2]) (fun a=> .yld 0 [.i .i64 ((fin (l.length - a.2.1) a).1:Int),B6 (fin (l.length - a.2.1) a).2.2]) I (fun a=>l.length - a.2.1) (j0,j0+1,l) ?_ I0 (by simp only;omega) ?_) ?_
    ·simp(disch:=omega)only[EVT,Ak,simprocAttr]
    ·rintro⟨i,j,s⟩ hI;obtain⟨i1,i2,i3,i4,i5⟩:=hI;simp only at i1 i2 i3 i4 i5;by_cases hj:j<l.length
     ·left;have hc:l[j]? =some l[j]:=Bs hj;have hsc:s[j]? =some l[j]:=by have:=congrArg (fun q=>q[0]?) i5;simpa [Cm,hc] using this
      have hsi:∃y,s[i]? =some y:=⟨_,Bs (by omega)⟩;obtain⟨y,hsi⟩:=hsi;obtain⟨q3,q4⟩:=I_nx (i,j,s) ⟨i1,i2,i3,i4,i5⟩ hj;have hp:=h l[j] (Fv hj);refine⟨nx (i,j,s),?_,q3,by rw[q4];simp only;omega,?_⟩
      ·have hjs:(j:Int)<(s.length:Int):=by omega
       rcases Bl (p l[j]) with h1|h1
       ·rw[h1] at hp;simp only[nx,hc,h1,if_true];simp(disch:=omega)only[Cp4,hjs,hsc,hp,EVT,Ak,simprocAttr]
       ·rw[h1] at hp;simp only[nx,hc,h1,B5,if_false];simp(disch:=omega)only[Cp4,hjs,hsc,hsi,hp,EVT,Ak,simprocAttr]
      ·have e1:l.length - j=(l.length - (j+1))+1:=by omega
       rw[q4];simp only;rw[e1,fin_c]
     ·right;have hjs:¬(j:Int)<(s.length:Int):=by omega
      have e1:l.length - j=0:=by omega
      simp only[e1];simp(disch:=omega)only[Cp4,hjs,EVT,Ak,simprocAttr];exact⟨rfl,rfl⟩
    ·simp only;rw[hlen]
  obtain⟨s,hs1,hs2,key⟩:=key;have hle:(l.filter fun x=> !p x).length≤l.length:=Ef _ _;have e0:¬((j0:Int)= -1):=by omega
  generalize (l.filter fun x=> !p x)=fl at*;have hsl1:I7 16 (B6 s) (.i .i64 ((fl.length:Nat):Int)) (.i .i64 (s.length:Int))=some (B6 (s.drop fl.length)):=by rw[Jb _ _ _ _ _ (by omega) (by omega) (by omega)];simp
  have hsl2:I7 16 (B6 s) (.i .i64 0) (.i .i64 ((fl.length:Nat):Int))=some (B6 fl):=by rw[Jb _ _ _ _ _ (by omega) (by omega) (by omega)];simp[hs2]
  have hrep:N2 16 (.i .i64 ((s.length:Int) - (fl.length:Int))) As1=some (B6 (List.replicate (s.length - fl.length) zr)):=by rw[Bf2 _ (by omega) (by omega)];congr 3;omega
  have happ:J1 16 (B6 fl) (B6 (List.replicate (s.length - fl.length) zr))=some (B6 (fl++List.replicate (s.length - fl.length) zr)):=Xd _ _ (by simp;omega);have hsl3:I7 16 (B6 (fl++List.replicate (s.length - fl.length) zr)) (.i .i64 0) (.i .i64 ((fl.length:Nat):Int))=some (B6 fl):=by rw[Jb _ _ _ _ _ (by omega) (by omega) (by simp;omega)];simp
  simp(disch:=omega)only[Cp4,h0,e0,key,hsl1,hsl2,hrep,happ,hsl3,EVT,Ak,simprocAttr]
def Gs4:PV→PV→Int
 | .s a,.s b=>Jp a b
 |_,_=>0
def ol (l:List (List UInt8)) (hl:l.length≤1000000) (hs:∀x∈l,x.length≤9223372036854775807):S ln 1048578 [Cn l,.f Rx []]=some [Cn (l.mergeSort fun x y=> !decide (Jp y x<0))]:=by
 have hm:∀x∈l.map PV.s,∃a∈l,x= .s a:=fun x hx=>by obtain⟨a,h1,h2⟩:=Fc.1 hx;exact⟨a,h1,h2.symm⟩
 have h:=Bd6 (tab:=tab) (xs:=Gn8) (ss:=bj) (f:=ln) (s:=Fs1) Hc0 Hc5 (g:=Rx) (caps:=[]) (l:=l.map PV.s) (by decide) (by simp;omega)
  (fun x hx=>by obtain⟨a,_,rfl⟩:=hm x hx;rfl) Gs4
  (fun x hx y hy=>by obtain⟨a,ha,rfl⟩:=hm x hx;obtain⟨b,hb,rfl⟩:=hm y hy;exact J3 a b (hs a ha) (hs b hb))
  (fun x hx=>by obtain⟨a,_,rfl⟩:=hm x hx;show¬Jp a a<0;rw[Gs];exact to_N.irr a)
  (fun x hx y hy z hz h1 h2=>by obtain⟨a,_,rfl⟩:=hm x hx;obtain⟨b,_,rfl⟩:=hm y hy;obtain⟨c,_,rfl⟩:=hm z hz;exact(Gs a c).2 (to_N.tr _ _ _ ((Gs a b).1 h1) ((Gs b c).1 h2)))
  (fun x hx y hy z hz h1 h2=>by obtain⟨a,_,rfl⟩:=hm x hx;obtain⟨b,_,rfl⟩:=hm y hy;obtain⟨c,_,rfl⟩:=hm z hz;exact fun h3=>to_N.ntr (fun q=>h1 ((Gs a b).2 q)) (fun q=>h2 ((Gs b c).2 q)) ((Gs a c).1 h3))
  (fun x hx y hy h1 h2=>by
   obtain⟨a,_,rfl⟩:=hm x hx;obtain⟨b,_,rfl⟩:=hm y hy;rcases to_N.tri a b with q|q|q
   ·exact absurd ((Gs a b).2 q) h1
   ·rw[q]
   ·exact absurd ((Gs b a).2 q) h2)
 have e:(l.map PV.s).mergeSort (fun x y=> !decide (Gs4 y x<0))=(l.mergeSort fun x y=> !decide (Jp y x<0)).map PV.s:=(Jk4 (r:=fun x y=> !decide (Jp y x<0)) (s:=fun x y=> !decide (Gs4 y x<0)) (f:=PV.s) fun a _ b _=>rfl).symm;rw[e] at h;exact h
def Rp (l:List (List UInt8)) (hl:l.length≤1000000):S Y2 1048577 [Cn l]=some [Cn (cpt eqs l)]:=by
 refine Ij0 (N:=l.length+2) rfl ?_;by_cases h2:(l.length:Int)<2
 ·have e:cpt eqs l=l:=by
   match l,h2 with
   |[],_=>rfl
   |[x],_=>rfl
   |_::_::_,h=>simp at h;omega
  rw[e];simp(disch:=omega)only[Sx,h2,EVT,Ak,simprocAttr]
 ·-- the inner Iy, from a place where two neighbours are equal
  have inner:∀k:Nat,1≤k→k<l.length→cpt eqs (l.take (k+1))=l.take k→∃s:List (List UInt8),s.length=l.length∧s.take (cpt eqs l).length=cpt eqs l∧Dr5.ev S (l.length+2) [Cn l,.i .i64 (k:Int),Cn l]=some (.yld 2 [.i .i64 ((cpt eqs l).length:Int),Cn s]):=by
   intro k hk1 hk hcp;have key:=Jd (fn:=S) (N:=l.length+2) (η:=[Cn l,.i .i64 (k:Int),Cn l]) (id:=3) (init:=[(.v 1),(.c (.i .i64 (1))),(.v 2)]) (body:=Am5) (α:=Nat×Nat×List (List UInt8))
    (fun a=>[.i .i64 (a.1:Int),.i .i64 (a.2.1:Int),Cn a.2.2])
    (fun o=>∃s:List (List UInt8),s.length=l.length∧s.take (cpt eqs l).length=cpt eqs l∧o= .yld 2 [.i .i64 ((cpt eqs l).length:Int),Cn s])
    (fun a=>1≤a.2.1∧k+a.2.1≤l.length∧a.1<k+a.2.1∧a.2.2.length=l.length∧a.2.2.take a.1=cpt eqs (l.take (k+a.2.1))∧(cpt eqs (l.take (k+a.2.1))).length=a.1∧a.2.2.drop (k+a.2.1 - 1)=l.drop (k+a.2.1 - 1))
    (fun a=>l.length - a.2.1) (k,1,l) (by simp(disch:=omega)only[EVT,Ak,simprocAttr])
    ⟨by simp,by simp;omega,by simp,rfl,by simp only;rw[hcp],by simp only;rw[hcp,Cq];omega,rfl⟩ (by simp only;omega) ?_
   ·obtain⟨o,h3,s,h4,h5,rfl⟩:=key;exact⟨s,h4,h5,h3⟩
   ·rintro⟨i,j,s⟩ ⟨a1,a2,a3,a4,a5,a6,a7⟩;simp only at a1 a2 a3 a4 a5 a6 a7;by_cases hj:k+j<l.length
    ·left;have c1:s[k+j]? =l[k+j]? :=by have:=congrArg (fun q=>q[1]?) a7;simp only[Cm] at this;rwa[show k+j - 1+1=k+j by omega] at this
     have c0:s[k+j - 1]? =l[k+j - 1]? :=by have:=congrArg (fun q=>q[0]?) a7;simpa only[Cm,E7] using this
     have g1:l[k+j]? =some (l[k+j]'hj):=Bs hj;have g0:l[k+j - 1]? =some (l[k+j - 1]'(by omega)):=Bs (by omega);have tk:l.take (k+(j+1))=l.take (k+j)++[l[k+j]'hj]:=by rw[show k+(j+1)=(k+j)+1 by omega,Df,g1];rfl
     have ne:l.take (k+j)≠[]:=by intro h;have:=congrArg List.length h;rw[Cq,C3] at this;omega
     have gl:(l.take (k+j)).getLast ne=l[k+j - 1]'(by omega):=by rw[Lt];simp only[As0,Cq];congr 1;omega
     have cs:=Qk eqs (l[k+j]'hj) (l.take (k+j)) ne;rw[←tk,gl] at cs;generalize l[k+j]'hj=x at*;generalize l[k+j - 1]'(by omega)=y at*;have hjj:(j:Int)<(s.length:Int) - (k:Int):=by omega
     have i1:Jf 1 (Cn s) (.i .i64 ((k:Int)+(j:Int)))=some (.s x):=by rw[P6 _ _ _ (by omega),show ((k:Int)+(j:Int)).toNat=k+j by omega,c1,g1];rfl
     have i0:Jf 1 (Cn s) (.i .i64 ((k:Int)+((j:Int) - 1)))=some (.s y):=by rw[P6 _ _ _ (by omega),show ((k:Int)+((j:Int) - 1)).toNat=k+j - 1 by omega,c0,g0];rfl
     have ls:I7 1 (Cn s) (.i .i64 (k:Int)) (.i .i64 (s.length:Int))=some (Cn (s.drop k)):=by rw[L5 _ _ _ _ _ (by omega) (by omega) (by omega)];simp
     have e1:(s.drop k)[j]? =some x:=by rw[Cm,c1,g1]
     have e0:(s.drop k)[j - 1]? =some y:=by rw[Cm,show k+(j - 1)=k+j - 1 by omega,c0,g0]
     have si:∃w,s[i]? =some w:=⟨_,Bs (by omega)⟩;obtain⟨w,si⟩:=si;have ej:((j:Int) - 1).toNat=j - 1:=by omega
     by_cases hxy:x=y
     ·refine⟨(i,j+1,s),?_,⟨by simp,by simp only;omega,by simp only;omega,a4,?_,?_,?_⟩,by simp only;omega⟩
      ·simp(disch:=omega)only[Sx,hjj,i1,i0,ls,e1,e0,ej,hxy,EVT,Ak,simprocAttr]
      ·simp only;rw[cs,a5];simp[eqs,hxy]
      ·simp only;rw[cs,B3,a6];simp[eqs,hxy]
      ·simp only;rw[show k+(j+1) - 1=(k+j - 1)+1 by omega,←D5,←D5,a7]
     ·refine⟨(i+1,j+1,s.set i x),?_,⟨by simp,by simp only;omega,by simp only;omega,by simpa using a4,?_,?_,?_⟩,by simp only;omega⟩
      ·simp(disch:=omega)only[Sx,hjj,i1,i0,ls,e1,e0,ej,si,hxy,EVT,Ak,simprocAttr]
      ·simp only;rw[cs,Df,jw (by omega),List.take_set_of_le (by omega),a5];simp[eqs,hxy]
      ·simp only;rw[cs,B3,a6];simp[eqs,hxy]
      ·simp only;rw[show k+(j+1) - 1=(k+j - 1)+1 by omega,W1 (by omega),←D5,←D5,a7]
    ·right;have ek:k+j=l.length:=by omega
     rw[ek,Es] at a5 a6;have hjj:¬(j:Int)<(s.length:Int) - (k:Int):=by omega
     refine⟨.yld 2 [.i .i64 (i:Int),Cn s],?_,rfl,s,a4,by rw[a6];exact a5,by rw[a6]⟩;simp(disch:=omega)only[Sx,hjj,EVT,Ak,simprocAttr]
  have key:Ek0.ev S (l.length+2) [Cn l]=some (if cpt eqs l=l then .yld 0 [Cn l] else .ret [Cn (cpt eqs l)]):=by
   have:=Jd (fn:=S) (N:=l.length+2) (η:=[Cn l]) (id:=1) (init:=[(.c (.i .i64 (1))),(.v 0)]) (body:=Ap2) (α:=Nat)
    (fun k=>[.i .i64 (k:Int),Cn l]) (fun o=>o=if cpt eqs l=l then .yld 0 [Cn l] else .ret [Cn (cpt eqs l)])
    (fun k=>1≤k∧k≤l.length∧cpt eqs (l.take k)=l.take k) (fun k=>l.length - k) 1 (by simp(disch:=omega)only[EVT,Ak,simprocAttr])
    ⟨B7 1,by omega,by cases l with
     |nil=>simp at h2
     |cons x r=>rfl⟩ (by omega) ?_
   ·obtain⟨o,h3,h4⟩:=this;rw[←h4];exact h3
   ·rintro k ⟨k1,k2,k3⟩;by_cases hk:k<l.length
    ·have g1:l[k]? =some l[k]:=Bs hk;have g0:l[k - 1]? =some (l[k - 1]'(by omega)):=Bs (by omega);have tk:l.take (k+1)=l.take k++[l[k]]:=by rw[Df,g1];rfl
     have ne:l.take k≠[]:=by intro h;have:=congrArg List.length h;rw[Cq,C3] at this;omega
     have gl:(l.take k).getLast ne=l[k - 1]'(by omega):=by rw[Lt];simp only[As0,Cq];congr 1;omega
     have cs:=Qk eqs l[k] (l.take k) ne;rw[←tk,gl,k3] at cs;have hkk:(k:Int)<(l.length:Int):=by omega
     have i1:Jf 1 (Cn l) (.i .i64 (k:Int))=some (.s l[k]):=by rw[P6 _ _ _ (by omega),show ((k:Int)).toNat=k by omega,g1];rfl
     have i0:Jf 1 (Cn l) (.i .i64 ((k:Int) - 1))=some (.s (l[k - 1]'(by omega))):=by rw[P6 _ _ _ (by omega),show ((k:Int) - 1).toNat=k - 1 by omega,g0];rfl
     by_cases hxy:l[k]=l[k - 1]'(by omega)
     ·right;have cs':cpt eqs (l.take (k+1))=l.take k:=by rw[cs];simp[eqs,hxy]
      obtain⟨s,s1,s2,s3⟩:=inner k k1 hk cs';have hlt:cpt eqs l≠l:=by
       intro h;have q:(cpt eqs l).length≤(cpt eqs (l.take (k+1))).length+(l.drop (k+1)).length:=by
        have:∀(b a:List (List UInt8)),a≠[]→(cpt eqs (a++b)).length≤(cpt eqs a).length+b.length:=by
         intro b
         induction b with
         |nil=>intro a _;simp
         |cons x r ih=>
          intro a ha;have h1:=ih (a++[x]) (by simp);rw[Qk _ _ _ ha] at h1;rw[show a++x::r=a++[x]++r by simp];refine En h1 ?_;rw[B3];split<;>simp<;>omega
        have h3:=this (l.drop (k+1)) (l.take (k+1)) (by intro h;have:=congrArg List.length h;rw[Cq,C3] at this;omega);rwa[C9] at h3
       rw[h,cs',Cq,C7] at q;omega
      have hlen:=nv eqs l;refine⟨.ret [Cn (cpt eqs l)],?_,rfl,by rw[if_neg hlt]⟩;generalize cpt eqs l=fl at*;have ls:I7 1 (Cn l) (.i .i64 (k:Int)) (.i .i64 (l.length:Int))=some (Cn (l.drop k)):=by rw[L5 _ _ _ _ _ (by omega) (by omega) (by omega)];simp
      have hsl1:I7 1 (Cn s) (.i .i64 ((fl.length:Nat):Int)) (.i .i64 (s.length:Int))=some (Cn (s.drop fl.length)):=by rw[L5 _ _ _ _ _ (by omega) (by omega) (by omega)];simp
      have hsl2:I7 1 (Cn s) (.i .i64 0) (.i .i64 ((fl.length:Nat):Int))=some (Cn fl):=by rw[L5 _ _ _ _ _ (by omega) (by omega) (by omega)];simp[s2]
      have hrep:N2 1 (.i .i64 ((s.length:Int) - (fl.length:Int))) (.s [])=some (Cn (List.replicate (s.length - fl.length) [])):=by rw[Bf1 _ (by omega) (by omega)];congr 3;omega
      have happ:J1 1 (Cn fl) (Cn (List.replicate (s.length - fl.length) []))=some (Cn (fl++List.replicate (s.length - fl.length) [])):=Xc _ _ (by simp;omega);have hsl3:I7 1 (Cn (fl++List.replicate (s.length - fl.length) [])) (.i .i64 0) (.i .i64 ((fl.length:Nat):Int))=some (Cn fl):=by rw[L5 _ _ _ _ _ (by omega) (by omega) (by simp;omega)];simp
      simp(disch:=omega)only[Sx,hkk,i1,i0,hxy,ls,s3,hsl1,hsl2,hrep,happ,hsl3,EVT,Ak,simprocAttr]
     ·left;refine⟨k+1,?_,⟨by omega,by omega,?_⟩,by omega⟩
      ·simp(disch:=omega)only[Sx,hkk,i1,i0,hxy,EVT,Ak,simprocAttr]
      ·rw[cs,tk];simp[eqs,hxy]
    ·right;have e:k=l.length:=by omega
     subst e;rw[Es] at k3;refine⟨_,?_,?_,rfl⟩
     ·rw[if_pos k3];simp(disch:=omega)only[Sx,EVT,Ak,simprocAttr]
     ·rw[if_pos k3];rfl
  by_cases h:cpt eqs l=l
  ·rw[if_pos h] at key;rw[h];simp(disch:=omega)only[Sx,h2,key,EVT,Ak,simprocAttr]
  ·rw[if_neg h] at key;simp(disch:=omega)only[Sx,h2,key,EVT,Ak,simprocAttr]
end Go.X.G
/- Types of records: the program's table. -/
namespace Go.X.G
open Go Go.X
structure Kd where
 num:Int
 mne:List UInt8
 fls:List UInt8
def Kd.pv (k:Kd):PV:= .a [.i .i64 k.num,.s k.mne,.s k.fls]
def Ac1 (l:List Kd):PV:= .l 3 (l.map Kd.pv)
def kds:List Kd:=[⟨1,[65],[52]⟩,⟨2,[78,83],[104]⟩,⟨5,[67,78,65,77,69],[104]⟩,⟨6,[83,79,65],[104,109,118,119,120,121,122]⟩,⟨12,[80,84,82],[104]⟩,⟨15,[77,88],[65,104]⟩,⟨16,[84,88,84],[116]⟩,⟨28,[65,65,65,65],[54]⟩,⟨33,[83,82,86],[65,66,67,104]⟩,⟨39,[68,78,65,77,69],[104]⟩,⟨43,[68,83],[65,98,99,114]⟩,⟨46,[82,82,83,73,71],[65,115,98,120,121,122,70,104,114]⟩,⟨47,[78,83,69,67],[104,110]⟩,⟨48,[68,78,83,75,69,89],[65,98,99,114]⟩]
def kg (k:Kd):Dk 0 k.pv=some (.i .i64 k.num):=rfl
def kf (k:Kd):Dk 1 k.pv=some (.s k.mne):=rfl
def Ez (k:Kd):Dk 2 k.pv=some (.s k.fls):=rfl
def Dj1 (k:Kd):My 0 3 k.pv=some k.pv:=rfl
def V8 (k:Kd):Wd 3 k.pv=some k.pv:=rfl
def U4 (l:List Kd):H6 (Ac1 l)=some (.i .i64 (l.length:Int)):=by simp[Ac1,H6]
def Ac3 (l:List Kd) (k:IntKind) (z:Int) (h:0≤z):Jf 3 (Ac1 l) (.i k z)=(l[z.toNat]?).map Kd.pv:=by simp[Ac1,mw _ _ _ _ h]
def Bh8:S fj 0 []=some [Ac1 kds]:=Hl2 (N:=1) rfl (by kernel_rfl)
def Zd (k:Kd):PV.flat k.pv=true:=rfl
def Bl0 (t:Int):S ff 1 [.i .i64 t]=some (match kds.find? (fun k=>decide (k.num=t)) with|some k=>[k.pv,.b true]|none=>[Kd.pv ⟨0,[],[]⟩,.b false]):=by
 refine Hn5 (N:=20) rfl ?_;have key:∀l:List Kd,l.length≤15→Dt3.ev S 20 [.i .i64 t,Ac1 l]=some (match l.find? (fun k=>decide (k.num=t)) with|some k=> .ret [k.pv,.b true]|none=> .yld 0 [.i .i64 0,.s [],.s []]):=by
  intro l hl;refine E2 l (fun i=>[.i .i64 (i:Int),.i .i64 0,.s [],.s []]) (fun i r=>match r.find? (fun k=>decide (k.num=t)) with|some k=> .ret [k.pv,.b true]|none=> .yld 0 [.i .i64 0,.s [],.s []]) rfl (by omega) (fun i c r hd hi hc=> ?_) ?_
  ·by_cases h:c.num=t
   ·right;simp(disch:=omega)only[pg,hc,h,kg,kf,Ez,Dj1,V8,U4,Ac3,Av,simprocAttr];simp[h,Out.goes]
   ·left;simp(disch:=omega)only[pg,hc,h,kg,kf,Ez,Dj1,V8,U4,Ac3,Av,simprocAttr];simp[h]
  ·simp(disch:=omega)only[pg,kg,kf,Ez,Dj1,V8,U4,Ac3,Av,simprocAttr];simp[Out.goes]
 have hk:=key kds (by decide);have hkd:=Bh8;cases h:kds.find? (fun k=>decide (k.num=t)) with
 |some k=>
  rw[h] at hk;simp(disch:=omega)only[pg,hkd,hk,U4,Av,simprocAttr]
 |none=>
  rw[h] at hk;simp(disch:=omega)only[pg,hkd,hk,U4,Av,simprocAttr];rfl
def Bm0 (t:Int):(kds.find? (fun k=>decide (k.num=t))).isSome=knw t:=by
 rw[D9,List.find?_isSome];simp[kds,knw]
 grind
def Ew (t:Int):S V2 1 [.i .i64 t]=some [.b (knw t)]:=by
 refine Ht6 (N:=1) rfl ?_;have h:=Bl0 t;have h2:=Bm0 t;cases hk:kds.find? (fun k=>decide (k.num=t)) with
 |some k=>
  rw[hk] at h h2;simp only[Option.isSome_some] at h2;simp(disch:=omega)only[Fr6,h,Zd,V8,Av,simprocAttr];rw[←h2]
 |none=>
  rw[hk] at h h2;simp only[jk] at h2;simp(disch:=omega)only[Fr6,h,Zd,V8,Av,simprocAttr];rw[←h2]
end Go.X.G
/- Types of names, as sets of bits. -/
namespace Go.X
open Go
def Ix (l:List Int):PV:= .l 1 (l.map fun t=> .i .i64 t)
def Pn:PV.l 1 []=Ix []:=rfl
def Us (t:Int):PV.l 1 [.i .i64 t]=Ix [t]:=rfl
def U3 (t:Int):Lr 1 [.i .i64 t]=some (Ix [t]):=rfl
def P3 (l:List Int):H6 (Ix l)=some (.i .i64 (l.length:Int)):=by simp[Ix,H6]
def P5 (l:List Int) (k:IntKind) (z:Int) (h:0≤z):Jf 1 (Ix l) (.i k z)=(l[z.toNat]?).map fun t=> .i .i64 t:=by simp[Ix,mw _ _ _ _ h]
def Ms (l:List Int) (x:Int) (h:l.length+1≤1073741824):J1 1 (Ix l) (Ix [x])=some (Ix (l++[x])):=by have:=aj 1 (l.map fun t=> .i .i64 t) [.i .i64 x] (by simpa using h);simpa [Ix] using this
end Go.X
namespace Go.X.G
open Go Go.X
def shO (t:Int):Int:=IntKind.u64.wrap (1*2 ^ (min t.toNat IntKind.u64.bits))
def bitO (g t:Int):Int:=IntKind.u64.wrap ((BitVec.ofInt IntKind.u64.bits g|||BitVec.ofInt IntKind.u64.bits (shO t)).toNat:Int)
def Kx9 (t:Int) (h:0≤t):X.bin .shl (.i .u64 1) (.i .i64 t)=some (.i .u64 (shO t)):=by rw[Al9,if_neg (by omega)];rfl
def Kx8 (t:Int) (h:0≤t):X.bin .shl (.i .u64 1) (.i .u64 t)=some (.i .u64 (shO t)):=by rw[Al9,if_neg (by omega)];rfl
def orO (g t:Int):X.bin .or (.i .u64 g) (.i .u64 (shO t))=some (.i .u64 (bitO g t)):=by rw[Gx4];rfl
def Ek1 {t:Int} (h:knw t=true):0≤t∧t≤255:=by rcases knw_cases h with rfl|rfl|rfl|rfl|rfl|rfl|rfl|rfl|rfl|rfl|rfl|rfl|rfl|rfl<;>decide
def Eg3 (l:List Int) (hk:∀t∈l,knw t=true) (hl:l.length≤1000000):S Cy6 1 [Ix l]=some [.i .u64 (l.foldl bitO 0),.b true]:=by
 refine Jy9 (N:=l.length+1) rfl ?_;have key:Gj2.ev S (l.length+1) [Ix l]=some (.yld 0 [.i .u64 (l.foldl bitO 0)]):=by
  refine Ed (N:=l.length+1) l (fun i (g:Int)=>[.i .u64 g,.i .i64 (i:Int)]) (fun i g r=> .yld 0 [.i .u64 (r.foldl bitO g)]) (fun _ _=>True) 0 rfl trivial (Xm _) (fun i g c r hd hi hc _=> ?_) (fun g _=> ?_)
  ·left;have hil:(i:Int)<(l.length:Int):=by omega
   have hc1:=hk c (Ck hc);have k:=Ew c;rw[hc1] at k;refine⟨bitO g c,?_,trivial,rfl⟩;have e1:=Kx9 c (Ek1 hc1).1;have e2:=orO g c;generalize shO c=sc at*;generalize bitO g c=bc at*;simp(disch:=omega)only[Gy8,hc,hil,k,e1,e2,P5,P3,Av,simprocAttr]
  ·simp(disch:=omega)only[Gy8,Ak0,P5,P3,Av,simprocAttr];simp[Out.goes]
 simp(disch:=omega)only[Gy8,key,P5,P3,Av,simprocAttr]
def Hk3 (l:List Int) (hk:∀t∈l,knw t=true) (hl:l.length≤1000000):S wh 1 [Ix l]=some [.i .u64 (l.foldl bitO 0),.b true]:=by
 refine Hr2 (N:=l.length+1) rfl ?_;have key:Dt9.ev S (l.length+1) [Ix l]=some (.yld 0 [.i .u64 (l.foldl bitO 0)]):=by
  refine Ed (N:=l.length+1) l (fun i (g:Int)=>[.i .u64 g,.i .i64 (i:Int)]) (fun i g r=> .yld 0 [.i .u64 (r.foldl bitO g)]) (fun _ _=>True) 0 rfl trivial (Xm _) (fun i g c r hd hi hc _=> ?_) (fun g _=> ?_)
  ·left;have hil:(i:Int)<(l.length:Int):=by omega
   have hc1:=hk c (Ck hc);have k:=Ds c;rw[hc1] at k;have hr:=Ek1 hc1;refine⟨bitO g c,?_,trivial,rfl⟩;have e1:=Kx8 c hr.1;have e2:=orO g c;have e3:IntKind.u64.wrap c=c:=Fr8 (by omega) (by omega);generalize shO c=sc at*;generalize bitO g c=bc at*;simp(disch:=omega)only[Cs3,hc,hil,k,e1,e2,e3,P5,P3,Av,simprocAttr]
  ·simp(disch:=omega)only[Cs3,Ak0,P5,P3,Av,simprocAttr];simp[Out.goes]
 simp(disch:=omega)only[Cs3,key,P5,P3,Av,simprocAttr]
def typesR (l:List Rec) (n:List UInt8):List Int:=(l.filter fun r=>decide (r.name=n) && knw r.typ).map Rec.typ
def dz (l:List Rec) (n:List UInt8):∀t∈typesR l n,knw t=true:=fun t ht=>by simp only[typesR,Fc,C8,Br] at ht;obtain⟨r,hr,rfl⟩:=ht;exact hr.2.2
def Eg1 (l:List Rec) (n:List UInt8) (hl:l.length≤1000000):S Dl4 2 [B6 l,.s n]=some [.i .u64 ((typesR l n).foldl bitO 0)]:=by
 refine Jd9 (N:=l.length+1) rfl ?_;have hs:=Eg3 (typesR l n) (dz l n) (by have:=Ef (fun r:Rec=>decide (r.name=n) && knw r.typ) l;simp only[typesR,D8];omega);have key:Gq3.ev S (l.length+1) [B6 l,.s n]=some (.yld 0 [Ix ([]++typesR l n)]):=by
  refine Ed (N:=l.length+1) l (fun i (g:List Int)=>[Ix g,.i .i64 (i:Int)]) (fun i g r=> .yld 0 [Ix (g++typesR r n)]) (fun i g=>g.length≤i) [] rfl (Db _) (Xm _) (fun i g c r hd hi hc hI=> ?_) (fun g hI=> ?_)
  ·left;have hil:(i:Int)<(l.length:Int):=by omega
   have k:=Ew c.typ;by_cases h1:c.name=n
   ·rcases Bl (knw c.typ) with h2|h2
    ·rw[h2] at k;refine⟨g++[c.typ],?_,by simp;omega,by simp[typesR,h1,h2]⟩;simp(disch:=omega)only[Cp8,hc,hil,h1,k,Pn,Us,U3,Ms,Av,simprocAttr]
    ·rw[h2] at k;refine⟨g,?_,by omega,by simp[typesR,h2]⟩;simp(disch:=omega)only[Cp8,hc,hil,h1,k,Pn,Us,U3,Ms,Av,simprocAttr]
   ·refine⟨g,?_,by omega,by simp[typesR,h1]⟩;simp(disch:=omega)only[Cp8,hc,hil,h1,Pn,Us,U3,Ms,Av,simprocAttr]
  ·simp(disch:=omega)only[Cp8,Ak0,Av,simprocAttr];simp[Out.goes,typesR]
 rw[Dc] at key;generalize (typesR l n).foldl bitO 0=v at*;simp(disch:=omega)only[Cp8,hs,key,Av,simprocAttr]
def Eg2 (l:List Rec) (n:List UInt8) (hl:l.length≤1000000):S Dh5 2 [B6 l,.s n]=some [.i .u64 ((typesR l n).foldl bitO 0)]:=by
 refine Jc7 (N:=l.length+1) rfl ?_;have hs:=Hk3 (typesR l n) (dz l n) (by have:=Ef (fun r:Rec=>decide (r.name=n) && knw r.typ) l;simp only[typesR,D8];omega);have key:Gk6.ev S (l.length+1) [B6 l,.s n]=some (.yld 0 [Ix ([]++typesR l n)]):=by
  refine Ed (N:=l.length+1) l (fun i (g:List Int)=>[Ix g,.i .i64 (i:Int)]) (fun i g r=> .yld 0 [Ix (g++typesR r n)]) (fun i g=>g.length≤i) [] rfl (Db _) (Xm _) (fun i g c r hd hi hc hI=> ?_) (fun g hI=> ?_)
  ·left;have hil:(i:Int)<(l.length:Int):=by omega
   have k:=Ds c.typ;by_cases h1:c.name=n
   ·rcases Bl (knw c.typ) with h2|h2
    ·rw[h2] at k;refine⟨g++[c.typ],?_,by simp;omega,by simp[typesR,h1,h2]⟩;simp(disch:=omega)only[Cp6,hc,hil,h1,k,Pn,Us,U3,Ms,Av,simprocAttr]
    ·rw[h2] at k;refine⟨g,?_,by omega,by simp[typesR,h2]⟩;simp(disch:=omega)only[Cp6,hc,hil,h1,k,Pn,Us,U3,Ms,Av,simprocAttr]
   ·refine⟨g,?_,by omega,by simp[typesR,h1]⟩;simp(disch:=omega)only[Cp6,hc,hil,h1,Pn,Us,U3,Ms,Av,simprocAttr]
  ·simp(disch:=omega)only[Cp6,Ak0,Av,simprocAttr];simp[Out.goes,typesR]
 rw[Dc] at key;generalize (typesR l n).foldl bitO 0=v at*;simp(disch:=omega)only[Cp6,hs,key,Av,simprocAttr]
end Go.X.G
/- The order of records; what a checked zone is like. -/
namespace Go.X.G
open Go Go.X
def TO.prod {α β:Type} {l1:α→α→Prop} {l2:β→β→Prop} (h1:TO l1) (h2:TO l2):TO (fun p q:α×β=>l1 p.1 q.1∨(p.1=q.1∧l2 p.2 q.2)) where
 irr:=fun p h=>by
  rcases h with h|⟨_,h⟩
  ·exact h1.irr _ h
  ·exact h2.irr _ h
 tr:=fun p q r a b=>by
  rcases a with a|⟨a,a'⟩<;>rcases b with b|⟨b,b'⟩
  ·exact .inl (h1.tr _ _ _ a b)
  ·exact .inl (b▸a)
  ·exact .inl (a▸b)
  ·exact .inr ⟨a.trans b,h2.tr _ _ _ a' b'⟩
 tri:=fun p q=>by
  rcases h1.tri p.1 q.1 with a|a|a
  ·exact .inl (.inl a)
  ·rcases h2.tri p.2 q.2 with b|b|b
   ·exact .inl (.inr ⟨a,b⟩)
   ·exact .inr (.inl (Prod.ext a b))
   ·exact .inr (.inr (.inr ⟨a.symm,b⟩))
  ·exact .inr (.inr (.inl a))
def Hb2:TO (fun a b:Int=>a<b):=⟨fun a h=>by omega,fun a b c h1 h2=>by omega,fun a b=>by omega⟩
def nb (a b:Int):zd a b<0↔a<b:=by unfold zd;split<;>(try split)<;>omega
def Kb (a b:Int):zd a b=0↔a=b:=by unfold zd;split<;>(try split)<;>omega
abbrev Key:=List UInt8×Int×List UInt8
abbrev ltK:Key→Key→Prop:=fun p q=>ltN p.1 q.1∨(p.1=q.1∧(p.2.1<q.2.1∨(p.2.1=q.2.1∧ltB p.2.2 q.2.2)))
def to_K:TO ltK:=to_N.prod (Hb2.prod El4)
def El6 (r:Rec):Key:=(r.name,r.typ,K0 r.typ r.data)
abbrev ltR (a b:Rec):Prop:=ltK (El6 a) (El6 b)
def Sg {r:Rec} (h:Qb r=true):Fy r.typ r.data=true:=by unfold Qb at h;simp only[Br] at h;exact h.2
def qd {r:Rec} (h:Qb r=true):vld r.name=true:=by unfold Qb at h;simp only[Br] at h;exact h.1.1.1.1
def Gv8 {t:Int} {a b:Dat} (ha:Fy t a=true) (hb:Fy t b=true):Ey1 t a b=cmpS (K0 t a) (K0 t b):=by unfold Ey1;rw[ha,hb];rfl
def Bn4 {a b:Rec} (ha:Qb a=true) (hb:Qb b=true):Rn a b<0↔ltR a b:=by
 unfold Rn ltR ltK El6;simp only;by_cases h1:Jp a.name b.name=0
 ·rw[if_neg (by simp[h1])];have e1:=Kz.1 h1;have n1:¬ltN a.name b.name:=by rw[e1];exact to_N.irr _
  by_cases h2:zd a.typ b.typ=0
  ·rw[if_neg (by simp[h2])];have e2:=(Kb _ _).1 h2;have ha':=Sg ha;have hb':=Sg hb;rw[e2] at ha' ⊢;rw[Gv8 ha' hb',Xy];constructor
   ·intro h;exact .inr ⟨e1,.inr ⟨rfl,h⟩⟩
   ·rintro (h|⟨_,h|⟨_,h⟩⟩)
    ·exact absurd h n1
    ·omega
    ·exact h
  ·rw[if_pos h2,nb];have e2:a.typ≠b.typ:=fun e=>h2 ((Kb _ _).2 e);constructor
   ·intro h;exact .inr ⟨e1,.inl h⟩
   ·rintro (h|⟨_,h|⟨h,_⟩⟩)
    ·exact absurd h n1
    ·exact h
    ·exact absurd h e2
 ·rw[if_pos h1,Gs];have e1:a.name≠b.name:=fun e=>h1 (Kz.2 e);constructor
  ·intro h;exact .inl h
  ·rintro (h|⟨h,_⟩)
   ·exact h
   ·exact absurd h e1
def zf {a b:Rec} (ha:Qb a=true) (hb:Qb b=true):Rn a b=0↔El6 a=El6 b:=by
 unfold Rn El6;by_cases h1:Jp a.name b.name=0
 ·rw[if_neg (by simp[h1])];have e1:=Kz.1 h1;by_cases h2:zd a.typ b.typ=0
  ·rw[if_neg (by simp[h2])];have e2:=(Kb _ _).1 h2;have ha':=Sg ha;have hb':=Sg hb;rw[e2] at ha' ⊢;rw[Gv8 ha' hb',Ky];simp[e1]
  ·rw[if_pos h2];have e2:a.typ≠b.typ:=fun e=>h2 ((Kb _ _).2 e);constructor
   ·intro h;exact absurd h h2
   ·intro h;injection h with _ h;injection h with h _;exact absurd h e2
 ·rw[if_pos h1];have e1:a.name≠b.name:=fun e=>h1 (Kz.2 e);constructor
  ·intro h;exact absurd h h1
  ·intro h;injection h with h _;exact absurd h e1
def Zv {x:Rec} (hx:Qb x=true):∀(l:List Rec),(∀r∈l,Qb r=true)→l.Pairwise ltR→(Zw x l).Pairwise ltR
 |[],_,_=>by simp[Zw]
 |y::r,hv,h=>by
  obtain⟨h1,h2⟩:=Cd.1 h;have hy:=hv y (.head _);have ih:=Zv hx r (fun w hw=>hv w (.tail _ hw)) h2;simp only[Zw];by_cases c:Rn y x<0
  ·rw[if_pos c];refine Cd.2 ⟨fun w hw=> ?_,ih⟩;rcases insR_mem x r w hw with rfl|hw
   ·exact(Bn4 hy hx).1 c
   ·exact h1 w hw
  ·rw[if_neg c];by_cases e:Rn y x=0
   ·rw[if_pos e];split
    ·have ke:=(zf hy hx).1 e;refine Cd.2 ⟨fun w hw=> ?_,h2⟩;have:=h1 w hw;show ltK (El6 x) (El6 w);rw[←ke];exact this
    ·exact h
   ·rw[if_neg e];have hxy:ltR x y:=by
     rcases to_K.tri (El6 x) (El6 y) with q|q|q
     ·exact q
     ·exact absurd ((zf hy hx).2 q.symm) e
     ·exact absurd ((Bn4 hy hx).2 q) c
    refine Cd.2 ⟨fun w hw=> ?_,h⟩;rcases Cj.1 hw with rfl|hw
    ·exact hxy
    ·exact to_K.tr _ _ _ hxy (h1 w hw)
def Vm (l:List Rec) (hv:∀r∈l,Qb r=true):(sortR l).Pairwise ltR∧∀r∈sortR l,r∈l:=by
 have:∀(l a:List Rec),(∀r∈l,Qb r=true)→(∀r∈a,Qb r=true)→a.Pairwise ltR→(l.foldl (fun acc x=>Zw x acc) a).Pairwise ltR∧∀r∈l.foldl (fun acc x=>Zw x acc) a,r∈a∨r∈l:=by
  intro l
  induction l with
  |nil=>intro a _ _ h;exact⟨h,fun r hr=> .inl hr⟩
  |cons x r ih=>
   intro a h1 h2 h3;have hx:=h1 x (.head _);obtain⟨g1,g2⟩:=ih (Zw x a) (fun w hw=>h1 w (.tail _ hw)) (fun w hw=>by
    rcases insR_mem x a w hw with rfl|hw
    ·exact hx
    ·exact h2 w hw) (Zv hx a h2 h3)
   refine⟨g1,fun w hw=> ?_⟩;rcases g2 w hw with hw|hw
   ·rcases insR_mem x a w hw with rfl|hw
    ·exact .inr (.head _)
    ·exact .inl hw
   ·exact .inr (.tail _ hw)
 obtain⟨h1,h2⟩:=this l [] hv (fun r hr=>by cases hr) .nil;exact⟨h1,fun r hr=>(h2 r hr).resolve_left (by simp)⟩
structure ZOk (z:Zone):Prop where
 origin:vld z.origin=true
 small:z.recs.length≤2048
 valid:∀r∈z.recs,Qb r=true
 rising:z.recs.Pairwise ltR
 soa:(findR z.recs z.origin 6).length=1
 ns:az z.recs z.origin 2=true
 recs:∀r∈z.recs,M6 z r=true
def Tr {z:Zone} (h:Jh z=0):ZOk z:=by
 unfold Jh at h;split at h
 ·cases h
 ·rename_i h1;split at h
  ·cases h
  ·rename_i h2;split at h
   ·cases h
   ·split at h
    ·cases h
    ·rename_i h4;split at h
     ·cases h
     ·rename_i h5;split at h
      ·cases h
      ·rename_i h6;split at h
       ·cases h
       ·rename_i h7;simp only[Hm,C0] at h1 h4 h7;simp only[not_or,ne_eq,Hl,Hm] at h5 h6;refine⟨h1,by omega,h4,?_,h6.1,h6.2,h7⟩;rw[h5];exact(Vm z.recs h4).1
def ZOk.beside {z:Zone} (h:ZOk z) {r x:Rec} (hr:r∈z.recs) (hx:x∈z.recs):Jl r x=true:=by have:=h.recs r hr;unfold M6 at this;simp only[Br] at this;have h2:=this.1.2;unfold Px at h2;exact C0.1 h2 x hx
def ZOk.under {z:Zone} (h:ZOk z) {r:Rec} (hr:r∈z.recs):under r.name z.origin=true:=by have:=h.recs r hr;unfold M6 at this;simp only[Br] at this;exact this.1.1.1
def ZOk.single {z:Zone} (h:ZOk z) (n:List UInt8) (t:Int) (ht:t=6∨t=5∨t=39):(findR z.recs n t).length≤1:=by
 have hp:(findR z.recs n t).Pairwise ltR:=h.rising.filter _;have hm:∀x∈findR z.recs n t,x∈z.recs∧x.name=n∧x.typ=t:=fun x hx=>by obtain⟨h1,h2⟩:=C8.1 hx;simp only[isK,Br,decide_eq_true_eq] at h2;exact⟨h1,h2.1,h2.2⟩
 generalize findR z.recs n t=l at*
 match l,hp,hm with
 |[],_,_=>simp
 |[_],_,_=>simp
 |a::b::r,hp,hm=>
  exfalso;have hab:ltR a b:=(Cd.1 hp).1 b (.head _);obtain⟨a1,a2,a3⟩:=hm a (.head _);obtain⟨b1,b2,b3⟩:=hm b (.tail _ (.head _));have hb:=h.beside a1 b1;have e:b=a:=by
   unfold Jl at hb;rw[a2,a3,b2,b3] at hb;have ht':(decide (t=6)||decide (t=5)||decide (t=39))=true:=by rcases ht with h|h|h<;>simp[h]
   rw[ht'] at hb;simp only[decide_true,Nf,Ks,Uk,Uj,Br,Cg,decide_eq_false_iff_not,ne_eq,Hl] at hb;exact hb.1.2
  rw[e] at hab;exact to_K.irr _ hab
end Go.X.G
/- Names on the way up; delegations above a name. -/
namespace Go.X.G
open Go Go.X
def upN (o n:List UInt8):List (List UInt8):=(List.range ((lbl n).length - (lbl o).length+1)).map fun k=>jn ((lbl n).drop k)
def Lv {o n x:List UInt8} (h:under n o=true):x∈upN o n↔under n x=true∧under x o=true:=by
 obtain⟨hn,ho,hs⟩:=C2.1 h;have hle:=hs.length_le;rw[G1] at hs;unfold upN;rw[Fc];constructor
 ·rintro⟨k,hk,rfl⟩;rw[G4] at hk;obtain⟨v1,v2⟩:=L2 hn k;refine⟨C2.2 ⟨hn,v1,by rw[v2];exact List.drop_suffix _ _⟩,C2.2 ⟨v1,ho,?_⟩⟩;rw[v2,hs];have:(lbl n).length - (lbl o).length=k+((lbl n).length - (lbl o).length - k):=by omega
  rw[this,←D5];exact List.drop_suffix _ _
 ·rintro⟨h1,h2⟩;obtain⟨_,hx,h3⟩:=C2.1 h1;obtain⟨_,_,h4⟩:=C2.1 h2;have l1:=h3.length_le;have l2:=h4.length_le;rw[G1] at h3;refine⟨(lbl n).length - (lbl x).length,?_,?_⟩
  ·rw[G4];omega
  ·rw[←h3];exact(Oj hx).symm
def j5 (o n:List UInt8):(upN o n).length≤256:=by have:=Gl n;simp[upN];omega
def Ov {o n:List UInt8} {k:Nat} (hk:k≤(lbl n).length - (lbl o).length):(upN o n)[k]? =some (jn ((lbl n).drop k)):=by unfold upN;rw[C4,Dp (by omega)];rfl
def Zk {n:List UInt8} (h:vld n=true):jn ((lbl n).drop 0)=n:=by rw[Fx];exact(Oj h).symm
def Sl {o n:List UInt8} (h:under n o=true) {k:Nat} (hk:k≤(lbl n).length - (lbl o).length):jn ((lbl n).drop k)=o↔k=(lbl n).length - (lbl o).length:=by
 obtain⟨hn,ho,hs⟩:=C2.1 h;have hle:=hs.length_le;rw[G1] at hs;obtain⟨v1,v2⟩:=L2 hn k;constructor
 ·intro e;have:=congrArg (fun x=>(lbl x).length) e;simp only[v2,C7] at this;omega
 ·rintro rfl;rw[←hs];exact(Oj ho).symm
def qf {o n:List UInt8} (h:under n o=true) {k:Nat} (hk:k<(lbl n).length - (lbl o).length):parentN (jn ((lbl n).drop k))=jn ((lbl n).drop (k+1))∧Zz (jn ((lbl n).drop k))=true:=by
 obtain⟨hn,ho,hs⟩:=C2.1 h;obtain⟨v1,v2⟩:=L2 hn k;have hne:jn ((lbl n).drop k)≠[46]:=by intro e;have:=(Nq v1).2 e;rw[v2] at this;have:=congrArg List.length this;simp at this;omega
 unfold parentN Zz;rw[if_pos ⟨v1,hne⟩,v2,D5];exact⟨rfl,by simp[v1,hne]⟩
def Df4 {o:List UInt8} (ho:vld o=true):under (parentN o) o=false:=by
 rcases Bl (under (parentN o) o) with h|h
 ·obtain⟨_,_,h2⟩:=C2.1 h;unfold parentN at h2;by_cases hr:o=[46]
  ·rw[if_neg (by simp[hr])] at h2;unfold parentN at h;rw[if_neg (by simp[hr])] at h;obtain⟨h3,_,_⟩:=C2.1 h;simp[vld,nm] at h3
  ·rw[if_pos ⟨ho,hr⟩,(L2 ho 1).2] at h2;have:=h2.length_le;have hne:lbl o≠[]:=fun e=>hr ((Nq ho).1 e);have:=Cl.2 hne;simp at*;omega
 ·exact h
def md (l:List (List UInt8)) (i j:Nat) (h:i<j) (hj:j≤l.length):(flat (l.drop j)).length<(flat (l.drop i)).length:=by
 have e:l.drop i=(l.drop i).take (j - i)++l.drop j:=by have:=(C9 (j - i) (l.drop i)).symm;rw[D5,show i+(j - i)=j by omega] at this;exact this
 rw[e,P7,B3];have:0<(flat ((l.drop i).take (j - i))).length:=by
  cases hc:(l.drop i).take (j - i) with
  |nil=>
   have:=congrArg List.length hc;simp at this;omega
  |cons x r=>simp[flat];omega
 omega
def Ef7 {n a b:List UInt8} (ha:under n a=true) (hb:under n b=true):a.length<b.length↔(lbl a).length<(lbl b).length:=by
 have key:∀{a b:List UInt8},under n a=true→under n b=true→(lbl a).length<(lbl b).length→a.length<b.length:=by
  intro a b ha hb hl;obtain⟨hn,va,sa⟩:=C2.1 ha;obtain⟨_,vb,sb⟩:=C2.1 hb;have la:=sa.length_le;have lb:=sb.length_le;rw[G1] at sa sb;rw[Oj va,Oj vb];have hbne:lbl b≠[]:=fun e=>by rw[e] at hl;simp at hl
  have e2:jn (lbl b)=flat (lbl b):=by unfold jn;rw[if_neg hbne]
  rw[e2];by_cases ha0:lbl a=[]
  ·have e1:jn (lbl a)=[46]:=by unfold jn;rw[if_pos ha0]
   rw[e1];have:=Kv (Sf vb) hbne;simp;omega
  ·have e1:jn (lbl a)=flat (lbl a):=by unfold jn;rw[if_neg ha0]
   rw[e1,sa,sb];exact md _ _ _ (by omega) (by omega)
 constructor
 ·intro h;rcases Nat.lt_or_ge (lbl a).length (lbl b).length with h1|h1
  ·exact h1
  ·rcases Nat.lt_or_eq_of_le h1 with h2|h2
   ·have:=key hb ha h2;omega
   ·obtain⟨_,va,sa⟩:=C2.1 ha;obtain⟨_,vb,sb⟩:=C2.1 hb;rw[G1] at sa sb;have:a=b:=On va vb (by rw[sa,sb,h2]);subst this;omega
 ·exact key ha hb
def Eg (z:Zone) (r:Rec):Bool:=decide (r.typ=2) && Fl r.name z.origin
def c6 (z:Zone) (n:List UInt8):List UInt8→List Rec→List UInt8
 |b,[]=>b
 |b,r::rs=>c6 z n (if Eg z r && under n r.name && (decide (b=[])||decide ((lbl r.name).length<(lbl b).length)) then r.name else b) rs
def cutN (z:Zone) (n:List UInt8):List UInt8:=c6 z n [] z.recs
def Rm (z:Zone) (n:List UInt8):∀(l:List Rec) (b:List UInt8),(b=[]∨under n b=true)→
  (c6 z n b l=[]→b=[]∧∀r∈l,Eg z r=true→under n r.name=false)∧
  (c6 z n b l≠[]→under n (c6 z n b l)=true∧(c6 z n b l=b∨∃r∈l,Eg z r=true∧r.name=c6 z n b l)∧(b≠[]→(lbl (c6 z n b l)).length≤(lbl b).length)∧∀r∈l,Eg z r=true→under n r.name=true→(lbl (c6 z n b l)).length≤(lbl r.name).length)
 |[],b,hb=>by simp only[c6];refine⟨fun h=>⟨h,fun r hr=>by simp at hr⟩,fun h=>⟨hb.resolve_left h,.inl trivial,fun _=>B7 _,fun r hr=>by simp at hr⟩⟩
 |r::rs,b,hb=>by
  simp only[c6];have hne:under n r.name=true→r.name≠[]:=fun h e=>by have:=(C2.1 h).2.1;rw[e] at this;simp[vld,nm] at this
  by_cases hc:(Eg z r && under n r.name && (decide (b=[])||decide ((lbl r.name).length<(lbl b).length)))=true
  ·rw[if_pos hc];simp only[Br,Cy,decide_eq_true_eq] at hc;obtain⟨⟨c1,c2⟩,c3⟩:=hc;obtain⟨h1,h2⟩:=Rm z n rs r.name (.inr c2);refine⟨fun h=>absurd (h1 h).1 (hne c2),fun h=> ?_⟩;obtain⟨g1,g2,g3,g4⟩:=h2 h;refine⟨g1,.inr ?_,fun hb0=> ?_,fun x hx hx1 hx2=> ?_⟩
   ·rcases g2 with g2|⟨x,hx,g2⟩
    ·exact⟨r,.head _,c1,g2.symm⟩
    ·exact⟨x,.tail _ hx,g2⟩
   ·have:=g3 (hne c2);rcases c3 with c3|c3
    ·exact absurd c3 hb0
    ·omega
   ·rcases Cj.1 hx with rfl|hx
    ·exact g3 (hne c2)
    ·exact g4 x hx hx1 hx2
  ·rw[if_neg hc];obtain⟨h1,h2⟩:=Rm z n rs b hb;have hr:Eg z r=true→under n r.name=true→b≠[]∧(lbl b).length≤(lbl r.name).length:=by intro c1 c2;simp only[c1,c2,Bool.and_self,Uj,Cy,decide_eq_true_eq,not_or,Nat.not_lt] at hc;exact hc
   refine⟨fun h=> ?_,fun h=> ?_⟩
   ·obtain⟨g1,g2⟩:=h1 h;refine⟨g1,fun x hx hx1=> ?_⟩;rcases Cj.1 hx with rfl|hx
    ·rcases Bl (under n x.name) with h3|h3
     ·exact absurd g1 (hr hx1 h3).1
     ·exact h3
    ·exact g2 x hx hx1
   ·obtain⟨g1,g2,g3,g4⟩:=h2 h;refine⟨g1,?_,g3,fun x hx hx1 hx2=> ?_⟩
    ·rcases g2 with g2|⟨x,hx,g2⟩
     ·exact .inl g2
     ·exact .inr ⟨x,.tail _ hx,g2⟩
    ·rcases Cj.1 hx with rfl|hx
     ·obtain⟨q1,q2⟩:=hr hx1 hx2;have:=g3 q1;omega
     ·exact g4 x hx hx1 hx2
def O0 (z:Zone) (n:List UInt8):Bool:=z.recs.any fun r=>Eg z r && decide (r.name≠n) && under n r.name
def K5 {a b:List UInt8} (h1:under a b=true) (h2:(lbl a).length≤(lbl b).length):a=b:=by obtain⟨va,vb,s⟩:=C2.1 h1;exact On va vb (s.eq_of_length_le h2).symm
def Ac4 (z:Zone) (n:List UInt8):O0 z n=(decide (cutN z n≠[]) && decide (cutN z n≠n)):=by
 obtain⟨h1,h2⟩:=Rm z n z.recs [] (.inl rfl);have e:cutN z n=c6 z n [] z.recs:=rfl;rw[←e] at h1 h2;rw[D9];unfold O0;simp only[Dz,Br,decide_eq_true_eq];constructor
 ·rintro⟨r,hr,⟨c1,c2⟩,c3⟩;have hne:cutN z n≠[]:=fun h=>by have:=(h1 h).2 r hr c1;rw[c3] at this;cases this
  refine⟨hne,fun h=> ?_⟩;obtain⟨_,_,_,g4⟩:=h2 hne;have:=g4 r hr c1 c3;rw[h] at this;exact c2 (K5 c3 this).symm
 ·rintro⟨hne,hnn⟩;obtain⟨g1,g2,_,_⟩:=h2 hne;rcases g2 with g2|⟨r,hr,c1,c2⟩
  ·exact absurd g2 hne
  ·exact⟨r,hr,⟨c1,by rw[c2];exact hnn⟩,by rw[c2];exact g1⟩
def Hq5 (z:Zone):List (List UInt8):=(z.recs.filter fun r=>under r.name z.origin && !O0 z r.name).flatMap fun r=>upN z.origin r.name
def namesN (z:Zone):List (List UInt8):=setN (Hq5 z)
def El7 (z:Zone) (x:List UInt8):Prop:=∃r∈z.recs,under r.name z.origin=true∧O0 z r.name=false∧under r.name x=true∧under x z.origin=true
def Bs8 (z:Zone) (x:List UInt8):x∈Hq5 z↔El7 z x:=by
 unfold Hq5 El7;simp only[List.mem_flatMap,C8,Br,Cg];constructor
 ·rintro⟨r,⟨hr,h1,h2⟩,h3⟩;obtain⟨h4,h5⟩:=(Lv h1).1 h3;exact⟨r,hr,h1,h2,h4,h5⟩
 ·rintro⟨r,hr,h1,h2,h4,h5⟩;exact⟨r,⟨hr,h1,h2⟩,(Lv h1).2 ⟨h4,h5⟩⟩
def Bg2 (z:Zone) (l:List (List UInt8)) (h:∀x,x∈l↔El7 z x):setN l=namesN z:=
 Yv to_N _ _ (Q8 _) (Q8 _) fun x=>by rw[M4,h,namesN,M4,Bs8]
def U0 (z:Zone) (x:List UInt8):x∈namesN z↔El7 z x:=by unfold namesN;rw[M4,Bs8]
end Go.X.G
/- Zones by the names of their records: groups of a sorted list, in plain words. -/
namespace Go.X.G
open Go Go.X
def Dn4 {α:Type} {lt:α→α→Prop}:∀(p q:List α),p<+:q→p≠q→lex lt p q
 |[],[],_,h=>absurd rfl h
 |[],_::_,_,_=>trivial
 |a::p,[],h,_=>by simp at h
 |a::p,b::q,h,hne=>by obtain⟨rfl,hpq⟩:=J7.1 h;exact .inr ⟨rfl,Dn4 p q hpq fun e=>hne (by rw[e])⟩
def Dn5 {α:Type} {lt:α→α→Prop} (ht:TO lt):∀(p q x:List α),p<+:q→¬lex lt x p→¬lex lt q x→p<+:x
 |[],_,_,_,_,_=>List.nil_prefix
 |a::p,[],_,h,_,_=>by simp at h
 |a::p,b::q,[],_,h,_=>absurd trivial h
 |a::p,b::q,c::x,h,h1,h2=>by
  obtain⟨rfl,hpq⟩:=J7.1 h;simp only[lex,not_or,not_and] at h1 h2;have e:a=c:=by
   rcases ht.tri a c with k|k|k
   ·exact absurd k h2.1
   ·exact k
   ·exact absurd k h1.1
  subst e;exact J7.2 ⟨rfl,Dn5 ht p q x hpq (h1.2 rfl) (h2.2 rfl)⟩
def Gl6 {a b:List UInt8} (ha:vld a=true) (hb:vld b=true):ltN a b↔ltL (lbl a).reverse (lbl b).reverse:=by unfold ltN;rw[if_pos ha,if_pos hb]
def qg {n top:List UInt8} (h:under n top=true):(lbl top).reverse<+:(lbl n).reverse:=Gy2.2 (C2.1 h).2.2
def En6 {n top:List UInt8} (h:under n top=true) (hne:n≠top):ltN top n:=by obtain⟨h1,h2,h3⟩:=C2.1 h;rw[Gl6 h2 h1];refine Dn4 _ _ (qg h) fun e=>hne ?_;exact(On h2 h1 (List.reverse_inj.1 e)).symm
def Cs9 {d x n:List UInt8} (hx:vld x=true) (h:under n d=true) (h1:¬ltN x d) (h2:¬ltN n x):under x d=true:=by obtain⟨k1,k2,k3⟩:=C2.1 h;rw[Gl6 hx k2] at h1;rw[Gl6 k1 hx] at h2;exact C2.2 ⟨hx,k2,Gy2.1 (Dn5 El4 _ _ _ (qg h) h1 h2)⟩
def Cn6 {a b c:List UInt8} (h1:under a b=true) (h2:under b c=true):under a c=true:=by obtain⟨a1,a2,a3⟩:=C2.1 h1;obtain⟨b1,b2,b3⟩:=C2.1 h2;exact C2.2 ⟨a1,b2,b3.trans a3⟩
def bh (p:List Rec):List Rec→List (List Rec)
 |[]=>[]
 |x::r=>if(match r with|[]=>true|y::_=> !decide (y.name=x.name))=true then(p++[x])::bh [] r else bh (p++[x]) r
def grp (l:List Rec):List (List Rec):=bh [] l
def nmG (g:List Rec):List UInt8:=match g with|[]=>[]|x::_=>x.name
def yb (n:List UInt8):∀(r p:List Rec) (x:Rec),x.name=n→(∀y∈p,y.name=n)→∃g l',x::r=g++l'∧g≠[]∧(∀y∈g,y.name=n)∧(∀y,l'.head? =some y→y.name≠n)∧bh p (x::r)=(p++g)::grp l'
 |[],p,x,hx,hp=>⟨[x],[],rfl,by simp,by simpa using hx,by simp,rfl⟩
 |y::r,p,x,hx,hp=>by
  by_cases h:y.name=x.name
  ·obtain⟨g,l',h1,h2,h3,h4,h5⟩:=yb n r (p++[x]) y (by rw[h,hx]) (fun w hw=>by
    rcases Dw.1 hw with hw|hw
    ·exact hp w hw
    ·have:w=x:=by simpa using hw
     rw[this,hx])
   refine⟨x::g,l',by rw[h1];rfl,by simp,fun w hw=> ?_,h4,?_⟩
   ·rcases Cj.1 hw with rfl|hw
    ·exact hx
    ·exact h3 w hw
   ·rw[bh,if_neg (by simp[h]),h5];simp
  ·refine⟨[x],y::r,rfl,by simp,by simpa using hx,fun w hw=> ?_,?_⟩
   ·simp at hw;subst hw;rw[←hx];exact h
   ·rw[bh,if_pos (by simp[h])];rfl
def Xj (x:Rec) (r:List Rec):∃g l',x::r=g++l'∧g≠[]∧(∀y∈g,y.name=x.name)∧(∀y,l'.head? =some y→y.name≠x.name)∧grp (x::r)=g::grp l':=by obtain⟨g,l',h1,h2,h3,h4,h5⟩:=yb x.name r [] x rfl (by simp);exact⟨g,l',h1,h2,h3,h4,by rw[grp,h5];rfl⟩
def Ft1 {g:List Rec} {n:List UInt8} (h:g≠[]) (h2:∀y∈g,y.name=n):nmG g=n:=by
 cases g with
 |nil=>exact absurd rfl h
 |cons x r=>exact h2 x (.head _)
abbrev Ij1 (l:List Rec):Prop:=l.Pairwise fun a b=>¬ltN b.name a.name
def H7 (g:List Rec) (t:Int):Bool:=g.any fun r=>decide (r.typ=t)
def Ln (g:List Rec) (ts:List Int):Bool:=g.all fun r=>decide (r.typ∈ts)
def dw (p:Rec):List Rec→Bool
 |[]=>true
 |x::r=>(!decide (x.typ=p.typ)||(!(decide (x.typ=6)||decide (x.typ=5)||decide (x.typ=39)) && (decide (x.typ=46)||decide (x.ttl=p.ttl)))) && dw x r
def El2 (g:List Rec):Bool:=match g with|[]=>true|x::r=>dw x r
def propG (o:List UInt8) (g:List Rec) (cut red:Bool):Bool:=
 under (nmG g) o && (decide (H7 g 6=decide (nmG g=o))) && El2 g && (!decide (nmG g=o)||H7 g 2) && (!H7 g 5||Ln g [5,46,47]) && !red && (!cut||Ln g [1,28]) &&
  (if(!decide (nmG g=o) && H7 g 2)=true then Ln g [2,43,47,46,1,28] else !H7 g 43) && (!decide ((nmG g)[0]? =some 42)||(!H7 g 2 && !H7 g 39))
def Ft (n c:List UInt8):List UInt8:=if c≠[]∧under n c=false then [] else c
def Ag0 (o:List UInt8):List (List Rec)→List UInt8→List UInt8→Bool→Bool
 |[],_,_,soa=>soa
 |g::gs,cut,red,soa=>
  if propG o g (decide (Ft (nmG g) cut≠[])) (decide (Ft (nmG g) red≠[]))=true then
   Ag0 o gs (if Ft (nmG g) cut=[]∧nmG g≠o∧H7 g 2=true then nmG g else Ft (nmG g) cut) (if H7 g 39=true then nmG g else Ft (nmG g) red) (soa||decide (nmG g=o))
  else false
def Gf5 (z:Zone) (n:List UInt8):Bool:=z.recs.any fun r=>decide (r.typ=39) && Fl n r.name
def tj (z:Zone) (g:List Rec):Bool:=propG z.origin g (O0 z (nmG g)) (Gf5 z (nmG g))
def Ak8 {n:List UInt8} (h:vld n=true):n≠[]:=fun e=>by
 subst e;have:vld []=false:=by decide
 rw[this] at h;cases h
structure GInv (z:Zone) (done l:List Rec) (cut red:List UInt8):Prop where
 cut1:cut≠[]→∃r∈done,Eg z r=true∧r.name=cut
 cut2:∀m∈l,∀r∈done,Eg z r=true→under m.name r.name=true→cut≠[]∧under m.name cut=true
 red1:red≠[]→∃r∈done,r.typ=39∧r.name=red
 red2:∀m∈l,∀r∈done,r.typ=39→under m.name r.name=true→red≠[]∧under m.name red=true
def Ax6 {o:List UInt8} {g:List Rec} {c r:Bool} (h:propG o g c r=true):under (nmG g) o=true∧r=false:=by unfold propG at h;simp only[Br,Cg] at h;exact⟨h.1.1.1.1.1.1.1.1,h.1.1.1.2⟩
def Bn6 (z:Zone) (hv:∀r∈z.recs,vld r.name=true) (hs:Ij1 z.recs):∀(n:Nat) (done l:List Rec) (cut red:List UInt8) (soa:Bool),l.length≤n→z.recs=done++l→(∀a∈done,∀b∈l,ltN a.name b.name)→GInv z done l cut red→
  (Ag0 z.origin (grp l) cut red soa=true↔(∀g∈grp l,tj z g=true)∧(soa=true∨∃r∈l,r.name=z.origin))
 |n,done,[],cut,red,soa,_,_,_,_=>by simp[grp,bh,Ag0]
 |0,done,x::r,cut,red,soa,hn,_,_,_=>by simp at hn
 |n+1,done,x::r,cut,red,soa,hn,hz,hlt,hI=>by
  obtain⟨g,l',h1,h2,h3,h4,h5⟩:=Xj x r;have hnm:nmG g=x.name:=Ft1 h2 h3;have hmem:∀y∈g,y∈x::r:=fun y hy=>by rw[h1];exact D1 _ hy
  have hmem':∀y∈l',y∈x::r:=fun y hy=>by rw[h1];exact Dj _ hy
  have hzx:∀y∈x::r,y∈z.recs:=fun y hy=>by rw[hz];exact Dj _ hy
  have hvx:vld x.name=true:=hv x (hzx x (.head _));have hgl:∀b∈l',ltN x.name b.name:=by
   have hs2:Ij1 (g++l'):=by rw[←h1];have:=hs;rw[hz] at this;exact(G3.1 this).2.1
   have hs3:=G3.1 hs2;cases l' with
   |nil=>intro b hb;cases hb
   |cons y l''=>
    have hy:ltN x.name y.name:=by
     obtain⟨w,hw⟩:=Hb g h2;have k:=hs3.2.2 w hw y (.head _);rw[h3 w hw] at k;rcases to_N.tri x.name y.name with q|q|q
     ·exact q
     ·exact absurd q.symm (h4 y rfl)
     ·exact absurd q k
    intro b hb;rcases Cj.1 hb with rfl|hb
    ·exact hy
    ·have k:=(Cd.1 hs3.2.1).1 b hb;rcases to_N.tri y.name b.name with q|q|q
     ·exact to_N.tr _ _ _ hy q
     ·rw[←q];exact hy
     ·exact absurd q k
  have habove:∀w∈z.recs,under x.name w.name=true→x.name≠w.name→w∈done:=fun w hw hu hne=>by
   rw[hz] at hw;rcases Dw.1 hw with hw|hw
   ·exact hw
   ·exfalso;have k:=En6 hu hne;rw[h1] at hw;rcases Dw.1 hw with hw|hw
    ·exact hne (h3 w hw).symm
    ·exact to_N.asym k (hgl w hw)
  have hcut:decide (Ft x.name cut≠[])=O0 z x.name:=by
   rw[D9,decide_eq_true_eq];unfold O0 Ft;rw[Dz];constructor
   ·intro k;have c0:cut≠[]:=fun e=>by rw[e] at k;simp at k
    have c1:under x.name cut=true:=by
     rcases Bl (under x.name cut) with q|q
     ·exact q
     ·rw[if_pos ⟨c0,q⟩] at k;exact absurd rfl k
    obtain⟨w,w1,w2,w3⟩:=hI.cut1 c0;refine⟨w,by rw[hz];exact D1 _ w1,?_⟩;have:w.name≠x.name:=fun e=>to_N.irr _ (by have:=hlt w w1 x (.head _);rw[e] at this;exact this);rw[w2,w3];rw[w3] at this;simp[this,c1]
   ·rintro⟨w,w1,w2⟩;simp only[Br,decide_eq_true_eq] at w2;have wd:=habove w w1 w2.2 (fun e=>w2.1.2 e.symm);obtain⟨c0,c1⟩:=hI.cut2 x (.head _) w wd w2.1.1 w2.2;rw[if_neg (by simp[c1])];exact c0
  have hred:decide (Ft x.name red≠[])=Gf5 z x.name:=by
   rw[D9,decide_eq_true_eq];unfold Gf5 Ft Fl;rw[Dz];constructor
   ·intro k;have c0:red≠[]:=fun e=>by rw[e] at k;simp at k
    have c1:under x.name red=true:=by
     rcases Bl (under x.name red) with q|q
     ·exact q
     ·rw[if_pos ⟨c0,q⟩] at k;exact absurd rfl k
    obtain⟨w,w1,w2,w3⟩:=hI.red1 c0;refine⟨w,by rw[hz];exact D1 _ w1,?_⟩;have:x.name≠w.name:=fun e=>to_N.irr _ (by have:=hlt w w1 x (.head _);rw[e] at this;exact this);rw[w3] at this ⊢;simp[this,c1,w2]
   ·rintro⟨w,w1,w2⟩;simp only[Br,decide_eq_true_eq] at w2;have wd:=habove w w1 w2.2.2 w2.2.1;obtain⟨c0,c1⟩:=hI.red2 x (.head _) w wd w2.1 w2.2.2;rw[if_neg (by simp[c1])];exact c0
  have hex:(∃w∈x::r,w.name=z.origin)↔(x.name=z.origin∨∃w∈l',w.name=z.origin):=by
   rw[h1];constructor
   ·rintro⟨w,w1,w2⟩;rcases Dw.1 w1 with w1|w1
    ·exact .inl (by rw[←h3 w w1];exact w2)
    ·exact .inr ⟨w,w1,w2⟩
   ·rintro (k|⟨w,w1,w2⟩)
    ·obtain⟨w,hw⟩:=Hb g h2;exact⟨w,D1 _ hw,by rw[h3 w hw];exact k⟩
    ·exact⟨w,Dj _ w1,w2⟩
  rw[h5,hex];simp only[Ag0,hnm,Cj,forall_eq_or_imp];have hp0:tj z g=propG z.origin g (O0 z x.name) (Gf5 z x.name):=by unfold tj;rw[hnm]
  rw[hp0];rw[hcut,hred];by_cases hp:propG z.origin g (O0 z x.name) (Gf5 z x.name)=true
  ·rw[if_pos hp];obtain⟨pu,pr⟩:=Ax6 hp;rw[hnm] at pu;have hlen:=congrArg List.length h1;have hg0:0<g.length:=Cl.2 h2;simp only[B3,Cv] at hlen hn;have hmid:∀m∈l',∀w∈done,under m.name w.name=true→under x.name w.name=true:=fun m hm w hw hu=>
    Cs9 hvx hu (fun k=>to_N.asym (hlt w hw x (.head _)) k) (fun k=>to_N.asym (hgl m hm) k)
   have hredE:Ft x.name red=[]:=by have:=hred;rw[pr] at this;simpa using this
   have ih:=Bn6 z hv hs n (done++g) l' (if Ft x.name cut=[]∧x.name≠z.origin∧H7 g 2=true then x.name else Ft x.name cut) (if H7 g 39=true then x.name else Ft x.name red) (soa||decide (x.name=z.origin)) (by omega) (by rw[hz,h1,Cw])
    (fun a ha b hb=>by
     rcases Dw.1 ha with ha|ha
     ·exact hlt a ha b (hmem' b hb)
     ·rw[h3 a ha];exact hgl b hb)
    ⟨?_,?_,?_,?_⟩
   ·rw[ih];simp only[Cy,decide_eq_true_eq,hp,true_and];constructor
    ·rintro⟨k1,(k2|k2)|k2⟩
     ·exact⟨k1,.inl k2⟩
     ·exact⟨k1,.inr (.inl k2)⟩
     ·exact⟨k1,.inr (.inr k2)⟩
    ·rintro⟨k1,k2|k2|k2⟩
     ·exact⟨k1,.inl (.inl k2)⟩
     ·exact⟨k1,.inl (.inr k2)⟩
     ·exact⟨k1,.inr k2⟩
   ·-- the cut is one
    intro k;by_cases c:Ft x.name cut=[]∧x.name≠z.origin∧H7 g 2=true
    ·rw[if_pos c];obtain⟨w,w1,w2⟩:=Dz.1 c.2.2;simp only[decide_eq_true_eq] at w2;refine⟨w,Dj _ w1,?_,h3 w w1⟩;unfold Eg Fl;rw[h3 w w1];simp[w2,pu,c.2.1]
    ·rw[if_neg c] at k ⊢;have c0:cut≠[]:=fun e=>by rw[e] at k;simp[Ft] at k
     have c1:Ft x.name cut=cut:=by
      unfold Ft at k ⊢;by_cases q:cut≠[]∧under x.name cut=false
      ·rw[if_pos q] at k;exact absurd rfl k
      ·rw[if_neg q]
     rw[c1];obtain⟨w,w1,w2⟩:=hI.cut1 c0;exact⟨w,D1 _ w1,w2⟩
   ·intro m hm w hw hc hu;rcases Dw.1 hw with hw|hw
    ·have hxu:=hmid m hm w hw hu;obtain⟨c0,c1⟩:=hI.cut2 x (.head _) w hw hc hxu;obtain⟨_,c2⟩:=hI.cut2 m (hmem' m hm) w hw hc hu;have c3:Ft x.name cut=cut:=by unfold Ft;rw[if_neg (by simp[c1])]
     rw[c3,if_neg (by simp[c0])];exact⟨c0,c2⟩
    ·rw[h3 w hw] at hu;have hc':=hc;unfold Eg Fl at hc';rw[h3 w hw] at hc';simp only[Br,decide_eq_true_eq] at hc';have hns:H7 g 2=true:=Dz.2 ⟨w,hw,by simp[hc'.1]⟩;by_cases c:Ft x.name cut=[]
     ·rw[if_pos ⟨c,hc'.2.1,hns⟩];exact⟨Ak8 hvx,hu⟩
     ·rw[if_neg (by simp[c])];have q:¬(cut≠[]∧under x.name cut=false):=fun q=>c (by unfold Ft;rw[if_pos q]);have c1:Ft x.name cut=cut:=by unfold Ft;rw[if_neg q]
      rw[c1] at c ⊢;have c2:under x.name cut=true:=by
       rcases Bl (under x.name cut) with k|k
       ·exact k
       ·exact absurd ⟨c,k⟩ q
      exact⟨c,Cn6 hu c2⟩
   ·intro k;rw[hredE] at k ⊢;by_cases c:H7 g 39=true
    ·rw[if_pos c];obtain⟨w,w1,w2⟩:=Dz.1 c;simp only[decide_eq_true_eq] at w2;exact⟨w,Dj _ w1,w2,h3 w w1⟩
    ·rw[if_neg c] at k;exact absurd rfl k
   ·intro m hm w hw hc hu;rcases Dw.1 hw with hw|hw
    ·exfalso;have hxu:=hmid m hm w hw hu;obtain⟨c0,c1⟩:=hI.red2 x (.head _) w hw hc hxu;have:Ft x.name red=red:=by unfold Ft;rw[if_neg (by simp[c1])]
     rw[this] at hredE;exact c0 hredE
    ·rw[h3 w hw] at hu;have hd:H7 g 39=true:=Dz.2 ⟨w,hw,by simp[hc]⟩;rw[if_pos hd];exact⟨Ak8 hvx,hu⟩
  ·rw[if_neg hp];simp[hp]
end Go.X.G
