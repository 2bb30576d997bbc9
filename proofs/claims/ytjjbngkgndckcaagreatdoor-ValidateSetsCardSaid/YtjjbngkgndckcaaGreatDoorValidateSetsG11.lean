/- Questions and messages. -/
import Derived.Test.YtjjbngkgndckcaaGreatDoorValidateSetsG10
import Derived.Test.YtjjbngkgndckcaaGreatDoorValidateSetsG9
import Derived.Test.YtjjbngkgndckcaaGreatDoorValidateSetsG7
import Derived.Test.YtjjbngkgndckcaaGreatDoorValidateSetsG8
open Bool renaming and_eq_true->Bt,eq_false_or_eq_true->B0,false_eq_true->B5,or_eq_true->Cq,not_eq_true'->Dl,eq_iff_iff->Gw,and_true->Ot,true_and->Ew9
open Int renaming toNat_natCast->Es,le_refl->Ud
open List renaming getElem?_eq_some_iff->Bn,length_append->Br,getElem?_eq_getElem->B4,append_assoc->Ck,length_take->Cv,mem_of_getElem?->Cy,length_cons->Cz,mem_cons->Cg,length_nil->Cm,getD_eq_getElem?_getD->Ct,length_pos_iff->C2,getElem?_map->C4,cons_append->Dq,getElem?_cons_zero->Dm,take_length->D7,getElem?_cons_succ->Ec,drop_eq_getElem_cons->Eg,nil_append->Em,take_add_one->Ep,mem_of_mem_take->Er,take_of_length_le->Fx,length_replicate->Gr,map_cons->Gs,drop_zero->Gt,flatMap_cons->Hs,drop_eq_nil_of_le->Ht,mem_cons_self->Im,isSuffixOf_iff_suffix->K7,append_cancel_right->Or,set_append_right->d9
open Nat renaming le_refl->B7,zero_le->D9
open Option renaming map_eq_some_iff->Bp,bind_some->Bs,map_some->Cc,isSome_none->V3
open Option.some renaming injEq->Bm
set_option maxHeartbeats 1000000
set_option linter.defProp false
set_option linter.unusedVariables false
set_option linter.unusedSimpArgs false
namespace Go.X
open Go
structure Ques where
 name:List UInt8
 typ:Int
 deriving DecidableEq
structure Msg where
 id:Int
 op:Int
 code:Int
 resp:Bool
 aa:Bool
 tc:Bool
 rd:Bool
 ra:Bool
 ad:Bool
 cd:Bool
 dok:Bool
 size:Int
 q:Ques
 ans:List Rec
 auth:List Rec
 ext:List Rec
 deriving DecidableEq
structure Ques.wf (x:Ques):Prop where
 name:d4 x.name
 typ:cw x.typ
structure Msg.wf (m:Msg):Prop where
 id:cw m.id
 op:cw m.op
 code:cw m.code
 size:cw m.size
 q:m.q.wf
 ans:gj m.ans
 auth:gj m.auth
 ext:gj m.ext
def Ques.cells (x:Ques):List PV:=[.s x.name,.i .i64 x.typ]
def Ques.pv (x:Ques):PV:= .a x.cells
def Msg.cells (m:Msg):List PV:= .i .i64 m.id:: .i .i64 m.op:: .i .i64 m.code:: .b m.resp:: .b m.aa:: .b m.tc:: .b m.rd:: .b m.ra:: .b m.ad:: .b m.cd:: .b m.dok:: .i .i64 m.size:: .s m.q.name:: .i .i64 m.q.typ::B9 m.ans::B9 m.auth::B9 m.ext::[]
def Msg.pv (m:Msg):PV:= .a m.cells
def Ap2 (m:Msg):C0 0 m.pv=some (.i .i64 m.id):=rfl
def Ap1 (m:Msg):C0 1 m.pv=some (.i .i64 m.op):=rfl
def Ap0 (m:Msg):C0 2 m.pv=some (.i .i64 m.code):=rfl
def An9 (m:Msg):C0 3 m.pv=some (.b m.resp):=rfl
def An8 (m:Msg):C0 4 m.pv=some (.b m.aa):=rfl
def An7 (m:Msg):C0 5 m.pv=some (.b m.tc):=rfl
def An6 (m:Msg):C0 6 m.pv=some (.b m.rd):=rfl
def An5 (m:Msg):C0 7 m.pv=some (.b m.ra):=rfl
def An4 (m:Msg):C0 8 m.pv=some (.b m.ad):=rfl
def An3 (m:Msg):C0 9 m.pv=some (.b m.cd):=rfl
def vm (m:Msg):C0 10 m.pv=some (.b m.dok):=rfl
def vl (m:Msg):C0 11 m.pv=some (.i .i64 m.size):=rfl
def vh (m:Msg):C0 12 m.pv=some (.s m.q.name):=rfl
def vg (m:Msg):C0 13 m.pv=some (.i .i64 m.q.typ):=rfl
def vf (m:Msg):C0 14 m.pv=some (B9 m.ans):=rfl
def vc (m:Msg):C0 15 m.pv=some (B9 m.auth):=rfl
def vb (m:Msg):C0 16 m.pv=some (B9 m.ext):=rfl
def Dz8 (m:Msg):J6 0 17 m.pv=some m.pv:=rfl
def Dm5 (m:Msg):Pb 17 m.pv=some m.pv:=rfl
def Ac0 (m:Msg):J6 12 2 m.pv=some m.q.pv:=rfl
def Gk6 (x:Ques):J6 0 2 x.pv=some x.pv:=rfl
def Gz9 (x:Ques):Pb 2 x.pv=some x.pv:=rfl
def Dc4 (x:Ques):C0 0 x.pv=some (.s x.name):=rfl
def Dc3 (x:Ques):C0 1 x.pv=some (.i .i64 x.typ):=rfl
def Fc1 (n:List UInt8) (t:Int):PV.a [.s n,.i .i64 t]=Ques.pv ⟨n,t⟩:=rfl
def Gb5 (x:Ques):(⟨x.name,x.typ⟩:Ques)=x:=rfl
def Cz5 (x0 x1 x2:Int) (b0 b1 b2 b3 b4 b5 b6 b7:Bool) (x3:Int) (n:List UInt8) (t:Int) (l0 l1 l2:List Rec):PV.a [.i .i64 x0,.i .i64 x1,.i .i64 x2,.b b0,.b b1,.b b2,.b b3,.b b4,.b b5,.b b6,.b b7,.i .i64 x3,.s n,.i .i64 t,B9 l0,B9 l1,B9 l2]=Msg.pv ⟨x0,x1,x2,b0,b1,b2,b3,b4,b5,b6,b7,x3,⟨n,t⟩,l0,l1,l2⟩:=rfl
def Gf5 (neg:Bool) (x y:Ques):Ln neg true [.s,(.i .i64)] x.pv y.pv=some (.b (if neg then decide (x≠y) else decide (x=y))):=by
 have:G9 [.s,(.i .i64)] x.cells y.cells=some (decide (x=y)):=by simp only[Ques.cells,G9,Bm4,if_true,Bm];rw[Gw];cases x;cases y;simp
 simp only[Ln,Ques.pv,this,Cc];cases neg<;>simp
set_option linter.defProp false in
def EVM:=(And.intro @Ap2 (And.intro @Ap1 (And.intro @Ap0 (And.intro @An9 (And.intro @An8 (And.intro @An7 (And.intro @An6 (And.intro @An5 (And.intro @An4 (And.intro @An3 (And.intro @vm (And.intro @vl (And.intro @vh (And.intro @vg (And.intro @vf (And.intro @vc (And.intro @vb (And.intro @Dz8 (And.intro @Dm5 (And.intro @Ac0 (And.intro @Gk6 (And.intro @Gz9 (And.intro @Dc4 (And.intro @Dc3 (And.intro @Fc1 (And.intro @Gb5 (And.intro @Cz5 @Gf5)))))))))))))))))))))))))))
def Fn9 (fn:Fns) (J:List PV) (fl:Bool) (ar:List E) (m:Nat):PV->Option (List PV)
 | .f f caps=>(E.evs J ar).bind fun vs=>results fl m J (fn f vs.length (vs++caps))
 |_=>none
def l6 {fn:Fns} {J:List PV} (fl:Bool) (c:E) (ar:List E) (m:Nat):W.ev fn J (.clo none fl c ar m)=(c.ev J).bind (Fn9 fn J fl ar m):=by
 rw[Dq7];congr 1;funext q;cases q with
 |f f caps=>rfl
 |_=>cases h:E.evs J ar<;>rfl
def Fh3 {fn:Fns} {J:List PV} (fl:Bool) (ar:List E) (m:Nat) (f:Nat) (caps:List PV):Fn9 fn J fl ar m (.f f caps)=(E.evs J ar).bind fun vs=>results fl m J (fn f vs.length (vs++caps)):=rfl
def Fv7 (f:Nat) (caps:List PV):C0 0 (.f f caps)=some (.f f caps):=rfl
def Em2 (f:Nat) (caps:List PV):I3 (.f f caps)=some (.f f caps):=rfl
def Mn (ks:List (List UInt8)):PV:= .m (ks.map fun k=>(.s k,.b true))
def Db7:PV.m []=Mn []:=rfl
def Cj2 (ks:List (List UInt8)):C0 0 (Mn ks)=some (Mn ks):=rfl
def Bs4 (ks:List (List UInt8)):I3 (Mn ks)=some (Mn ks):=rfl
def bg (k:List UInt8):∀ks:List (List UInt8),Xk (.s k) (ks.map fun k=>(.s k,.b true))=some (if k∈ks then some (.b true) else none)
 |[]=>by simp[Xk]
 |x::ks=>by
  simp only[Gs,Xk,b9];by_cases h:k=x
  .subst h;simp
  .have h2:(k==x)=false:=by simpa using h
   rw[h2];simp only[bg k ks,Cg,h,false_or]
def o9 (k:List UInt8):∀ks:List (List UInt8),Cs3 (.s k) (.b true) (ks.map fun k=>(.s k,.b true))=some ((if k∈ks then ks else ks++[k]).map fun k=>(.s k,.b true))
 |[]=>by simp[Cs3]
 |x::ks=>by
  simp only[Gs,Cs3,b9];by_cases h:k=x
  .subst h;simp
  .have h2:(k==x)=false:=by simpa using h
   rw[h2];simp only[o9 k ks,Cg,h,false_or,Cc];by_cases h3:k∈ks<;>simp[h3]
def Cw3 (k:List UInt8) (ks:List (List UInt8)):bf (Mn ks) (.s k) (.b false)=some (.b (decide (k∈ks))):=by simp only[bf,Mn,By5,if_true,bg,Cc];by_cases h:k∈ks<;>simp[h]
def Cw2 (k:List UInt8) (ks:List (List UInt8)):bz (Mn ks) (.s k) (.b true)=some (Mn (if k∈ks then ks else ks++[k])):=by simp only[bz,Mn,By5,if_true,o9,Cc]
def Bq0 (a b:List Rec):K1 1 [B9 a,B9 b]=some (.l 1 ([a,b].map B9)):=rfl
def Fh2 (fn:Fns) (J:List PV) (fl:Bool) (c:E) (ar:List E) (m:Nat):PV->Option (List PV)
 | .b true=>(c.ev J).bind (Fn9 fn J fl ar m)
 | .b false=>some (J++List.replicate m .u)
 |_=>none
def Jn {fn:Fns} {J:List PV} (g:E) (fl:Bool) (c:E) (ar:List E) (m:Nat):W.ev fn J (.clo (some g) fl c ar m)=(g.ev J).bind (Fh2 fn J fl c ar m):=by
 have h:=l6 (fn:=fn) (J:=J) fl c ar m;simp only[W.ev,F1] at h ⊢;congr 1;funext q;cases q with
 |b x=>cases x with
  |true=>exact h
  |false=>rfl
 |_=>rfl
def Lt (fn:Fns) (J:List PV) (fl:Bool) (c:E) (ar:List E) (m:Nat) (x:Bool):Fh2 fn J fl c ar m (.b x)=if x=true then(c.ev J).bind (Fn9 fn J fl ar m) else some (J++List.replicate m .u):=by cases x<;>rfl
set_option linter.defProp false in
def EVC:=(And.intro @l6 (And.intro @Fh3 (And.intro @Fv7 (And.intro @Em2 (And.intro @Db7 (And.intro @Cj2 (And.intro @Bs4 (And.intro @Cw3 (And.intro @Cw2 @Bq0)))))))))
structure Adr where
 v6:Bool
 hi:Int
 lo:Int
 deriving DecidableEq
structure Tk where
 q:Ques
 name:List UInt8
 zone:List UInt8
 hosts:List (List UInt8)
 addrs:List Adr
 tried:List Adr
 state:Int
 more:Int
 dst:Adr
 asked:Ques
 sent:Int
 chain:List Rec
 last:Msg
 err:Int
def Adr.pv (x:Adr):PV:= .a [.b x.v6,.i .u64 x.hi,.i .u64 x.lo]
def F0 (l:List Adr):PV:= .l 3 (l.map Adr.pv)
def Dat.adr (d:Dat):Adr:=⟨d.v6,d.hi,d.lo⟩
def Tk.cells (t:Tk):List PV:=[.s t.q.name,.i .i64 t.q.typ,.s t.name,.s t.zone,Dv t.hosts,F0 t.addrs,F0 t.tried,.i .i64 t.state,.i .i64 t.more,.b t.dst.v6,.i .u64 t.dst.hi,.i .u64 t.dst.lo,.s t.asked.name,.i .i64 t.asked.typ,.i .i64 t.sent,B9 t.chain,.i .i64 t.last.id,.i .i64 t.last.op,.i .i64 t.last.code,.b t.last.resp,.b t.last.aa,.b t.last.tc,.b t.last.rd,.b t.last.ra,.b t.last.ad,.b t.last.cd,.b t.last.dok,.i .i64 t.last.size,.s t.last.q.name,.i .i64 t.last.q.typ,B9 t.last.ans,B9 t.last.auth,B9 t.last.ext,.i .i64 t.err]
def Tk.pv (t:Tk):PV:= .a t.cells
def Cj1 (t:Tk):C0 0 t.pv=some (.s t.q.name):=rfl
def Cj0 (t:Tk):C0 1 t.pv=some (.i .i64 t.q.typ):=rfl
def Bt9 (t:Tk):C0 2 t.pv=some (.s t.name):=rfl
def Bt8 (t:Tk):C0 3 t.pv=some (.s t.zone):=rfl
def Bt7 (t:Tk):C0 4 t.pv=some (Dv t.hosts):=rfl
def Bt6 (t:Tk):C0 5 t.pv=some (F0 t.addrs):=rfl
def Bt5 (t:Tk):C0 6 t.pv=some (F0 t.tried):=rfl
def Bt4 (t:Tk):C0 7 t.pv=some (.i .i64 t.state):=rfl
def Bt3 (t:Tk):C0 8 t.pv=some (.i .i64 t.more):=rfl
def Bt2 (t:Tk):C0 9 t.pv=some (.b t.dst.v6):=rfl
def Al6 (t:Tk):C0 10 t.pv=some (.i .u64 t.dst.hi):=rfl
def Al5 (t:Tk):C0 11 t.pv=some (.i .u64 t.dst.lo):=rfl
def Al4 (t:Tk):C0 12 t.pv=some (.s t.asked.name):=rfl
def Al3 (t:Tk):C0 13 t.pv=some (.i .i64 t.asked.typ):=rfl
def Al2 (t:Tk):C0 14 t.pv=some (.i .i64 t.sent):=rfl
def Al1 (t:Tk):C0 15 t.pv=some (B9 t.chain):=rfl
def Al0 (t:Tk):C0 16 t.pv=some (.i .i64 t.last.id):=rfl
def Ah9 (t:Tk):C0 17 t.pv=some (.i .i64 t.last.op):=rfl
def Ah8 (t:Tk):C0 18 t.pv=some (.i .i64 t.last.code):=rfl
def Ah7 (t:Tk):C0 19 t.pv=some (.b t.last.resp):=rfl
def Ah6 (t:Tk):C0 20 t.pv=some (.b t.last.aa):=rfl
def Ah5 (t:Tk):C0 21 t.pv=some (.b t.last.tc):=rfl
def Ah4 (t:Tk):C0 22 t.pv=some (.b t.last.rd):=rfl
def Ah3 (t:Tk):C0 23 t.pv=some (.b t.last.ra):=rfl
def Ah2 (t:Tk):C0 24 t.pv=some (.b t.last.ad):=rfl
def Ah1 (t:Tk):C0 25 t.pv=some (.b t.last.cd):=rfl
def Ah0 (t:Tk):C0 26 t.pv=some (.b t.last.dok):=rfl
def Ag9 (t:Tk):C0 27 t.pv=some (.i .i64 t.last.size):=rfl
def Ag8 (t:Tk):C0 28 t.pv=some (.s t.last.q.name):=rfl
def Ag7 (t:Tk):C0 29 t.pv=some (.i .i64 t.last.q.typ):=rfl
def Ag6 (t:Tk):C0 30 t.pv=some (B9 t.last.ans):=rfl
def Ag5 (t:Tk):C0 31 t.pv=some (B9 t.last.auth):=rfl
def Ag4 (t:Tk):C0 32 t.pv=some (B9 t.last.ext):=rfl
def Ag3 (t:Tk):C0 33 t.pv=some (.i .i64 t.err):=rfl
def El4 (t:Tk):J6 0 34 t.pv=some t.pv:=rfl
def Fc6 (t:Tk):Pb 34 t.pv=some t.pv:=rfl
def tg (t:Tk):J6 9 3 t.pv=some t.dst.pv:=rfl
def Zj (t:Tk):J6 12 2 t.pv=some t.asked.pv:=rfl
def Bp9 (t:Tk):J6 0 2 t.pv=some t.q.pv:=rfl
def fb (t:Tk):J6 16 17 t.pv=some t.last.pv:=rfl
def Dm0 (x0:List UInt8) (x1:Int) (x2:List UInt8) (x3:List UInt8) (x4:List (List UInt8)) (x5:List Adr) (x6:List Adr) (x7:Int) (x8:Int) (x9:Bool) (x10:Int) (x11:Int) (x12:List UInt8) (x13:Int) (x14:Int) (x15:List Rec) (x16:Int) (x17:Int) (x18:Int) (x19:Bool) (x20:Bool) (x21:Bool) (x22:Bool) (x23:Bool) (x24:Bool) (x25:Bool) (x26:Bool) (x27:Int) (x28:List UInt8) (x29:Int) (x30:List Rec) (x31:List Rec) (x32:List Rec) (x33:Int):PV.a [.s x0,.i .i64 x1,.s x2,.s x3,Dv x4,F0 x5,F0 x6,.i .i64 x7,.i .i64 x8,.b x9,.i .u64 x10,.i .u64 x11,.s x12,.i .i64 x13,.i .i64 x14,B9 x15,.i .i64 x16,.i .i64 x17,.i .i64 x18,.b x19,.b x20,.b x21,.b x22,.b x23,.b x24,.b x25,.b x26,.i .i64 x27,.s x28,.i .i64 x29,B9 x30,B9 x31,B9 x32,.i .i64 x33]=Tk.pv ⟨⟨x0,x1⟩,x2,x3,x4,x5,x6,x7,x8,⟨x9,x10,x11⟩,⟨x12,x13⟩,x14,x15,⟨x16,x17,x18,x19,x20,x21,x22,x23,x24,x25,x26,x27,⟨x28,x29⟩,x30,x31,x32⟩,x33⟩:=rfl
def Ff6 (t:Tk):(⟨t.q,t.name,t.zone,t.hosts,t.addrs,t.tried,t.state,t.more,t.dst,t.asked,t.sent,t.chain,t.last,t.err⟩:Tk)=t:=rfl
def Dp0 (m:Msg):(⟨m.id,m.op,m.code,m.resp,m.aa,m.tc,m.rd,m.ra,m.ad,m.cd,m.dok,m.size,m.q,m.ans,m.auth,m.ext⟩:Msg)=m:=rfl
def Dp1 (x:Adr):(⟨x.v6,x.hi,x.lo⟩:Adr)=x:=rfl
def Fl9 (d:Dat):Jf d=d.adr.pv:=rfl
def Cz6 (v:Bool) (h l:Int):PV.a [.b v,.i .u64 h,.i .u64 l]=Adr.pv ⟨v,h,l⟩:=rfl
def Eq8 (d:Dat):(⟨d.v6,d.hi,d.lo⟩:Adr)=d.adr:=rfl
def Db1 (x:Adr):J6 0 3 x.pv=some x.pv:=rfl
def Dm8 (x:Adr):Pb 3 x.pv=some x.pv:=rfl
def Ar9 (x:Adr):C0 0 x.pv=some (.b x.v6):=rfl
def Ar8 (x:Adr):C0 1 x.pv=some (.i .u64 x.hi):=rfl
def Ar7 (x:Adr):C0 2 x.pv=some (.i .u64 x.lo):=rfl
def Cb1 (x:Adr):PV.flat x.pv=true:=rfl
def Cf4:PV.l 3 []=F0 []:=rfl
def Dh2 (x:Adr):K1 3 [x.pv]=some (F0 [x]):=rfl
def Ad8 (l:List Adr):I3 (F0 l)=some (F0 l):=rfl
def Ar6 (l:List Adr):C0 0 (F0 l)=some (F0 l):=rfl
def Fc3 (x:Ques):PV.flat x.pv=true:=rfl
def El8 (n:Int):I3 (.i .u64 n)=some (.i .u64 n):=rfl
def Fv4 (n:Int):C0 0 (.i .u64 n)=some (.i .u64 n):=rfl
def Cx2 (l:List Adr):Hg (F0 l)=some (.i .i64 (l.length:Int)):=by simp[F0,Hg]
def Cz0 (l:List Adr) (k:IntKind) (z:Int) (h:0<=z):Kf 3 (F0 l) (.i k z)=(l[z.toNat]?).map Adr.pv:=by simp[F0,iy _ _ _ _ h]
def Bh7 (l:List Adr) (x:Adr) (h:l.length+1<=1073741824):I0 3 (F0 l) (F0 [x])=some (F0 (l++[x])):=by have:=Qr 3 (l.map Adr.pv) ([x].map Adr.pv) (by simpa using h);simpa [F0] using this
def Cf3 (l m:List Adr) (h:l.length+m.length<=1073741824):I0 3 (F0 l) (F0 m)=some (F0 (l++m)):=by have:=Qr 3 (l.map Adr.pv) (m.map Adr.pv) (by simpa using h);simpa [F0] using this
def Cw5 (l:List Adr) (k k':IntKind) (a b:Int) (h1:0<=a) (h2:a<=b) (h3:b<=(l.length:Int)):J3 3 (F0 l) (.i k a) (.i k' b)=some (F0 ((l.take b.toNat).drop a.toNat)):=by have:=Bk7 3 (l.map Adr.pv) k k' a b h1 h2 (by simpa using h3);simpa [F0,List.map_take,List.map_drop] using this
def Fg0 (neg:Bool) (x y:Adr):Ln neg true [.b,(.i .u64),(.i .u64)] x.pv y.pv=some (.b (if neg then decide (x≠y) else decide (x=y))):=by
 have:G9 [.b,(.i .u64),(.i .u64)] [.b x.v6,.i .u64 x.hi,.i .u64 x.lo] [.b y.v6,.i .u64 y.hi,.i .u64 y.lo]=some (decide (x=y)):=by simp only[G9,Bm4,if_true,Bm];rw[Gw];cases x;cases y;simp
 simp only[Ln,Adr.pv,this,Cc];cases neg<;>simp
set_option linter.defProp false in
def EVT:=(And.intro @Cj1 (And.intro @Cj0 (And.intro @Bt9 (And.intro @Bt8 (And.intro @Bt7 (And.intro @Bt6 (And.intro @Bt5 (And.intro @Bt4 (And.intro @Bt3 (And.intro @Bt2 (And.intro @Al6 (And.intro @Al5 (And.intro @Al4 (And.intro @Al3 (And.intro @Al2 (And.intro @Al1 (And.intro @Al0 (And.intro @Ah9 (And.intro @Ah8 (And.intro @Ah7 (And.intro @Ah6 (And.intro @Ah5 (And.intro @Ah4 (And.intro @Ah3 (And.intro @Ah2 (And.intro @Ah1 (And.intro @Ah0 (And.intro @Ag9 (And.intro @Ag8 (And.intro @Ag7 (And.intro @Ag6 (And.intro @Ag5 (And.intro @Ag4 (And.intro @Ag3 (And.intro @El4 (And.intro @Fc6 (And.intro @tg (And.intro @Zj (And.intro @Bp9 (And.intro @fb (And.intro @Dm0 (And.intro @Ff6 (And.intro @Dp0 (And.intro @Dp1 (And.intro @Fl9 (And.intro @Cz6 (And.intro @Eq8 (And.intro @Db1 (And.intro @Dm8 (And.intro @Ar9 (And.intro @Ar8 (And.intro @Ar7 (And.intro @Cb1 (And.intro @Cf4 (And.intro @Dh2 (And.intro @Ad8 (And.intro @Ar6 (And.intro @Fc3 (And.intro @El8 (And.intro @Fv4 (And.intro @Cx2 (And.intro @Cz0 (And.intro @Bh7 (And.intro @Cf3 (And.intro @Cw5 @Fg0)))))))))))))))))))))))))))))))))))))))))))))))))))))))))))))))))
end Go.X
namespace Go.X.G
open Go Go.X
def Aq:=And.intro xe<|And.intro EVP EV
def Ak:=And.intro EVC<|And.intro xe<|And.intro EVP EV
def Bm1 (l:List Rec) (hl:l.length<=1000000):S om 1 [B9 l]=some [B9 l]:=by
 refine Fk1 (N:=1) rfl ?_;have h0:I0 16 (B9 []) (B9 l)=some (B9 l):=by simpa using X9 [] l (by simp;omega)
 simp(disch:=omega)only[Ez5,h0,EVT,Ak,simprocAttr]
def Ds0 (x:List UInt8) (c:UInt8):S nk 2 [.s x,.i .u8 (c.toNat:Int)]=some [.i .i64 (x.count c:Int)]:=
 En6 (args:=[.s x,.i .u8 (c.toNat:Int)]) (by simp[XK.run,t7,Lib.countByte])
def Dl8 (x:List UInt8) (c:UInt8):S mr 2 [.s x,.i .u8 (c.toNat:Int)]=some [.i .i64 (Lib.indexByte x c)]:=
 Em5 (args:=[.s x,.i .u8 (c.toNat:Int)]) (by simp[XK.run,t7])
def Ds1 (x y:List UInt8):S ms 2 [.s x,.s y]=some [.i .i64 (Lib.compareBytes x y)]:=
 Em6 (args:=[.s x,.s y]) (by simp[XK.run,Bs7])
def Yv (x:List UInt8) (c:UInt8):S Z6 2 [.s x,.i .u8 (c.toNat:Int)]=some [.i .i64 (Lib.indexByte x c)]:=by refine Em8 (N:=1) rfl ?_;simp(disch:=omega)only[Ex3,Dl8,Aq,simprocAttr]
def M0 (c:UInt8):∀(x:List UInt8),c∉x->Lib.indexByte x c= -1
 |[],_=>rfl
 |b::l,h=>by have h1:b≠c:=fun e=>h (by simp[e]);have h2:=M0 c l (fun e=>h (by simp[e]));simp[Lib.indexByte,h1,h2]
def Mt (c:UInt8) (post:List UInt8):∀(pre:List UInt8),c∉pre->Lib.indexByte (pre++c::post) c=(pre.length:Int)
 |[],_=>by simp[Lib.indexByte]
 |b::l,h=>by
  have h1:b≠c:=fun e=>h (by simp[e]);have h2:=Mt c post l (fun e=>h (by simp[e]));simp only[Dq,Lib.indexByte,h2];simp[h1]
  try omega
def dot_split (c:UInt8):∀(s:List UInt8),c∉s∨∃pre post,s=pre++c::post∧c∉pre
 |[]=> .inl (by simp)
 |b::l=>by
  by_cases h:b=c
  .exact .inr ⟨[],l,by simp[h],by simp⟩
  .rcases dot_split c l with h1|⟨pre,post,rfl,h2⟩
   .exact .inl (by simp[h1,Ne.symm h])
   .exact .inr ⟨b::pre,post,by simp,by simp[h2,Ne.symm h]⟩
def pcs (cur:List UInt8):List UInt8->List (List UInt8)
 |[]=>[cur]
 |c::r=>if c=46 then cur::pcs [] r else pcs (cur++[c]) r
def cut (s:List UInt8):List (List UInt8):=pcs [] s
def As8 (post:List UInt8):∀(pre cur:List UInt8),(46:UInt8)∉pre->pcs cur (pre++46::post)=(cur++pre)::pcs [] post
 |[],cur,_=>by simp[pcs]
 |b::l,cur,h=>by have h1:b≠46:=fun e=>h (by simp[e]);have h2:=As8 post l (cur++[b]) (fun e=>h (by simp[e]));simp[pcs,h1,h2]
def Ws:∀(s cur:List UInt8),(46:UInt8)∉s->pcs cur s=[cur++s]
 |[],cur,_=>by simp[pcs]
 |b::l,cur,h=>by have h1:b≠46:=fun e=>h (by simp[e]);have h2:=Ws l (cur++[b]) (fun e=>h (by simp[e]));simp[pcs,h1,h2]
def Bc7 (s:List UInt8):(cut s).length=s.count 46+1:=by
 have:∀(s cur:List UInt8),(pcs cur s).length=s.count 46+1:=by
  intro s
  induction s with
  |nil=>intro cur;rfl
  |cons c r ih=>
   intro cur;by_cases h:c=46<;>simp[pcs,h,ih]
 exact this s []
def yn (s:List UInt8) (hs:s.length<=9223372036854775807):S nj 2 [.s s,.s [46]]=some [.i .i64 (Lib.indexByte s 46)]:=by
 refine En5 (N:=1) rfl ?_;have h1:=Yv s 46;have e:(((46:UInt8).toNat:Nat):Int)=46:=rfl;rw[e] at h1;by_cases h:[46]=s
 .subst h;simp(disch:=omega)only[Ch2,Aq,simprocAttr];rfl
 .simp(disch:=omega)only[Ch2,h,h1,e,Aq,simprocAttr]
def dn (s:List UInt8) (hs:s.length<=9223372036854775807):S av 2 [.s s,.s [46]]=some [.i .i64 (Lib.indexByte s 46)]:=by refine Er2 (N:=1) rfl ?_;simp(disch:=omega)only[Ey2,yn,Aq,simprocAttr]
def Bl9 (s:List UInt8):S ng 2 [.s s,.s [46]]=some [.i .i64 (s.count 46:Int)]:=by refine Er3 (N:=1) rfl ?_;have h1:=Ds0 s 46;have e:(((46:UInt8).toNat:Nat):Int)=46:=rfl;rw[e] at h1;simp(disch:=omega)only[Ey3,h1,e,Aq,simprocAttr]
def Bz4 (done rest:List (List UInt8)):Out:=
 .yld 0 [.s ((done++rest).getLastD []),Dv ((done++rest).dropLast++[[]]),.i .i64 (((done++rest).length:Int) - 1)]
def il (s:List UInt8) (N:Nat) (hN:s.length<N) (hs:s.length<=1000000) (p q:PV):
  iq.ev S N [.s s,.s [46],.i .i64 0,p,.i .i64 ((s.count 46:Int)+1)]=some (Bz4 [] (cut s)):=by
 have hc0:s.count 46<=s.length:=List.count_le_length;have key:=H2 (fn:=S) (N:=N) (J:=[.s s,.s [46],.i .i64 0,p,.i .i64 ((s.count 46:Int)+1)]) (id:=1) (init:=[(.v 0),(.rep 1 (.mn (.v 4) (.bin .add (.slen (.v 0)) (.c (.i .i64 (1))))) (.c (.s []))),(.c (.i .i64 (0)))]) (body:=kv) (α:=List (List UInt8)×List UInt8)
  (fun a=>[.s a.2,Dv (a.1++List.replicate (a.2.count 46+1) []),.i .i64 (a.1.length:Int)]) (fun a=>Bz4 a.1 (cut a.2)) (fun a=>a.1.length+a.2.count 46=s.count 46∧a.2.length<=s.length) (fun a=>a.2.length) ([],s) ?_ ⟨by simp,B7 _⟩ hN ?_
 .simpa [iq] using key
 .have e:((s.count 46:Int)+1).toNat=s.count 46+1:=by omega
  simp(disch:=omega)only[e,Aq,simprocAttr]
 .rintro⟨done,rest⟩ ⟨h1,h2⟩;simp only at h1 h2 ⊢;rcases dot_split 46 rest with h|⟨pre,post,rfl,h⟩
  .right;have c0:rest.count 46=0:=List.count_eq_zero.2 h;have i0:=M0 46 rest h;have cu:cut rest=[rest]:=by simpa [cut] using Ws rest [] h
   refine⟨?_,rfl⟩;rw[c0];rw[c0] at h1;simp(disch:=omega)only[zt,dn,i0,Aq,simprocAttr];simp[Bz4,cu,List.getLastD_eq_getLast?]
  .left;have c0:(pre++46::post).count 46=post.count 46+1:=by rw[List.count_append,List.count_eq_zero.2 h];simp
   have i0:=Mt 46 post pre h;have cu:cut (pre++46::post)=pre::cut post:=by simpa [cut] using As8 post pre [] h
   have hl:(pre++46::post).length=pre.length+post.length+1:=by simp;omega
   have sl1:List.drop (0:Int).toNat (List.take ((pre.length:Int)+0).toNat (pre++46::post))=pre:=by simp
   have sl2:List.drop ((pre.length:Int)+1).toNat (List.take (pre++46::post).length (pre++46::post))=post:=by
    have:((pre.length:Int)+1).toNat=pre.length+1:=by omega
    rw[this,D7,List.drop_append];simp
   have sl3:(done++[]::[]::List.replicate (post.count 46) ([]:List UInt8)).length=done.length+post.count 46+2:=by simp;omega
   refine⟨(done++[pre],post),?_,⟨by simp;omega,by simp only;omega⟩,by simp;omega,by simp[Bz4,cu]⟩;rw[c0];rw[c0] at h1;simp(disch:=omega)only[zt,dn,i0,sl1,sl2,Aq,simprocAttr];simp[List.replicate_succ,List.set_append]
def ig (s:List UInt8) (hs:s.length<=1000000):S ot 4 [.s s,.s [46],.i .i64 0,.i .i64 (-1)]=some [Dv (cut s)]:=by
 refine Fk2 (N:=s.length+1) rfl ?_;have h1:=Bc7 s;have h2:s.count 46<=s.length:=List.count_le_length;obtain⟨l,x,hx⟩:∃l x,cut s=l++[x]:=⟨(cut s).dropLast,(cut s).getLast (by intro e;simp[e] at h1),(List.dropLast_concat_getLast _).symm⟩;have h3:l.length=s.count 46:=by rw[hx] at h1;simpa using h1
 have h4:((l.length:Int)+1 - 1)=(l.length:Int):=by omega
 have h5:((l++[([]:List UInt8)]).length:Int)=l.length+1:=by simp
 have h6:((l++[x]).length:Int)=l.length+1:=by simp
 have g1:(l++[([]:List UInt8)])[l.length]? =some []:=by simp
 have g2:(l++[x]).getLastD []=x:=by simp[List.getLastD_eq_getLast?]
 have g3:(l++[([]:List UInt8)]).set l.length x=l++[x]:=by simp
 have hk:=il s (s.length+1) (by omega) hs (.i .i64 (-1)) .u;rw[hx] at hk ⊢;simp only[Bz4,Em,List.dropLast_concat] at hk;simp(disch:=omega)only[zt,Bl9,hk,h4,h6,g1,g2,g3,Aq,simprocAttr];have g4:((l.length:Int)+1).toNat=(l++[x]).length:=by simp
 rw[g4,D7];rfl
def dl (s:List UInt8) (hs:s.length<=1000000):S Bj0 2 [.s s,.s [46]]=some [Dv (cut s)]:=by refine Gv5 (N:=1) rfl ?_;simp(disch:=omega)only[Fp7,ig,Aq,simprocAttr]
def Yw (s t:List UInt8) (hs:s.length<=9223372036854775807):S bk 2 [.s s,.s t]=some [.b (t.isSuffixOf s)]:=by
 refine Fk3 (N:=1) rfl ?_;by_cases h:t.length<=s.length
 .have e:((s.length:Int) - (t.length:Int)).toNat=s.length - t.length:=by omega
  simp(disch:=omega)only[Cl2,e,Aq,simprocAttr];simp only[D7];congr 4;rw[Gw,K7,decide_eq_true_eq];refine⟨fun h=>h▸List.drop_suffix _ _,fun h=> ?_⟩;obtain⟨p,rfl⟩:=h;simp
 .have h2:t.isSuffixOf s=false:=by rw[Bool.eq_false_iff,ne_eq,K7];exact fun h'=>h h'.length_le
  simp(disch:=omega)only[Cl2,h2,Aq,simprocAttr]
def L5 (s t:List UInt8) (hs:s.length<=9223372036854775807):S Bj1 2 [.s s,.s t]=some [.b (t.isSuffixOf s)]:=by refine Gv6 (N:=1) rfl ?_;simp(disch:=omega)only[Fp8,Yw,Aq,simprocAttr]
def kt (x y:List UInt8):S m7 2 [.s x,.s y]=some [.i .i64 (Lib.compareBytes x y)]:=by refine Em9 (N:=1) rfl ?_;simp(disch:=omega)only[Ex4,Ds1,Aq,simprocAttr]
def kf (x y:List UInt8):S Sy 2 [.s x,.s y]=some [.i .i64 (Lib.compareBytes x y)]:=by refine En8 (N:=1) rfl ?_;simp(disch:=omega)only[Ex7,kt,Aq,simprocAttr]
def flat (l:List (List UInt8)):List UInt8:=l.flatMap fun x=>x++[46]
def jn (l:List (List UInt8)):List UInt8:=if l=[] then [46] else flat l
def Lg (first:Bool):List (List UInt8)->Bool
 |[]=>true
 |p::r=>If p && (!decide (p=[42])||first) && Lg false r
def Dh4:Pz 46=false:=by decide
def Sr {p:List UInt8} (h:If p=true):(46:UInt8)∉p:=by
 unfold If at h;simp at h;rcases h with rfl|⟨_,h⟩
 .decide
 .intro h2;have:=h 46 h2;rw[Dh4] at this;cases this
def Cy3 {p:List UInt8} (h:If p=true):p≠[]:=by rintro rfl;simp[If] at h
def Lf {p:List UInt8}:∀{f:Bool} {l:List (List UInt8)},Lg f l=true->p∈l->If p=true
 |f,q::r,h,hp=>by
  simp only[Lg,Bt] at h;rcases Cg.1 hp with rfl|hp
  .exact h.1.1
  .exact Lf h.2 hp
def Wc:∀(m:List UInt8) (f:Bool) (cur:List UInt8),spl f cur (m++[46])=if Lg f (pcs cur m)=true then some (pcs cur m) else none
 |[],f,cur=>by simp only[Em,spl,if_true,pcs,Lg,Cc,Ot];by_cases h:If cur=true<;>by_cases h2:cur=[42]<;>cases f<;>simp[h,h2]
 |c::r,f,cur=>by
  simp only[Dq,spl,pcs];by_cases hc:c=46
  .simp only[if_pos hc];rw[Wc r false []];simp only[Lg];by_cases h:If cur=true<;>by_cases h2:cur=[42]<;>cases f<;>by_cases h3:Lg false (pcs [] r)=true<;>simp[h,h2,h3]
  .simp only[if_neg hc];exact Wc r f (cur++[c])
def R9 (b:List UInt8):∀(a cur:List UInt8),pcs cur (a++46::b)=pcs cur a++cut b
 |[],cur=>by simp[pcs,cut]
 |c::r,cur=>by
  simp only[Dq,pcs];split
  .rw[R9 b r []];rfl
  .exact R9 b r _
def Q4:∀(m cur:List UInt8),flat (pcs cur m)=cur++m++[46]
 |[],cur=>by simp[pcs,flat]
 |c::r,cur=>by
  simp only[pcs];split
  .rename_i h;have:=Q4 r [];simp only[flat,Hs] at this ⊢;rw[this,h];simp
  .rw[Q4 r (cur++[c])];simp
def Cb0 (a b:List (List UInt8)):flat (a++b)=flat a++flat b:=by simp[flat]
def Fw0 (cur m:List UInt8):pcs cur m≠[]:=by
 cases m with
 |nil=>simp[pcs]
 |cons c r=>
  simp only[pcs];split
  .simp
  .intro h;have:=Q4 r (cur++[c]);rw[h] at this;simp[flat] at this
def Q6:∀(l:List (List UInt8)),(∀p∈l,(46:UInt8)∉p)->cut (flat l)=l++[[]]
 |[],_=>rfl
 |p::l,h=>by
  have h1:flat (p::l)=p++46::flat l:=by simp[flat]
  rw[h1];show pcs [] _=_;rw[R9,Ws p [] (h p (by simp)),Q6 l (fun q hq=>h q (by simp[hq]))];simp
def Oq:∀(l:List (List UInt8)),l≠[]->∃m,flat l=m++[46]
 |[p],_=>⟨p,by simp[flat]⟩
 |p::q::r,_=>by obtain⟨m,hm⟩:=Oq (q::r) (by simp);exact⟨p++[46]++m,by simp only[flat,Hs] at hm ⊢;rw[hm];simp⟩
def Cc7 {l:List (List UInt8)} (hl:l≠[]) (h:∀p∈l,(46:UInt8)∉p) {m:List UInt8} (hm:flat l=m++[46]):cut m=l:=by
 have h1:=Q6 l h;rw[hm] at h1;have h2:cut (m++[46])=cut m++[[]]:=by show pcs [] (m++46::[])=_;rw[R9];rfl
 rw[h2] at h1;exact Or h1
def cn {l:List (List UInt8)} (h:Lg true l=true) (hl:l≠[]):2<=(flat l).length:=by
 cases l with
 |nil=>exact absurd rfl hl
 |cons p r=>
  have h1:=Cy3 (Lf h (Im ..));have:0<p.length:=C2.2 h1;simp[flat];omega
def Dd8 {n:List UInt8} {l:List (List UInt8)} (h:nm n=some l):(n=[46]∧l=[])∨(l≠[]∧Lg true l=true∧n=flat l∧n.length<=254):=by
 unfold nm at h;split at h
 .rename_i e;injection h with h;exact .inl ⟨e,h.symm⟩
 .split at h
  .rename_i h1;right;obtain⟨h2,h3,h4⟩:=h1;obtain⟨m,hm⟩:∃m,n=m++[46]:=by
    refine⟨n.dropLast,?_⟩;have:n≠[]:=by intro e;simp[e] at h2
    have h5:=List.dropLast_concat_getLast this;rw[<-h5];congr 1
    .simp
    .have h6:n[n.length - 1]? =some (n.getLast this):=by rw[List.getLast_eq_getElem];exact B4 _
     rw[h6] at h4;injection h4 with h4;simp[h4]
   rw[hm,Wc] at h;split at h
   .rename_i h5;injection h with h;subst h;refine⟨Fw0 _ _,h5,?_,by omega⟩;rw[Q4,hm];simp
   .cases h
  .cases h
def Dq8 {n:List UInt8}:vld n=true↔nm n=some (lbl n):=by unfold vld lbl;cases nm n<;>simp
def vld_cases {n:List UInt8} (h:vld n=true):(n=[46]∧lbl n=[])∨(lbl n≠[]∧Lg true (lbl n)=true∧n=flat (lbl n)∧n.length<=254):=Dd8 (Dq8.1 h)
def Cl5 {n:List UInt8} (h:vld n=true):n=jn (lbl n):=by
 unfold jn;rcases vld_cases h with⟨h1,h2⟩|⟨h1,_,h2,_⟩
 .rw[h2,if_pos rfl];exact h1
 .rw[if_neg h1];exact h2
def ep {n:List UInt8} (h:vld n=true):n.length<=254:=by
 rcases vld_cases h with⟨h1,_⟩|⟨_,_,_,h⟩
 .simp[h1]
 .exact h
def pf:lbl [46]=[]:=rfl
def gp {a b:List UInt8} (ha:vld a=true) (hb:vld b=true) (h:lbl a=lbl b):a=b:=by rw[Cl5 ha,Cl5 hb,h]
def ord (s:List UInt8):Bool:=decide (1<=s.length) && decide (s.length<=63) && s.all Pz
def cj (s:List UInt8):If s=(decide (s=[42])||ord s):=rfl
def Ck5:ord [42]=false:=by decide
def gv (s:List UInt8) (N:Nat) (hN:s.length<N) (hs:s.length<=9223372036854775807):
  Cs9.ev S N [.s s]=some (if s.all Pz=true then .yld 0 [] else .ret [.b false]):=by
 refine E8 s (fun i=>[.i .i64 (i:Int)]) (fun i r=>if r.all Pz=true then .yld 0 [] else .ret [.b false]) rfl hN (fun i c r hd hi hc=> ?_) ?_
 .have key:Bh0.ev S N ([.s s]++[.i .i64 (i:Int)])=some (if Pz c=true then .yld 1 [.i .i64 ((i:Int)+1)] else .ret [.b false]):=by
   simp(disch:=omega)only[zk,hc,Aq,simprocAttr];unfold Pz
   grind
  rw[key];rcases B0 (Pz c) with h|h<;>simp[h,Out.goes]
 .simp(disch:=omega) [zk,xe,EVP,EV,simprocAttr,Out.goes]
def Jy (s:List UInt8) (hs:s.length<=9223372036854775807):S At9 1 [.s s]=some [.b (ord s)]:=by
 refine Gv4 (N:=s.length+1) rfl ?_;unfold ord;by_cases h1:s=[]
 .subst h1;simp(disch:=omega) [zk,Aq,simprocAttr]
 .have h2:1<=s.length:=C2.2 h1;by_cases h3:s.length<=63
  .simp(disch:=omega)only[zk,gv,h1,Aq,simprocAttr];cases s.all Pz<;>simp[h2,h3]
  .simp(disch:=omega)only[zk,h1,Aq,simprocAttr];simp[h3]
def okP (i:Nat) (p:List UInt8):Bool:=ord p||(decide (i=0) && decide (p=[42]))
def Cq4:Nat->List (List UInt8)->Bool
 |_,[]=>true
 |i,p::r=>okP i p && Cq4 (i+1) r
def Z1:∀(l:List (List UInt8)) (i:Nat),Cq4 i l=Lg (decide (i=0)) l
 |[],_=>rfl
 |p::r,i=>by
  have h1:=Z1 r (i+1);simp only[Cq4,Lg,h1,okP,cj];by_cases h2:p=[42]
  .subst h2;by_cases h3:i=0<;>simp[Ck5,h3]
  .simp[h2]
def Bl0 (p q:PV) (l:List (List UInt8)) (hl:l.length<=1000000) (hw:∀x∈l,x.length<=9223372036854775807) (N:Nat) (hN:l.length<N):
  Ct7.ev S N [p,q,Dv l]=some (if Cq4 0 l=true then .yld 0 [] else .ret [.b false]):=by
 refine E8 l (fun i=>[.i .i64 (i:Int)]) (fun i r=>if Cq4 i r=true then .yld 0 [] else .ret [.b false]) rfl hN (fun i c r hd hi hc=> ?_) ?_
 .have hcw:=hw c (Cy hc);have key:Bh2.ev S N ([p,q,Dv l]++[.i .i64 (i:Int)])=some (if okP i c=true then .yld 1 [.i .i64 ((i:Int)+1)] else .ret [.b false]):=by
   rcases B0 (ord c) with h1|h1
   .simp(disch:=omega)only[Wk,Jy,hc,h1,Aq,simprocAttr];simp[okP,h1]
   .by_cases h2:i=0
    .subst h2;by_cases h3:c=[42]
     .subst h3;simp(disch:=omega)only[Wk,Jy,hc,h1,Aq,simprocAttr];simp[okP]
     .simp(disch:=omega)only[Wk,Jy,hc,h1,h3,Aq,simprocAttr];simp[okP,h1,h3]
    .simp(disch:=omega)only[Wk,Jy,hc,h1,Aq,simprocAttr];simp[okP,h1,h2]
  rw[key];rcases B0 (okP i c) with h|h<;>simp[h,Cq4,Out.goes]
 .simp(disch:=omega)only[Wk,Aq,simprocAttr];simp[Out.goes,Cq4]
def Wt:∀(m cur:List UInt8) (x:List UInt8),x∈pcs cur m->x.length<=cur.length+m.length
 |[],cur,x,h=>by simp[pcs] at h;subst h;simp
 |c::r,cur,x,h=>by
  simp only[pcs] at h;split at h
  .rcases Cg.1 h with rfl|h
   .omega
   .have:=Wt r [] x h;simp at this ⊢;omega
  .have:=Wt r _ x h;simp at this ⊢;omega
def Cc8 (m x:List UInt8) (h:x∈cut m):x.length<=m.length:=by simpa using Wt m [] x h
def Fh0 (m:List UInt8):(cut m).length<=m.length+1:=by have:=Bc7 m;have:m.count 46<=m.length:=List.count_le_length;omega
def Ab9 (n:List UInt8):([46]:List UInt8).isSuffixOf n=true↔∃m,n=m++[46]:=by rw[K7];exact⟨fun⟨m,h⟩=>⟨m,h.symm⟩,fun⟨m,h⟩=>⟨m,h.symm⟩⟩
def Bp1 (m:List UInt8) (hm:m≠[]) (hl:m.length<=253):vld (m++[46])=Cq4 0 (cut m):=by have h1:m++[46]≠[46]:=fun e=>hm (Or (bs:=[46]) (by simpa using e));have h2:0<m.length:=C2.2 hm;unfold vld nm;rw[if_neg h1,if_pos ⟨by simp;omega,by simp;omega,by simp⟩,Wc,Z1];have e:pcs [] m=cut m:=rfl;have e2:Lg (decide ((0:Nat)=0)) (cut m)=Lg true (cut m):=rfl;rw[e,e2];cases Lg true (cut m)<;>rfl
def Cx5 (m:List UInt8) (h:vld (m++[46])=true) (hm:m≠[]):lbl (m++[46])=cut m:=by
 rcases vld_cases h with⟨h1,_⟩|⟨h1,h2,h3,_⟩
 .exact absurd (Or (bs:=[46]) (by simpa using h1)) hm
 .exact(Cc7 h1 (fun p hp=>Sr (Lf h2 hp)) h3.symm).symm
def C7 (n:List UInt8) (hn:n.length<=9223372036854775807):S Jg 1 [.s n]=some [.b (vld n)]:=by
 refine Gx3 (N:=300) rfl ?_;by_cases h0:n=[46]
 .subst h0;simp(disch:=omega)only[Wk,Aq,simprocAttr];rfl
 .by_cases h1:255<=n.length
  .have hv:vld n=false:=by rw[Bool.eq_false_iff];intro h;have:=ep h;omega
   simp(disch:=omega)only[Wk,h0,hv,Aq,simprocAttr]
  .rcases B0 (([46]:List UInt8).isSuffixOf n) with h2|h2
   .obtain⟨m,rfl⟩:=(Ab9 n).1 h2;have hm:m≠[]:=fun e=>h0 (by simp[e]);have hl:(m++[46]).length=m.length+1:=by simp
    have hml:m.length<=1000000:=by omega
    have e:List.drop 0 (List.take (((m++[46]).length:Int) - 1).toNat (m++[46]))=m:=by
     have:(((m++[46]).length:Int) - 1).toNat=m.length:=by omega
     rw[this];simp
    have hc:=Fh0 m;have hv:=Bp1 m hm (by omega);have hk:=Bl0 (.s (m++[46])) (.b true) (cut m) (by omega) (fun x hx=>by have:=Cc8 m x hx;omega) 300 (by omega);simp(disch:=omega)only[Wk,L5,dl,e,hk,h0,h2,Aq,simprocAttr];rw[hv];cases Cq4 0 (cut m)<;>simp
   .have hv:vld n=false:=by
     rw[Bool.eq_false_iff];intro h;rcases vld_cases h with⟨h3,_⟩|⟨h3,_,h5,_⟩
     .exact h0 h3
     .obtain⟨m,hm⟩:=Oq _ h3;have:=(Ab9 n).2 ⟨m,h5.trans hm⟩;rw[h2] at this;cases this
    simp(disch:=omega)only[Wk,L5,h0,h2,hv,Aq,simprocAttr]
def J9 (n:List UInt8) (hn:n.length<=9223372036854775807):S T6 1 [.s n]=some [Dv (lbl n)]:=by
 refine Gw4 (N:=1) rfl ?_;by_cases h0:n=[46]
 .subst h0;simp(disch:=omega)only[Dq1,pf,Aq,simprocAttr]
 .rcases B0 (vld n) with h1|h1
  .obtain⟨m,hm,rfl⟩:∃m,m≠[]∧n=m++[46]:=by
    rcases vld_cases h1 with⟨h3,_⟩|⟨h3,_,h5,_⟩
    .exact absurd h3 h0
    .obtain⟨m,hm⟩:=Oq _ h3;exact⟨m,fun e=>h0 (by rw[h5,hm,e];rfl),h5.trans hm⟩
   have hl:(m++[46]).length=m.length+1:=by simp
   have e:List.drop 0 (List.take (((m++[46]).length:Int) - 1).toNat (m++[46]))=m:=by
    have:(((m++[46]).length:Int) - 1).toNat=m.length:=by omega
    rw[this];simp
   have hl2:=ep h1;have e2:=Cx5 m h1 hm;simp(disch:=omega)only[Dq1,C7,dl,e,e2,h0,h1,Aq,simprocAttr]
  .have e:lbl n=[]:=by
    unfold lbl;unfold vld at h1;cases h:nm n with
    |none=>rfl
    |some l=>rw[h] at h1;cases h1
   simp(disch:=omega)only[Dq1,C7,h0,h1,e,Aq,simprocAttr]
def Bb2 (n top:List UInt8):Bool:=(decide (top=[46])||decide (n=top))||(46::top).isSuffixOf n
def Dp3 (n top:List UInt8) (hn:n.length<=9223372036854775807) (ht:top.length<=1000000):S wz 2 [.s n,.s top]=some [.b (Bb2 n top)]:=by
 refine Gx2 (N:=1) rfl ?_;unfold Bb2;have h0:([46]:List UInt8).length=1:=rfl;by_cases h1:top=[46]<;>by_cases h2:n=top<;>simp(disch:=omega)only[Fr1,L5,h1,h2,Aq,simprocAttr]
 all_goals simp
def i4 {a b:List (List UInt8)} (ha:Lg true a=true) (hb:Lg true b=true) (h:(46::flat b)<:+flat a):b<:+a:=by obtain⟨p,hp⟩:=h;have h1:=Q6 a (fun x hx=>Sr (Lf ha hx));have h2:=Q6 b (fun x hx=>Sr (Lf hb hx));rw[<-hp] at h1;have h3:cut (p++46::flat b)=cut p++cut (flat b):=R9 (flat b) p [];rw[h3,h2,<-Ck] at h1;exact⟨cut p,Or h1⟩
def Cb6 {n top:List UInt8} (hn:vld n=true) (ht:vld top=true):Bb2 n top=true↔lbl top<:+lbl n:=by
 unfold Bb2;simp only[Cq,decide_eq_true_eq,K7];constructor
 .rintro ((rfl|rfl)|h)
  .rw[pf];exact List.nil_suffix
  .exact List.suffix_refl _
  .rcases vld_cases ht with⟨h1,h2⟩|⟨h1,h2,h3,_⟩
   .rw[h2];exact List.nil_suffix
   .rcases vld_cases hn with⟨h5,_⟩|⟨h5,h6,h7,_⟩
    .rw[h5] at h;have h9:=h.length_le;have h8:=cn h2 h1;rw[<-h3] at h8;simp only[Cz,Cm] at h9;omega
    .rw[h3,h7] at h;exact i4 h6 h2 h
 .intro h;obtain⟨p,hp⟩:=h;rcases vld_cases ht with⟨h1,h2⟩|⟨h1,h2,h3,_⟩
  .exact .inl (.inl h1)
  .by_cases hp0:p=[]
   .left;right;subst hp0;exact gp hn ht hp.symm
   .right;rcases vld_cases hn with⟨_,h5⟩|⟨h5,h6,h7,_⟩
    .rw[h5] at hp;exact absurd (List.append_eq_nil_iff.1 hp).1 hp0
    .obtain⟨m,hm⟩:=Oq p hp0;rw[h7,<-hp,Cb0,hm];exact⟨m,by rw[Ck,<-h3];simp⟩
def Ty {α:Type} [DecidableEq α]:∀(a b:List α),Q7 a b=b.length↔b<+:a
 |[],[]=>by simp[Q7]
 |[],y::ys=>by simp[Q7]
 |x::xs,[]=>by simp[Q7]
 |x::xs,y::ys=>by
  have:=Ty xs ys;simp only[Q7];split
  .rename_i h;subst h;simp[this,List.cons_prefix_cons]
  .rename_i h;simp[List.cons_prefix_cons,Ne.symm h]
def Zf (a b:List (List UInt8)):J2 a b=b.length↔b<:+a:=by unfold J2;have:=Ty a.reverse b.reverse;rw[List.length_reverse] at this;rw[this,List.reverse_prefix]
def Aj4 {n top:List UInt8}:under n top=true↔vld n=true∧vld top=true∧lbl top<:+lbl n:=by unfold under;simp[Zf,and_assoc]
def td {n top:List UInt8} (hn:vld n=true) (ht:vld top=true):Bb2 n top=under n top:=by rw[Gw,Cb6 hn ht,Aj4];simp[hn,ht]
def Bl3 (n top:List UInt8) (hn:n.length<=9223372036854775807) (ht:top.length<=9223372036854775807):S M3 2 [.s n,.s top]=some [.b (under n top)]:=by
 refine Gx9 (N:=1) rfl ?_;rcases B0 (vld n) with h1|h1
 .rcases B0 (vld top) with h2|h2
  .have h3:=ep h2;simp(disch:=omega)only[Dq5,C7,Dp3,h1,h2,Aq,simprocAttr];rw[td h1 h2]
  .have h3:under n top=false:=by simp[under,h2]
   simp(disch:=omega)only[Dq5,C7,h1,h2,h3,Aq,simprocAttr]
 .have h3:under n top=false:=by simp[under,h1]
  simp(disch:=omega)only[Dq5,C7,h1,h3,Aq,simprocAttr]
def Qw:∀(a:List UInt8),Op.bytesLess a a=false
 |[]=>rfl
 |a::x=>by simp[Op.bytesLess,Qw x]
def Ls:∀(a b:List UInt8),Lib.compareBytes a b=cmpS a b
 |[],[]=>rfl
 |[],_::_=>rfl
 |_::_,[]=>rfl
 |a::x,b::y=>by
  have ih:=Ls x y;unfold cmpS at ih ⊢;simp only[Lib.compareBytes,Op.bytesLess,ih];by_cases h1:a<b
  .simp[h1]
  .by_cases h2:b<a
   .have h3:a≠b:=fun e=>by subst e;exact h1 h2
    simp[h1,h2,h3]
   .have h3:a=b:=UInt8.le_antisymm (UInt8.not_lt.1 h2) (UInt8.not_lt.1 h1);subst h3;simp[h1]
def J8 {a b:List UInt8}:cmpS a b=0↔a=b:=by
 unfold cmpS;by_cases h:a=b
 .subst h;simp[Qw]
 .cases h2:Op.bytesLess a b<;>simp[h]
def Kl (x y:List UInt8):S Sy 2 [.s x,.s y]=some [.i .i64 (cmpS x y)]:=by rw[kf,Ls]
def Tr:List (List UInt8)->List (List UInt8)->Option Int
 |x::xs,y::ys=>if x=y then Tr xs ys else some (cmpS x y)
 |_,_=>none
def Bd1:∀(a b:List (List UInt8)),Tr a b=if Q7 a b<a.length∧Q7 a b<b.length then some (cmpS (a.getD (Q7 a b) []) (b.getD (Q7 a b) [])) else none
 |[],b=>by simp[Tr,Q7]
 |x::xs,[]=>by simp[Tr,Q7]
 |x::xs,y::ys=>by
  have ih:=Bd1 xs ys;simp only[Tr,Q7];by_cases h:x=y
  .simp only[if_pos h,ih];simp
  .simp[h]
def yx (a b:List (List UInt8)):Int:=match Tr a.reverse b.reverse with
 |some c=>c
 |none=>if a.length<b.length then -1 else if b.length<a.length then 1 else 0
def qj (a:List (List UInt8)) (k:Nat) (h:k<a.length):a.reverse.getD k []=a.getD (a.length - 1 - k) []:=by simp[Ct,List.getElem?_reverse h]
def Xs {a b:List UInt8} (ha:vld a=true) (hb:vld b=true):Qv a b=yx (lbl a) (lbl b):=by
 unfold Qv yx;rw[Bd1];have e:Q7 (lbl a).reverse (lbl b).reverse=J2 (lbl a) (lbl b):=rfl;rw[e,ha,hb];simp only[List.length_reverse,Bool.and_self,if_true];by_cases h:J2 (lbl a) (lbl b)<(lbl a).length∧J2 (lbl a) (lbl b)<(lbl b).length
 .rw[if_pos h,if_pos h,qj _ _ h.1,qj _ _ h.2]
 .rw[if_neg h,if_neg h]
def kr (a b:List (List UInt8)) (p1 p2 p3 p4:PV) (ha:a.length<=1000) (hb:b.length<=1000) (N:Nat) (hN:1001<N):
  ik.ev S N [p1,p2,p3,p4,Dv a,Dv b]=some (match Tr a.reverse b.reverse with|some c=> .ret [.i .i64 c]|none=> .yld 0 []):=by
 have key:=H2 (fn:=S) (N:=N) (J:=[p1,p2,p3,p4,Dv a,Dv b]) (id:=1) (init:=[(.c (.i .i64 (1)))]) (body:=kj) (α:=Nat) (fun k=>[.i .i64 ((k:Int)+1)])
  (fun k=>match Tr (a.reverse.drop k) (b.reverse.drop k) with|some c=> .ret [.i .i64 c]|none=> .yld 0 []) (fun k=>k<=a.length∧k<=b.length) (fun k=>a.length - k) 0 rfl ⟨D9 _,D9 _⟩ (by omega) ?_
 .simpa [ik] using key
 .rintro k ⟨h1,h2⟩;by_cases h3:k<a.length
  .by_cases h4:k<b.length
   .have e1:((a.length:Int) - ((k:Int)+1)).toNat=a.length - 1 - k:=by omega
    have e2:((b.length:Int) - ((k:Int)+1)).toNat=b.length - 1 - k:=by omega
    have g1:a[a.length - 1 - k]? =some (a[a.length - 1 - k]'(by omega)):=B4 (by omega);have g2:b[b.length - 1 - k]? =some (b[b.length - 1 - k]'(by omega)):=B4 (by omega);have d1:a.reverse.drop k=(a[a.length - 1 - k]'(by omega))::a.reverse.drop (k+1):=by rw[Eg (by simpa using h3)];simp
    have d2:b.reverse.drop k=(b[b.length - 1 - k]'(by omega))::b.reverse.drop (k+1):=by rw[Eg (by simpa using h4)];simp
    rw[d1,d2];generalize (a[a.length - 1 - k]'(by omega))=x at g1;generalize (b[b.length - 1 - k]'(by omega))=y at g2;simp only[Tr];by_cases h:x=y
    .left;have h5:cmpS x y=0:=J8.2 h;refine⟨k+1,?_,⟨by omega,by omega⟩,by omega,by rw[if_pos h]⟩;simp(disch:=omega)only[Rq,Kl,e1,e2,g1,g2,h5,Aq,simprocAttr]
    .right;have h5:¬cmpS x y=0:=fun e=>h (J8.1 e);rw[if_neg h];simp(disch:=omega)only[Rq,Kl,e1,e2,g1,g2,h5,Aq,simprocAttr];simp[Out.goes]
   .right;have d2:b.reverse.drop k=[]:=Ht (by simp;omega);have z:Tr (a.reverse.drop k) []=none:=by cases a.reverse.drop k<;>rfl
    rw[d2,z];simp(disch:=omega) [Rq,xe,EVP,EV,simprocAttr,Out.goes]
  .right;have d1:a.reverse.drop k=[]:=Ht (by simp;omega);have z:Tr [] (b.reverse.drop k)=none:=rfl;rw[d1,z];simp(disch:=omega) [Rq,xe,EVP,EV,simprocAttr,Out.goes]
def km (a b:List UInt8) (hn:a.length<=9223372036854775807) (ht:b.length<=9223372036854775807):S U8 2 [.s a,.s b]=some [.i .i64 (Qv a b)]:=by
 refine Er7 (N:=1002) rfl ?_;have h1:=G8 a;have h2:=G8 b;rcases B0 (vld a) with h3|h3<;>rcases B0 (vld b) with h4|h4
 .rw[Xs h3 h4];unfold yx;have hk:=kr (lbl a) (lbl b) (.s a) (.s b) (.b true) (.b true) (by omega) (by omega) 1002 (by omega);cases h5:Tr (lbl a).reverse (lbl b).reverse with
  |some c=>
   rw[h5] at hk;simp(disch:=omega)only[Rq,C7,J9,hk,h3,h4,Aq,simprocAttr]
  |none=>
   rw[h5] at hk;simp(disch:=omega)only[Rq,C7,J9,hk,h3,h4,Aq,simprocAttr]
   grind
 all_goals unfold Qv
 all_goals simp(disch:=omega)only[Rq,C7,Kl,h3,h4,Aq,simprocAttr]
 all_goals simp
def Df1 (l:List (List UInt8)) (hl:l.length<=1000) (hw:∀x∈l,x.length<=1000) (N:Nat) (hN:l.length<N):
  iw.ev S N [Dv l]=some (.yld 0 [.s (flat l)]):=by
 have key:iw.ev S N [Dv l]=some (.yld 0 [.s ([]++flat l)]):=by
  refine G5 l (fun i (g:List UInt8)=>[.s g,.i .i64 (i:Int)]) (fun i g r=> .yld 0 [.s (g++flat r)]) (fun i g=>g.length<=1001*i) [] rfl (B7 _) hN (fun i g c r hd hi hc hI=> ?_) (fun g hI=> ?_)
  .left;have h1:=hw c (Cy hc);have h0:([46]:List UInt8).length=1:=rfl;refine⟨g++c++[46],?_,by simp;omega,by simp[flat]⟩;simp(disch:=first|omega|(simp only[Br];omega))only[lp,hc,Aq,simprocAttr]
  .simp(disch:=omega)only[lp,Aq,simprocAttr];simp[flat,Out.goes]
 simpa using key
def Df0 (l:List (List UInt8)) (hl:l.length<=1000) (hw:∀x∈l,x.length<=1000):S o0 1 [Dv l]=some [.s (jn l)]:=by
 refine Fk5 (N:=l.length+1) rfl ?_;unfold jn;by_cases h:l=[]
 .subst h;simp(disch:=first|omega|(simp;omega))only[lp,Aq,simprocAttr]
 .have h1:0<l.length:=C2.2 h;have hk:=Df1 l hl hw (l.length+1) (by omega);simp(disch:=omega)only[lp,hk,h,Aq,simprocAttr]
structure TO {α:Type} (lt:α->α->Prop):Prop where
 irr:∀a,¬lt a a
 tr:∀a b c,lt a b->lt b c->lt a c
 tri:∀a b,lt a b∨a=b∨lt b a
def TO.asym {α:Type} {lt:α->α->Prop} (h:TO lt) {a b:α} (h1:lt a b):¬lt b a:=fun h2=>h.irr a (h.tr _ _ _ h1 h2)
def TO.ntr {α:Type} {lt:α->α->Prop} (h:TO lt) {a b c:α} (h1:¬lt a b) (h2:¬lt b c):¬lt a c:=by
 intro h3;rcases h.tri b a with h4|h4|h4
 .exact h2 (h.tr _ _ _ h4 h3)
 .subst h4;exact h2 h3
 .exact h1 h4
def lex {α:Type} (lt:α->α->Prop):List α->List α->Prop
 |[],[]=>False
 |[],_::_=>True
 |_::_,[]=>False
 |a::x,b::y=>lt a b∨(a=b∧lex lt x y)
def Bq1 {α:Type} {lt:α->α->Prop} (h:TO lt):∀x:List α,¬lex lt x x
 |[]=>by simp[lex]
 |a::x=>by simp only[lex,true_and,not_or];exact⟨h.irr a,Bq1 h x⟩
def Cs5 {α:Type} {lt:α->α->Prop} (h:TO lt):∀x y z:List α,lex lt x y->lex lt y z->lex lt x z
 |[],[],_,h1,_=>by simp[lex] at h1
 |[],_::_,[],_,h2=>by simp[lex] at h2
 |[],_::_,_::_,_,_=>by simp[lex]
 |_::_,[],_,h1,_=>by simp[lex] at h1
 |_::_,_::_,[],_,h2=>by simp[lex] at h2
 |a::x,b::y,c::z,h1,h2=>by
  simp only[lex] at h1 h2 ⊢;rcases h1 with h1|⟨rfl,h1⟩
  .rcases h2 with h2|⟨rfl,h2⟩
   .exact .inl (h.tr _ _ _ h1 h2)
   .exact .inl h1
  .rcases h2 with h2|⟨rfl,h2⟩
   .exact .inl h2
   .exact .inr ⟨rfl,Cs5 h x y z h1 h2⟩
def lex_tri {α:Type} {lt:α->α->Prop} (h:TO lt):∀x y:List α,lex lt x y∨x=y∨lex lt y x
 |[],[]=> .inr (.inl rfl)
 |[],_::_=> .inl (by simp[lex])
 |_::_,[]=> .inr (.inr (by simp[lex]))
 |a::x,b::y=>by
  simp only[lex];rcases h.tri a b with h1|rfl|h1
  .exact .inl (.inl h1)
  .rcases lex_tri h x y with h2|rfl|h2
   .exact .inl (.inr ⟨rfl,h2⟩)
   .exact .inr (.inl rfl)
   .exact .inr (.inr (.inr ⟨rfl,h2⟩))
  .exact .inr (.inr (.inl h1))
def TO.lex {α:Type} {lt:α->α->Prop} (h:TO lt):TO (G.lex lt):=⟨Bq1 h,Cs5 h,lex_tri h⟩
def Fs8:TO (fun a b:UInt8=>a<b):=⟨fun a=>UInt8.lt_irrefl a,fun a b c h1 h2=>UInt8.lt_trans h1 h2,fun a b=>by
 rcases UInt8.lt_or_le a b with h|h
 .exact .inl h
 .rcases UInt8.lt_or_le b a with h2|h2
  .exact .inr (.inr h2)
  .exact .inr (.inl (UInt8.le_antisymm h2 h))⟩
abbrev ltB:List UInt8->List UInt8->Prop:=lex fun a b:UInt8=>a<b
def Cl6:TO ltB:=Fs8.lex
def dy:∀a b:List UInt8,Op.bytesLess a b=true↔ltB a b
 |[],[]=>by simp[Op.bytesLess,lex]
 |[],_::_=>by simp[Op.bytesLess,lex]
 |_::_,[]=>by simp[Op.bytesLess,lex]
 |a::x,b::y=>by have ih:=dy x y;simp only[Op.bytesLess,Cq,decide_eq_true_eq,Bt,beq_iff_eq,lex];rw[ih]
def Xr (a b:List UInt8):cmpS a b<0↔ltB a b:=by
 rw[<-dy];unfold cmpS;cases h:Op.bytesLess a b
 .simp only[B5,if_false,iff_false];split<;>omega
 .simp
abbrev ltL:List (List UInt8)->List (List UInt8)->Prop:=lex ltB
def to_L:TO ltL:=Cl6.lex
def yy (a b:List (List UInt8)):Int:=match Tr a b with
 |some c=>c
 |none=>if a.length<b.length then -1 else if b.length<a.length then 1 else 0
def qn:∀a b:List (List UInt8),yy a b<0↔ltL a b
 |[],[]=>by simp[yy,Tr,lex]
 |[],_::_=>by simp[yy,Tr,lex]
 |_::_,[]=>by simp[yy,Tr,lex]
 |x::xs,y::ys=>by
  have ih:=qn xs ys;simp only[yy,Tr,lex] at ih ⊢;by_cases h:x=y
  .subst h;rw[if_pos rfl];simp only[Cz,Nat.add_lt_add_iff_right,true_and];rw[ih];constructor
   .exact fun h=> .inr h
   .rintro (h|h)
    .exact absurd h (Cl6.irr x)
    .exact h
  .rw[if_neg h];simp only;rw[Xr];simp[h]
def jy (a b:List (List UInt8)):yx a b=yy a.reverse b.reverse:=by unfold yx yy;cases Tr a.reverse b.reverse<;>simp
def Bd0 (a b:List (List UInt8)):yx a b<0↔ltL a.reverse b.reverse:=by rw[<-qn,jy]
def ltN (a b:List UInt8):Prop:=if vld a=true then(if vld b=true then ltL (lbl a).reverse (lbl b).reverse else True) else(if vld b=true then False else ltB a b)
def ql (a b:List UInt8):Qv a b<0↔ltN a b:=by
 unfold ltN;rcases B0 (vld a) with ha|ha
 .rcases B0 (vld b) with hb|hb
  .rw[Xs ha hb,Bd0,if_pos ha,if_pos hb]
  .unfold Qv;simp[ha,hb]
 .rcases B0 (vld b) with hb|hb
  .unfold Qv;simp[ha,hb]
  .have e:Qv a b=cmpS a b:=by unfold Qv;simp[ha,hb]
   rw[e,Xr];simp[ha,hb]
def Fm6:TO ltN:=by
 refine⟨fun a h=> ?_,fun a b c h1 h2=> ?_,fun a b=> ?_⟩
 .unfold ltN at h;split at h
  .exact to_L.irr _ h
  .exact Cl6.irr _ h
 .unfold ltN at*;rcases B0 (vld a) with ha|ha<;>rcases B0 (vld b) with hb|hb<;>rcases B0 (vld c) with hc|hc<;>
   simp only[ha,hb,hc,if_true,B5,if_false] at h1 h2 ⊢
  .exact to_L.tr _ _ _ h1 h2
  .exact Cl6.tr _ _ _ h1 h2
 .unfold ltN;rcases B0 (vld a) with ha|ha<;>rcases B0 (vld b) with hb|hb<;>simp only[ha,hb,if_true,B5,if_false]
  .rcases to_L.tri (lbl a).reverse (lbl b).reverse with h|h|h
   .exact .inl h
   .exact .inr (.inl (gp ha hb (List.reverse_inj.1 h)))
   .exact .inr (.inr h)
  .simp
  .simp
  .exact Cl6.tri a b
def Oc {a b:List UInt8}:Qv a b=0↔a=b:=by
 constructor
 .intro h;rcases B0 (vld a) with ha|ha
  .rcases B0 (vld b) with hb|hb
   .rw[Xs ha hb] at h;have key:∀x y:List (List UInt8),yy x y=0->x=y:=by
     intro x
     induction x with
     |nil=>intro y hy;cases y with
      |nil=>rfl
      |cons=>simp[yy,Tr] at hy
     |cons x xs ih=>intro y hy;cases y with
      |nil=>simp[yy,Tr] at hy
      |cons y ys=>
       simp only[yy,Tr] at hy ih;by_cases e:x=y
       .subst e;rw[if_pos rfl] at hy;simp only[Cz,Nat.add_lt_add_iff_right] at hy;rw[ih ys hy]
       .rw[if_neg e] at hy;exact absurd (J8.1 hy) e
    rw[jy] at h;exact gp ha hb (List.reverse_inj.1 (key _ _ h))
   .unfold Qv at h;simp[ha,hb] at h
  .rcases B0 (vld b) with hb|hb
   .unfold Qv at h;simp[ha,hb] at h
   .have e:Qv a b=cmpS a b:=by unfold Qv;simp[ha,hb]
    rw[e] at h;exact J8.1 h
 .rintro rfl;have h1:=ql a a;have h2:¬Qv a a<0:=fun h=>Fm6.irr a (h1.1 h);have key:∀x:List (List UInt8),yy x x=0:=by
   intro x
   induction x with
   |nil=>rfl
   |cons x xs ih=>
    simp only[yy,Tr] at ih ⊢;simp only[if_true,Cz,Nat.add_lt_add_iff_right];exact ih
  rcases B0 (vld a) with ha|ha
  .rw[Xs ha ha];rw[jy];exact key _
  .have e:Qv a a=cmpS a a:=by unfold Qv;simp[ha]
   rw[e];exact J8.2 rfl
def d8 {α:Type} (e:α->α->Bool):α->List α->List α
 |_,[]=>[]
 |p,c::r=>if e c p=true then d8 e c r else c::d8 e c r
def cpt {α:Type} (e:α->α->Bool):List α->List α
 |[]=>[]
 |x::r=>x::d8 e x r
def dw {α:Type} (e:α->α->Bool) (c:α):∀(r:List α) (p:α),d8 e p (r++[c])=d8 e p r++(if e c ((p::r).getLast (by simp))=true then [] else [c])
 |[],p=>by simp only[Em,d8,List.getLast_singleton];rfl
 |x::r,p=>by
  have ih:=dw e c r x;simp only[Dq,d8,List.getLast_cons_cons];split
  .exact ih
  .rw[ih];rfl
def Xp {α:Type} (e:α->α->Bool) (c:α) (l:List α) (h:l≠[]):cpt e (l++[c])=cpt e l++(if e c (l.getLast h)=true then [] else [c]):=by
 cases l with
 |nil=>exact absurd rfl h
 |cons x r=>
  show x::d8 e x (r++[c])=_;rw[dw];rfl
def qd {α:Type} (e:α->α->Bool):∀(r:List α) (p:α),(d8 e p r).length<=r.length
 |[],_=>by simp[d8]
 |c::r,p=>by have:=qd e r c;simp only[d8];split<;>simp<;>omega
def Dr9 {α:Type} (e:α->α->Bool) (l:List α):(cpt e l).length<=l.length:=by
 cases l with
 |nil=>simp[cpt]
 |cons x r=>have:=qd e r x;simp[cpt];exact this
abbrev eqs {α:Type} [DecidableEq α]:α->α->Bool:=fun a b=>decide (a=b)
def setN (l:List (List UInt8)):List (List UInt8):=cpt eqs (l.mergeSort fun x y=> !decide (Qv y x<0))
def Zh {step:List PV->Option Out} {id:Nat} {α:Type} (st:α->List PV) (Q:Out->Prop) (I:α->Prop) (μ:α->Nat)
  (h:∀a,I a->(∃b,step (st a)=some (.yld id (st b))∧I b∧μ b<μ a)∨∃o,step (st a)=some o∧o.goes id=false∧Q o):
  ∀(n:Nat) (a:α),I a->μ a<n->∃o,Hq step id n (st a)=some o∧Q o
 |0,a,_,hn=>by omega
 |n+1,a,ha,hn=>by
  simp only[Hq];rcases h a ha with⟨b,h1,h2,h3⟩|⟨o,h1,h2,h3⟩
  .rw[h1];simp only[Bs,if_true];exact Zh st Q I μ h n b h2 (by omega)
  .rw[h1];refine⟨o,?_,h3⟩;simp only[Bs];cases o with
   |ret vs=>rfl
   |yld j vs=>
    simp only[Out.goes,beq_eq_false_iff_ne,ne_eq] at h2;simp only[];rw[if_neg h2]
def Ir {fn:Fns} {N:Nat} {J:List PV} {id:Nat} {init:List E} {body:T} {α:Type} (st:α->List PV) (Q:Out->Prop) (I:α->Prop) (μ:α->Nat) (a0:α)
  (h0:E.evs J init=some (st a0)) (hI:I a0) (hN:μ a0<N)
  (h:∀a,I a->(∃b,body.ev fn N (J++st a)=some (.yld id (st b))∧I b∧μ b<μ a)∨∃o,body.ev fn N (J++st a)=some o∧o.goes id=false∧Q o):
  ∃o,(T.loop id init body).ev fn N J=some o∧Q o:=by
 simp only[T.ev,h0,Bs];exact Zh st Q I μ h N a0 hI hN
abbrev zr:Rec:=⟨[],0,0,⟨false,0,0,[],[],[],0,0,0,0,0,0,0⟩⟩
abbrev y9:PV:=Rec.pv ⟨[],0,0,⟨false,0,0,[],[],[],0,0,0,0,0,0,0⟩⟩
def Bt0 (n:Int) (h0:0<=n) (h1:n<=1073741824):Lx 16 (.i .i64 n) y9=some (B9 (List.replicate n.toNat zr)):=by
 have h2:n<=(LIM:Int):=by simp only[LIM];omega
 have h3:y9.cells.length=16:=rfl;simp only[Lx,h0,h2,h3,and_self,if_true];simp[B9,Rec.pv,Rec.cells,Dat.cells]
def Fn2 (t:Int):List UInt8:=
 if t=1 then [65] else if t=2 then [78,83] else if t=5 then [67,78,65,77,69] else if t=6 then [83,79,65] else if t=12 then [80,84,82]
 else if t=15 then [77,88] else if t=16 then [84,88,84] else if t=28 then [65,65,65,65] else if t=33 then [83,82,86] else if t=39 then [68,78,65,77,69]
 else if t=43 then [68,83] else if t=46 then [82,82,83,73,71] else if t=47 then [78,83,69,67] else if t=48 then [68,78,83,75,69,89] else []
def t15 (t:Int):t=1∨t=2∨t=5∨t=6∨t=12∨t=15∨t=16∨t=28∨t=33∨t=39∨t=43∨t=46∨t=47∨t=48∨(t≠1∧t≠2∧t≠5∧t≠6∧t≠12∧t≠15∧t≠16∧t≠28∧t≠33∧t≠39∧t≠43∧t≠46∧t≠47∧t≠48):=by omega
def kd (t:Int):S nv 1 [.i .i64 t]=some [.s (Fn2 t)]:=by
 refine Ep0 (N:=1) rfl ?_;rcases t15 t with rfl|rfl|rfl|rfl|rfl|rfl|rfl|rfl|rfl|rfl|rfl|rfl|rfl|rfl|⟨h0,h1,h2,h3,h4,h5,h6,h7,h8,h9,h10,h11,h12,h13⟩
 all_goals simp(disch:=omega)only[Ex9,Aq,simprocAttr]
 all_goals first|rfl|(unfold Fn2;simp only[if_neg, *];rfl)
def knw (t:Int):Bool:=decide (t=1)||decide (t=2)||decide (t=5)||decide (t=6)||decide (t=12)||decide (t=15)||decide (t=16)||decide (t=28)||decide (t=33)||decide (t=39)||decide (t=43)||decide (t=46)||decide (t=47)||decide (t=48)
def Cx7 (t:Int):decide (Fn2 t≠[])=knw t:=by
 unfold Fn2 knw;rcases t15 t with rfl|rfl|rfl|rfl|rfl|rfl|rfl|rfl|rfl|rfl|rfl|rfl|rfl|rfl|⟨h0,h1,h2,h3,h4,h5,h6,h7,h8,h9,h10,h11,h12,h13⟩
 all_goals simp[*]
def Dy (t:Int):S P3 1 [.i .i64 t]=some [.b (knw t)]:=by refine Et1 (N:=1) rfl ?_;simp(disch:=omega)only[Ez0,kd,Cx7,Aq,simprocAttr]
def Ef (d:Dat):Bool:=d.v6||(decide (d.hi=0) && decide (d.lo<4294967296))
def df (d:Dat):S ay 1 [Jf d]=some [.b (Ef d)]:=by refine Es9 (N:=1) rfl ?_;unfold Ef;cases h:d.v6<;>by_cases h2:d.hi=0<;>simp(disch:=omega) [Ey8,h,h2,Aq,simprocAttr]
def inB (n most:Int):Bool:=decide (0<=n) && decide (n<=most)
def wt (n m:Int):S Hh 2 [.i .i64 n,.i .i64 m]=some [.b (inB n m)]:=by refine Es6 (N:=1) rfl ?_;simp(disch:=omega)only[Ey6,inB,Aq,simprocAttr]
def Bl2 (n:Int):S ox 1 [.i .i64 n]=some [.b (inB n 4294967295)]:=by refine Es7 (N:=1) rfl ?_;simp(disch:=omega)only[Ey7,inB,Aq,simprocAttr];congr 5;simp;omega
def G4 (s:List UInt8):Bool:=decide (1<=s.length) && decide (s.length<=255)
def Wz (s:List UInt8):S U9 1 [.s s]=some [.b (G4 s)]:=by refine Es5 (N:=1) rfl ?_;simp(disch:=omega)only[Ey5,G4,Aq,simprocAttr];congr 5<;>simp<;>omega
def Aj1 {n:List UInt8} (h:vld n=true):0<n.length:=by
 unfold vld nm at h;split at h
 .rename_i e;simp[e]
 .split at h
  .omega
  .cases h
def Gl (n:List UInt8):Bool:=vld n && decide (n[0]? ≠some 42)
def Iy (n:List UInt8) (hn:n.length<=9223372036854775807):S N0 1 [.s n]=some [.b (Gl n)]:=by
 refine Es8 (N:=1) rfl ?_;unfold Gl;cases h:vld n
 .simp(disch:=omega)only[Ch6,L2,h,Aq,simprocAttr];rfl
 .have h0:=B4 (Aj1 h);have h1:=Dv1 (n[0]'(Aj1 h)) 42 (by omega);simp(disch:=omega)only[Ch6,L2,h,h0,Aq,simprocAttr];simp;exact h1
def bit (set:Int) (t:Nat):Int:=set / 2 ^ t % 2
def Fl6 (x:Int):IntKind.u64.wrap ((BitVec.ofInt IntKind.u64.bits x &&& BitVec.ofInt IntKind.u64.bits 1).toNat:Int)=x % 2:=by
 have h2:(BitVec.ofInt 64 x &&& BitVec.ofInt 64 1).toNat=(BitVec.ofInt 64 x).toNat % 2:=by rw[BitVec.toNat_and];show (BitVec.ofInt 64 x).toNat &&& 1=_;exact Nat.and_one_is_mod _
 show IntKind.u64.wrap (((BitVec.ofInt 64 x &&& BitVec.ofInt 64 1).toNat:Nat):Int)=_;rw[h2,BitVec.toNat_ofInt];rw[Fr3]<;>omega
def tq (set:Int) (i:Nat):Nat->Bool
 |0=>true
 |k+1=>(!decide (bit set i=1)||knw (i:Int)) && tq set (i+1) k
def Fl8 (set:Int) (N:Nat) (hN:64<N):
  Bx0.ev S N [.i .u64 set]=some (if tq set 0 64=true then .yld 0 [] else .ret [.b false]):=by
 refine Ft 64 (fun i=>[.i .i64 (i:Int)]) (fun i=>if tq set i (64 - i)=true then .yld 0 [] else .ret [.b false]) rfl hN (fun i hi=> ?_) ?_
 .obtain⟨k,hk⟩:∃k,64 - i=k+1:=⟨63 - i,by omega⟩;have hk':64 - (i+1)=k:=by omega
  have hb:IntKind.u64.bits=64:=rfl;have hi':i<IntKind.u64.bits:=by rw[hb];exact hi
  have h0:X.bin .shr (.i .u64 set) (.i .u64 (i:Int))=some (.i .u64 (set / 2 ^ i)):=Tt _ _ _ _ hi';have h1:set / 2 ^ i % 2=bit set i:=rfl;rw[hk,hk'];simp only[tq];by_cases h2:bit set i=1<;>rcases B0 (knw (i:Int)) with h3|h3<;>simp(disch:=omega)only[zf,Dy,Pm,Fl6,h0,h1,h2,h3,Aq,simprocAttr]
  all_goals simp[Out.goes]
 .simp(disch:=omega) [zf,xe,EVP,EV,simprocAttr,Out.goes,tq]
def Fl7 (set:Int):S ov 1 [.i .u64 set]=some [.b (tq set 0 64)]:=by refine Es4 (N:=65) rfl ?_;simp(disch:=omega)only[zf,Fl8,Aq,simprocAttr];cases tq set 0 64<;>rfl
def be (v:Int):Nat->List UInt8
 |0=>[]
 |n+1=>UInt8.ofNat (v / 256 ^ n % 256).toNat::be v n
def Ds (v:Int):∀n,(be v n).length=n
 |0=>rfl
 |n+1=>by simp[be,Ds v n]
def Pv (z:Int) (h1:0<=z) (h2:z<256):((UInt8.ofNat z.toNat).toNat:Int)=z:=by simp;omega
def Tv (v:Int) (j:Nat):v / 256 ^ j / 256=v / 256 ^ (j+1):=by rw[Int.pow_succ,Int.ediv_ediv_of_nonneg (Int.le_of_lt (Int.pow_pos (by decide)))]
def Tw (v:Int) (j:Nat) (h:0<=v):0<=v / 256 ^ j:=Int.ediv_nonneg h (Int.le_of_lt (Int.pow_pos (by decide)))
def Tx (v:Int) (j:Nat) (h:0<=v):v / 256 ^ j<=v:=Int.ediv_le_self _ h
def At6 (v:Int) (n i:Nat) (p q:PV) (N:Nat) (hN:i<N) (hi:i<=1000) (h0:0<=v) (h1:v<=18446744073709551615):
  Bq8.ev S N [.i .u64 v,p,q,.i .i64 (i:Int)]=some (.yld 2 [.i .u64 (v / 256 ^ i)]):=by
 refine Ft i (fun j=>[.i .u64 (v / 256 ^ j),.i .i64 (j:Int)]) (fun j=> .yld 2 [.i .u64 (v / 256 ^ i)]) (by simp[Xd,i5,Gb0,Gb4]) hN (fun j hj=> ?_) ?_
 .left;have h2:=Tw v j h0;have h3:=Tx v j h0;have h4:=Tv v j;simp(disch:=omega)only[Yt,h4,Aq,simprocAttr];simp
 .simp(disch:=omega)only[Yt,Aq,simprocAttr];simp[Out.goes]
def At7 (v:Int) (n:Nat) (N:Nat) (hN:n+1<N) (hn:n<=1000) (h0:0<=v) (h1:v<=18446744073709551615):
  g7.ev S N [.i .u64 v,.i .i64 (n:Int)]=some (.yld 0 [.l 1 (bytesPV (be v n))]):=by
 have key:=H2 (fn:=S) (N:=N) (J:=[.i .u64 v,.i .i64 (n:Int)]) (id:=1) (init:=[(.c (.l 1 [])),(.bin .sub (.v 1) (.c (.i .i64 (1))))]) (body:=j5) (α:=Nat×List UInt8) (fun a=>[.l 1 (bytesPV a.2),.i .i64 ((a.1:Int) - 1)]) (fun a=> .yld 0 [.l 1 (bytesPV (a.2++be v a.1))]) (fun a=>a.1+a.2.length=n) (fun a=>a.1) (n,[]) (by simp(disch:=omega)only[Aq,simprocAttr];rfl) rfl (by simp only;omega) ?_
 .simpa [g7] using key
 .rintro⟨m,acc⟩ hm;simp only at hm ⊢;cases m with
  |zero=>
   right;simp(disch:=omega)only[Yt,Aq,simprocAttr];simp[be,Out.goes]
  |succ m=>
   left;have h2:=Tw v m h0;have h3:=Tx v m h0;have e:((m+1:Nat):Int) - 1=(m:Int):=by omega
   have e2:=Pv (v / 256 ^ m % 256) (by omega) (by omega);have e3:=Gk acc;refine⟨(m,acc++[UInt8.ofNat (v / 256 ^ m % 256).toNat]),?_,by simp;omega,by simp,by simp[be]⟩;rw[e];have hin:=At6 v n m (.i .i64 (n:Int)) (.l 1 (bytesPV acc)) N (by omega) (by omega) h0 h1;simp(disch:=omega)only[Yt,hin,Aq,simprocAttr];rw[<-Pl,e2]
def Sv (v:Int) (n:Nat) (hn:n<=1000) (h0:0<=v) (h1:v<=18446744073709551615):S U6 2 [.i .u64 v,.i .i64 (n:Int)]=some [.s (be v n)]:=by refine En2 (N:=n+2) rfl ?_;simp(disch:=omega)only[Yt,At7,Aq,simprocAttr]
def Bl5 (v:Int) (n i:Nat) (p q:PV) (N:Nat) (hN:i<N) (hi:i<=1000) (h0:0<=v) (h1:v<=9223372036854775807):
  Bv2.ev S N [.i .i64 v,p,q,.i .i64 (i:Int)]=some (.yld 2 [.i .i64 (v / 256 ^ i)]):=by
 refine Ft i (fun j=>[.i .i64 (v / 256 ^ j),.i .i64 (j:Int)]) (fun j=> .yld 2 [.i .i64 (v / 256 ^ i)]) (by simp[Xd,i5,Gb0,Gb4]) hN (fun j hj=> ?_) ?_
 .left;have h2:=Tw v j h0;have h3:=Tx v j h0;have h4:=Tv v j;simp(disch:=omega)only[Y0,h4,Aq,simprocAttr];simp
 .simp(disch:=omega)only[Y0,Aq,simprocAttr];simp[Out.goes]
def Bl6 (v:Int) (n:Nat) (N:Nat) (hN:n+1<N) (hn:n<=1000) (h0:0<=v) (h1:v<=9223372036854775807):
  g9.ev S N [.i .i64 v,.i .i64 (n:Int)]=some (.yld 0 [.l 1 (bytesPV (be v n))]):=by
 have key:=H2 (fn:=S) (N:=N) (J:=[.i .i64 v,.i .i64 (n:Int)]) (id:=1) (init:=[(.c (.l 1 [])),(.bin .sub (.v 1) (.c (.i .i64 (1))))]) (body:=j7) (α:=Nat×List UInt8) (fun a=>[.l 1 (bytesPV a.2),.i .i64 ((a.1:Int) - 1)]) (fun a=> .yld 0 [.l 1 (bytesPV (a.2++be v a.1))]) (fun a=>a.1+a.2.length=n) (fun a=>a.1) (n,[]) (by simp(disch:=omega)only[Aq,simprocAttr];rfl) rfl (by simp only;omega) ?_
 .simpa [g9] using key
 .rintro⟨m,acc⟩ hm;simp only at hm ⊢;cases m with
  |zero=>
   right;simp(disch:=omega)only[Y0,Aq,simprocAttr];simp[be,Out.goes]
  |succ m=>
   left;have h2:=Tw v m h0;have h3:=Tx v m h0;have e:((m+1:Nat):Int) - 1=(m:Int):=by omega
   have e2:=Pv (v / 256 ^ m % 256) (by omega) (by omega);have e3:=Gk acc;refine⟨(m,acc++[UInt8.ofNat (v / 256 ^ m % 256).toNat]),?_,by simp;omega,by simp,by simp[be]⟩;rw[e];have hin:=Bl5 v n m (.i .i64 (n:Int)) (.l 1 (bytesPV acc)) N (by omega) (by omega) h0 h1;simp(disch:=omega)only[Y0,hin,Aq,simprocAttr];rw[<-Pl,e2]
def L4 (v:Int) (n:Nat) (hn:n<=1000) (h0:0<=v) (h1:v<=9223372036854775807):S Ff 2 [.i .i64 v,.i .i64 (n:Int)]=some [.s (be v n)]:=by refine Ep6 (N:=n+2) rfl ?_;simp(disch:=omega)only[Y0,Bl6,Aq,simprocAttr]
def H4 {s:List UInt8} (h:If s=true):s.length<=63:=by
 unfold If at h;simp at h;rcases h with h|h
 .simp[h]
 .omega
def Wd:∀(r:List UInt8) (f:Bool) (cur:List UInt8) (l:List (List UInt8)),spl f cur r=some l->∀x∈l,If x=true
 |[],f,cur,l,h=>by simp[spl] at h;subst h;simp
 |c::r,f,cur,l,h=>by
  simp only[spl] at h;split at h
  .split at h
   .rename_i h2;obtain⟨m,hm,rfl⟩:=Bp.1 h;intro x hx;simp at hx;rcases hx with rfl|hx
    .exact h2.1
    .exact Wd r _ _ _ hm x hx
   .cases h
  .exact Wd r _ _ _ h
def H3 (n:List UInt8):∀x∈lbl n,If x=true:=by
 unfold lbl nm;split
 .simp
 .split
  .cases h:spl true [] n with
   |none=>simp
   |some l=>simpa using Wd _ _ _ _ h
  .simp
def wireL (l:List (List UInt8)):List UInt8:=l.flatMap fun x=>be (x.length:Int) 1++x
def wireN (n:List UInt8):List UInt8:=wireL (lbl n)++be 0 1
def J5:∀(l:List (List UInt8)),(∀x∈l,If x=true)->(wireL l).length<=64*l.length
 |[],_=>by simp[wireL]
 |x::l,h=>by have h1:=H4 (h x (by simp));have h2:=J5 l (fun y hy=>h y (by simp[hy]));simp only[wireL,Hs,Br,Ds,Cz] at h2 ⊢;omega
def H0 (n:List UInt8):(wireN n).length<=20000:=by have h1:=J5 (lbl n) (H3 n);have h2:=G8 n;simp only[wireN,Br,Ds];omega
def ky (n:List UInt8) (N:Nat) (hN:254<N):
  ij.ev S N [.s n,Dv (lbl n)]=some (.yld 0 [.s (wireL (lbl n))]):=by
 have hl:=G8 n;have key:=G5 (fn:=S) (N:=N) (J:=[.s n,Dv (lbl n)]) (id:=1) (init:=[(.c (.s [])),(.c (.i .i64 (0)))]) (body:=j8) (lbl n) (fun i (g:List UInt8)=>[.s g,.i .i64 (i:Int)]) (fun i g r=> .yld 0 [.s (g++wireL r)]) (fun i g=>g.length<=64*i) [] rfl (B7 _) (by omega) (fun i g c r hd hi hc hI=> ?_) (fun g hI=> ?_)
 .simpa [ij] using key
 .left;have h1:=H4 (H3 n c (Cy hc));have h2:=L4 (c.length:Int) 1 (by omega) (by omega) (by omega);have h3:=Ds (c.length:Int) 1;have h4:(be (c.length:Int) 1++c).length=1+c.length:=by rw[Br,h3]
  refine⟨g++(be (c.length:Int) 1++c),?_,?_,?_⟩
  .simp only[Int.natCast_one] at h2;simp(disch:=omega)only[zx,hc,h2,Aq,simprocAttr]
  .rw[Br,h4];omega
  .simp[wireL]
 .simp(disch:=omega)only[zx,Aq,simprocAttr];simp[Out.goes,wireL]
def Fj (n:List UInt8) (hn:n.length<=9223372036854775807):S Mr 1 [.s n]=some [.s (wireN n)]:=by refine Ep7 (N:=255) rfl ?_;have h1:=J5 (lbl n) (H3 n);have h2:=G8 n;have h3:=Ds 0 1;have h4:=L4 0 1 (by omega) (by omega) (by omega);simp only[Int.natCast_one] at h4;simp(disch:=omega)only[zx,Mh,ky,h4,Aq,simprocAttr];rfl
def bmV (set:Int) (i:Nat):Nat->Int
 |0=>0
 |j+1=>bmV set i j*2+bit set (i*8+j)
def Bg6 (set:Int) (t:Nat):0<=bit set t∧bit set t<=1:=by unfold bit;omega
def Vs (set:Int) (i:Nat):∀j,0<=bmV set i j∧bmV set i j<2 ^ j
 |0=>by simp[bmV]
 |j+1=>by have h1:=Vs set i j;have h2:=Bg6 set (i*8+j);simp only[bmV,Int.pow_succ];omega
def bmB (set:Int) (i:Nat):UInt8:=UInt8.ofNat (bmV set i 8).toNat
def bmL (set:Int):Nat->Nat
 |0=>0
 |i+1=>if bmV set i 8≠0 then i+1 else bmL set i
def Bf9 (set:Int):∀i,bmL set i<=i
 |0=>B7 _
 |i+1=>by have:=Bf9 set i;simp only[bmL];split<;>omega
def bmap (set:Int):List UInt8:=((List.range 8).map (bmB set)).take (bmL set 8)
def Bg3 (set:Int) (p q:PV) (i:Nat) (hi:i<8) (N:Nat) (hN:8<N):
  Bv1.ev S N [.i .u64 set,p,q,.i .i64 (i:Int)]=some (.yld 2 [.i .i64 (bmV set i 8)]):=by
 refine Ft 8 (fun j=>[.i .i64 (bmV set i j),.i .i64 (j:Int)]) (fun j=> .yld 2 [.i .i64 (bmV set i 8)]) rfl hN (fun j hj=> ?_) ?_
 .left;have hb:IntKind.u64.bits=64:=rfl;have hi':i*8+j<IntKind.u64.bits:=by rw[hb];omega
  have e:((i:Int)*8+(j:Int))=((i*8+j:Nat):Int):=by simp
  have h0:X.bin .shr (.i .u64 set) (.i .u64 ((i*8+j:Nat):Int))=some (.i .u64 (set / 2 ^ (i*8+j))):=Tt _ _ _ _ hi';have h1:set / 2 ^ (i*8+j) % 2=bit set (i*8+j):=rfl;have h2:=Vs set i j;have h3:(2:Int) ^ j<=128:=(by decide:∀j,j<8->(2:Int) ^ j<=128) j hj;have h4:=Bg6 set (i*8+j);simp(disch:=omega)only[Uf,Pm,Fl6,h0,h1,<-e,Aq,simprocAttr];refine⟨?_,trivial⟩;rw[e,h0];simp(disch:=omega)only[Pm,Fl6,h0,h1,Aq,simprocAttr];rfl
 .simp(disch:=omega)only[Uf,Aq,simprocAttr];simp[Out.goes]
def Bg4 (set:Int) (N:Nat) (hN:8<N):
  Bw3.ev S N [.i .u64 set]=some (.yld 0 [.l 1 (bytesPV ((List.range 8).map (bmB set))),.i .i64 (bmL set 8:Int)]):=by
 refine Ft 8 (fun i=>[.l 1 (bytesPV ((List.range i).map (bmB set))),.i .i64 (bmL set i:Int),.i .i64 (i:Int)]) (fun _=> .yld 0 [.l 1 (bytesPV ((List.range 8).map (bmB set))),.i .i64 (bmL set 8:Int)]) rfl hN (fun i hi=> ?_) ?_
 .left;have h1:=Bg3 set (.l 1 (bytesPV ((List.range i).map (bmB set)))) (.i .i64 (bmL set i:Int)) i hi N hN;have h2:=Vs set i 8;have h3:(2:Int) ^ 8=256:=rfl;have h4:=Pv (bmV set i 8) (by omega) (by omega);have h5:(bytesPV ((List.range i).map (bmB set))).length=i:=by simp[Gk]
  have h6:bytesPV ((List.range (i+1)).map (bmB set))=bytesPV ((List.range i).map (bmB set))++[.i .u8 (bmV set i 8)]:=by rw[List.range_succ,List.map_append,<-h4];exact(Pl _ _).symm
  rw[h6];by_cases h7:bmV set i 8=0
  .simp(disch:=omega)only[Uf,h1,bmL,h7,Aq,simprocAttr];simp
  .simp(disch:=omega)only[Uf,h1,bmL,Aq,simprocAttr];simp[h7]
 .simp(disch:=omega)only[Uf,Aq,simprocAttr];simp[Out.goes]
def Bg2 (set:Int):S ny 1 [.i .u64 set]=some [.s (bmap set)]:=by
 refine Ep5 (N:=9) rfl ?_;have h1:=Bf9 set 8;have h2:(bytesPV ((List.range 8).map (bmB set))).length=8:=by simp[Gk]
 have h3:List.drop 0 (List.take (bmL set 8) (bytesPV ((List.range 8).map (bmB set))))=bytesPV (bmap set):=by simp only[Gt,bmap,bytesPV,List.map_take]
 simp(disch:=omega)only[Uf,Bg4,h3,Aq,simprocAttr]
def Q8 (set:Int):(bmap set).length<=8:=by simp[bmap];omega
def Ml (d:Dat):List UInt8:=if d.v6 then be d.hi 8++be d.lo 8 else be d.lo 4
def tw (d:Dat) (h:d.wf):S nz 1 [Jf d]=some (if Ef d=true then [.s (Ml d),.i .i64 0] else [.s [],.i .i64 3]):=by refine Ep8 (N:=1) rfl ?_;have h1:=h.hi;have h2:=h.lo;have a1:=Sv d.hi 8 (by omega) h1.1 h1.2;have a2:=Sv d.lo 8 (by omega) h2.1 h2.2;have a3:=Sv d.lo 4 (by omega) h2.1 h2.2;have b1:=Ds d.hi 8;have b2:=Ds d.lo 8;simp only[Int.cast_ofNat_Int] at a1 a2 a3;unfold Ml;rcases B0 (Ef d) with h3|h3<;>rcases B0 d.v6 with h4|h4<;>simp(disch:=omega)only[Ey1,df,h3,h4,a1,a2,a3,Aq,simprocAttr]
def usd (t:Int) (d:Dat):Dat:=
 if t=1∨t=28 then ⟨d.v6,d.hi,d.lo,[],[],[],0,0,0,0,0,0,0⟩
 else if t=2∨t=5∨t=12∨t=39 then ⟨false,0,0,d.host,[],[],0,0,0,0,0,0,0⟩
 else if t=6 then ⟨false,0,0,d.host,d.mail,[],d.a,d.b,d.c,d.d,d.e,0,0⟩
 else if t=15 then ⟨false,0,0,d.host,[],[],d.a,0,0,0,0,0,0⟩
 else if t=16 then ⟨false,0,0,[],[],d.text,0,0,0,0,0,0,0⟩
 else if t=33 then ⟨false,0,0,d.host,[],[],d.a,d.b,d.c,0,0,0,0⟩
 else if t=43∨t=48 then ⟨false,0,0,[],[],d.text,d.a,d.b,d.c,0,0,0,0⟩
 else if t=46 then ⟨false,0,0,d.host,[],d.text,d.a,d.b,d.c,d.d,d.e,d.f,0⟩
 else ⟨false,0,0,d.host,[],[],0,0,0,0,0,0,d.bits⟩
def Hd (t:Int) (d:Dat):S oy 2 [.i .i64 t,d.pv]=some [(usd t d).pv]:=by
 refine Et0 (N:=1) rfl ?_;rcases t15 t with rfl|rfl|rfl|rfl|rfl|rfl|rfl|rfl|rfl|rfl|rfl|rfl|rfl|rfl|⟨h0,h1,h2,h3,h4,h5,h6,h7,h8,h9,h10,h11,h12,h13⟩
 all_goals simp(disch:=omega)only[Ey9,Aq,simprocAttr]
 all_goals first|rfl|(unfold usd;simp[*])
def Df (t:Int) (d:Dat):Bool:=
 if t=1 then Ef d && !d.v6
 else if t=28 then d.v6
 else if t=6 then Gl d.host && Gl d.mail && inB d.a 4294967295 && inB d.b 2147483647 && inB d.c 2147483647 && inB d.d 2147483647 && inB d.e 2147483647
 else if t=15 then Gl d.host && inB d.a 65535
 else if t=16 then decide (d.text.length<=255)
 else if t=33 then Gl d.host && inB d.a 65535 && inB d.b 65535 && inB d.c 65535
 else if t=43 then inB d.a 65535 && inB d.b 255 && inB d.c 255 && G4 d.text
 else if t=46 then knw d.a && decide (d.a≠46) && inB d.b 127 && inB d.c 2147483647 && inB d.d 4294967295 && inB d.e 4294967295 && inB d.f 65535 && Gl d.host && G4 d.text
 else if t=47 then vld d.host && decide (d.bits≠0) && tq d.bits 0 64
 else if t=48 then(decide (d.a=256)||decide (d.a=257)) && decide (d.b=3) && inB d.c 255 && G4 d.text
 else Gl d.host
def Ew (t:Int) (d:Dat):Bool:=knw t && decide (usd t d=d) && Df t d
def Et (t:Int) (d:Dat) (h:d.wf):S P5 2 [.i .i64 t,d.pv]=some [.b (Ew t d)]:=by
 refine Fq0 (N:=1) rfl ?_;have g1:=h.host;have g2:=h.mail;have g3:=h.text;unfold d4 at g1 g2 g3;rcases B0 (knw t) with hk|hk
 .by_cases hu:usd t d=d
  .rcases t15 t with rfl|rfl|rfl|rfl|rfl|rfl|rfl|rfl|rfl|rfl|rfl|rfl|rfl|rfl|⟨h0,h1,h2,h3,h4,h5,h6,h7,h8,h9,h10,h11,h12,h13⟩
   .rcases ch2 (Ef d) (d.v6) with e0|⟨e0,e1⟩|⟨e0,e1⟩
    all_goals simp(disch:=omega)only[I2,Dy,Hd,df,xe,EVP,EV,simprocAttr,hk,hu, *]
    all_goals (unfold Ew Df;simp[*])
   .simp(disch:=omega)only[I2,Dy,Hd,Iy,xe,EVP,EV,simprocAttr,hk,hu];unfold Ew Df;simp[*]
   .simp(disch:=omega)only[I2,Dy,Hd,Iy,xe,EVP,EV,simprocAttr,hk,hu];unfold Ew Df;simp[*]
   .rcases ch7 (Gl d.host) (Gl d.mail) (inB d.a 4294967295) (inB d.b 2147483647) (inB d.c 2147483647) (inB d.d 2147483647) (inB d.e 2147483647) with e0|⟨e0,e1⟩|⟨e0,e1,e2⟩|⟨e0,e1,e2,e3⟩|⟨e0,e1,e2,e3,e4⟩|⟨e0,e1,e2,e3,e4,e5⟩|⟨e0,e1,e2,e3,e4,e5,e6⟩|⟨e0,e1,e2,e3,e4,e5,e6⟩
    all_goals simp(disch:=omega)only[I2,Dy,Hd,Iy,Bl2,wt,xe,EVP,EV,simprocAttr,hk,hu, *]
    all_goals (unfold Ew Df;simp[*])
   .simp(disch:=omega)only[I2,Dy,Hd,Iy,xe,EVP,EV,simprocAttr,hk,hu];unfold Ew Df;simp[*]
   .rcases ch2 (Gl d.host) (inB d.a 65535) with e0|⟨e0,e1⟩|⟨e0,e1⟩
    all_goals simp(disch:=omega)only[I2,Dy,Hd,Iy,wt,xe,EVP,EV,simprocAttr,hk,hu, *]
    all_goals (unfold Ew Df;simp[*])
   .simp(disch:=omega)only[I2,Dy,Hd,Iy,xe,EVP,EV,simprocAttr,hk,hu];unfold Ew Df;simp[*];omega
   .simp(disch:=omega)only[I2,Dy,Hd,Iy,xe,EVP,EV,simprocAttr,hk,hu];unfold Ew Df;simp[*]
   .rcases ch4 (Gl d.host) (inB d.a 65535) (inB d.b 65535) (inB d.c 65535) with e0|⟨e0,e1⟩|⟨e0,e1,e2⟩|⟨e0,e1,e2,e3⟩|⟨e0,e1,e2,e3⟩
    all_goals simp(disch:=omega)only[I2,Dy,Hd,Iy,wt,xe,EVP,EV,simprocAttr,hk,hu, *]
    all_goals (unfold Ew Df;simp[*])
   .simp(disch:=omega)only[I2,Dy,Hd,Iy,xe,EVP,EV,simprocAttr,hk,hu];unfold Ew Df;simp[*]
   .rcases ch4 (inB d.a 65535) (inB d.b 255) (inB d.c 255) (G4 d.text) with e0|⟨e0,e1⟩|⟨e0,e1,e2⟩|⟨e0,e1,e2,e3⟩|⟨e0,e1,e2,e3⟩
    all_goals simp(disch:=omega)only[I2,Dy,Hd,wt,Wz,xe,EVP,EV,simprocAttr,hk,hu, *]
    all_goals (unfold Ew Df;simp[*])
   .rcases ch9 (knw d.a) (decide (d.a≠46)) (inB d.b 127) (inB d.c 2147483647) (inB d.d 4294967295) (inB d.e 4294967295) (inB d.f 65535) (Gl d.host) (G4 d.text) with e0|⟨e0,e1⟩|⟨e0,e1,e2⟩|⟨e0,e1,e2,e3⟩|⟨e0,e1,e2,e3,e4⟩|⟨e0,e1,e2,e3,e4,e5⟩|⟨e0,e1,e2,e3,e4,e5,e6⟩|⟨e0,e1,e2,e3,e4,e5,e6,e7⟩|⟨e0,e1,e2,e3,e4,e5,e6,e7,e8⟩|⟨e0,e1,e2,e3,e4,e5,e6,e7,e8⟩
    all_goals simp(disch:=omega)only[I2,Dy,Hd,Iy,wt,Wz,xe,EVP,EV,simprocAttr,hk,hu, *]
    all_goals (unfold Ew Df;simp[*])
   .rcases ch3 (vld d.host) (decide (d.bits≠0)) (tq d.bits 0 64) with e0|⟨e0,e1⟩|⟨e0,e1,e2⟩|⟨e0,e1,e2⟩
    all_goals simp(disch:=omega)only[I2,Dy,Hd,L2,Fl7,xe,EVP,EV,simprocAttr,hk,hu, *]
    all_goals (unfold Ew Df;simp[*])
   .rcases ch4 (decide (d.a=256)||decide (d.a=257)) (decide (d.b=3)) (inB d.c 255) (G4 d.text) with e0|⟨e0,e1⟩|⟨e0,e1,e2⟩|⟨e0,e1,e2,e3⟩|⟨e0,e1,e2,e3⟩
    all_goals simp(disch:=omega)only[I2,Dy,Hd,wt,Wz,xe,EVP,EV,simprocAttr,hk,hu, *]
    all_goals (unfold Ew Df;simp[*])
   .simp[knw, *] at hk
  .simp(disch:=omega)only[I2,Dy,Hd,xe,EVP,EV,simprocAttr,hk,hu];unfold Ew;simp[hu]
 .simp(disch:=omega)only[I2,Dy,xe,EVP,EV,simprocAttr,hk];unfold Ew;simp[hk]
def wireD (t:Int) (d:Dat):List UInt8:=
 if t=1∨t=28 then Ml d
 else if t=6 then wireN d.host++wireN d.mail++be d.a 4++be d.b 4++be d.c 4++be d.d 4++be d.e 4
 else if t=15 then be d.a 2++wireN d.host
 else if t=16 then be (d.text.length:Int) 1++d.text
 else if t=33 then be d.a 2++be d.b 2++be d.c 2++wireN d.host
 else if t=43∨t=48 then be d.a 2++be d.b 1++be d.c 1++d.text
 else if t=46 then be d.a 2++be 253 1++be d.b 1++be d.c 4++be d.d 4++be d.e 4++be d.f 2++wireN d.host++d.text
 else if t=47 then wireN d.host++be 0 1++be ((bmap d.bits).length:Int) 1++bmap d.bits
 else wireN d.host
def knw_cases {t:Int} (h:knw t=true):t=1∨t=2∨t=5∨t=6∨t=12∨t=15∨t=16∨t=28∨t=33∨t=39∨t=43∨t=46∨t=47∨t=48:=by simp[knw] at h;omega
def Tg (v:Int) (h0:0<=v) (h1:v<=9223372036854775807):S Ff 2 [.i .i64 v,.i .i64 1]=some [.s (be v 1)]:=L4 v 1 (by omega) h0 h1
def Tf (v:Int) (h0:0<=v) (h1:v<=9223372036854775807):S Ff 2 [.i .i64 v,.i .i64 2]=some [.s (be v 2)]:=L4 v 2 (by omega) h0 h1
def Bl7 (v:Int) (h0:0<=v) (h1:v<=9223372036854775807):S Ff 2 [.i .i64 v,.i .i64 4]=some [.s (be v 4)]:=L4 v 4 (by omega) h0 h1
def Kh (t:Int) (d:Dat) (h:d.wf):S P4 2 [.i .i64 t,d.pv]=some (if Ew t d=true then [.s (wireD t d),.i .i64 0] else if knw t=true then [.s [],.i .i64 5] else [.s [],.i .i64 4]):=by
 refine Fj5 (N:=1) rfl ?_;have g1:=h.host;have g2:=h.mail;have g3:=h.text;unfold d4 at g1 g2 g3;have g4:=H0 d.host;have g5:=H0 d.mail;have g6:=Q8 d.bits;rcases B0 (knw t) with hk|hk
 .rcases B0 (Ew t d) with hv|hv
  .rw[if_pos hv];have hv':=hv;rcases knw_cases hk with rfl|rfl|rfl|rfl|rfl|rfl|rfl|rfl|rfl|rfl|rfl|rfl|rfl|rfl
   .simp[Ew,Df] at hv';simp(disch:=omega)only[I1,Dy,Et _ _ h,tw d h,hk,hv,hv'.2.1,Aq,simprocAttr];rfl
   .simp(disch:=omega)only[I1,Dy,Et _ _ h,Fj,hk,hv,Aq,simprocAttr];rfl
   .simp(disch:=omega)only[I1,Dy,Et _ _ h,Fj,hk,hv,Aq,simprocAttr];rfl
   .simp[Ew,Df,inB,G4] at hv';simp(disch:=first|omega|(simp only[Br,Ds];omega))only[I1,Dy,Et _ _ h,Fj,Bl7,hk,hv,Aq,simprocAttr];rfl
   .simp(disch:=omega)only[I1,Dy,Et _ _ h,Fj,hk,hv,Aq,simprocAttr];rfl
   .simp[Ew,Df,inB,G4] at hv';simp(disch:=first|omega|(simp only[Br,Ds];omega))only[I1,Dy,Et _ _ h,Fj,Tf,hk,hv,Aq,simprocAttr];rfl
   .simp[Ew,Df,inB,G4] at hv';simp(disch:=first|omega|(simp only[Br,Ds];omega))only[I1,Dy,Et _ _ h,Fj,Tg,hk,hv,Aq,simprocAttr];rfl
   .simp[Ew,Df] at hv';have ha:Ef d=true:=by simp[Ef,hv'.2]
    simp(disch:=omega)only[I1,Dy,Et _ _ h,tw d h,hk,hv,ha,Aq,simprocAttr];rfl
   .simp[Ew,Df,inB,G4] at hv';simp(disch:=first|omega|(simp only[Br,Ds];omega))only[I1,Dy,Et _ _ h,Fj,Tf,hk,hv,Aq,simprocAttr];rfl
   .simp(disch:=omega)only[I1,Dy,Et _ _ h,Fj,hk,hv,Aq,simprocAttr];rfl
   .simp[Ew,Df,inB,G4] at hv';simp(disch:=first|omega|(simp only[Br,Ds];omega))only[I1,Dy,Et _ _ h,Fj,Tg,Tf,hk,hv,Aq,simprocAttr];rfl
   .simp[Ew,Df,inB,G4] at hv';have k1:0<=d.a:=by have:=knw_cases hv'.2.1.1.1.1.1.1.1.1;omega
    have k2:=h.a.2;simp(disch:=first|omega|(simp only[Br,Ds];omega))only[I1,Dy,Et _ _ h,Fj,Tg,Tf,Bl7,hk,hv,Aq,simprocAttr];rfl
   .simp(disch:=first|omega|(simp only[Br,Ds];omega))only[I1,Dy,Et _ _ h,Fj,Bg2,Tg,hk,hv,Aq,simprocAttr];rfl
   .simp[Ew,Df,inB,G4] at hv';simp(disch:=first|omega|(simp only[Br,Ds];omega))only[I1,Dy,Et _ _ h,Fj,Tg,Tf,hk,hv,Aq,simprocAttr];rfl
  .simp(disch:=omega)only[I1,Dy,Et _ _ h,hk,hv,Aq,simprocAttr]
 .have hv:Ew t d=false:=by simp[Ew,hk]
  simp(disch:=omega)only[I1,Dy,hk,hv,Aq,simprocAttr]
def Cd1 (t:Int) (a b:Dat):Int:=
 if Ew t a && Ew t b then cmpS (wireD t a) (wireD t b) else if Ew t a then -1 else if Ew t b then 1 else 0
def lq (t:Int) (a b:Dat) (ha:a.wf) (hb:b.wf):S nn 3 [.i .i64 t,a.pv,b.pv]=some [.i .i64 (Cd1 t a b)]:=by
 refine Er4 (N:=1) rfl ?_;unfold Cd1 cmpS;rcases B0 (Ew t a) with h1|h1<;>rcases B0 (Ew t b) with h2|h2
 .simp(disch:=omega)only[Ch5,Kh _ _ ha,Kh _ _ hb,h1,h2,Aq,simprocAttr];cases Op.bytesLess (wireD t a) (wireD t b)
  .by_cases h3:wireD t a=wireD t b<;>simp[h3]
  .simp
 all_goals rcases B0 (knw t) with h3|h3<;>simp(disch:=omega) [Ch5,Kh _ _ ha,Kh _ _ hb,h1,h2,h3,Aq,simprocAttr]
def Yx (r:Rec):Bool:=vld r.name && knw r.typ && decide (0<=r.ttl) && decide (r.ttl<=2147483647) && Ew r.typ r.data
def Bl1 (r:Rec) (h:r.wf):S nq 1 [r.pv]=some [.b (Yx r)]:=by
 refine En9 (N:=1) rfl ?_;have g:=h.name;unfold d4 at g;unfold Yx;by_cases h0:0<=r.ttl<;>by_cases h1:r.ttl<=2147483647
 all_goals rcases ch3 (vld r.name) (knw r.typ) (Ew r.typ r.data) with e0|⟨e0,e1⟩|⟨e0,e1,e2⟩|⟨e0,e1,e2⟩
 all_goals simp(disch:=omega) [Ex8,L2,Dy,Et _ _ h.data,xe,EVP,EV,simprocAttr, *]
def jz (a b:Int):Int:=if a<b then -1 else if b<a then 1 else 0
def wq (a b:Int):S nr 2 [.i .i64 a,.i .i64 b]=some [.i .i64 (jz a b)]:=by
 refine Er5 (N:=1) rfl ?_;unfold jz;simp(disch:=omega)only[Ey4,Aq,simprocAttr]
 grind
def Qp (a b:Rec):Int:=
 if Qv a.name b.name≠0 then Qv a.name b.name else if jz a.typ b.typ≠0 then jz a.typ b.typ else Cd1 a.typ a.data b.data
def cp (a b:Rec) (ha:a.wf) (hb:b.wf):S bv 2 [a.pv,b.pv]=some [.i .i64 (Qp a b)]:=by refine Fk7 (N:=1) rfl ?_;have g1:=ha.name;have g2:=hb.name;unfold d4 at g1 g2;unfold Qp;simp(disch:=omega)only[Ez7,lv,wq,lq _ _ _ ha.data hb.data,Aq,simprocAttr];by_cases h1:Qv a.name b.name=0<;>by_cases h2:jz a.typ b.typ=0<;>simp[h1,h2]
def isK (n:List UInt8) (t:Int) (r:Rec):Bool:=decide (r.name=n) && decide (r.typ=t)
def findR (l:List Rec) (n:List UInt8) (t:Int):List Rec:=l.filter (isK n t)
def Xy (x:Rec):List Rec->List Rec
 |[]=>[x]
 |y::r=>if Qp y x<0 then y::Xy x r else if Qp y x=0 then(if x.ttl<y.ttl then x::r else y::r) else x::y::r
def sortR (l:List Rec):List Rec:=l.foldl (fun acc x=>Xy x acc) []
def Kc (x:Rec):List Rec->Nat
 |[]=>0
 |y::r=>if Qp y x<0 then Kc x r+1 else 0
def pd (x:Rec):∀l,Kc x l<=l.length
 |[]=>B7 _
 |y::r=>by have:=pd x r;simp only[Kc];split<;>simp;omega
def Bz2 (x:Rec):∀(l:List Rec),Xy x l=match l[Kc x l]? with
  |some y=>if Qp y x=0 then(if x.ttl<y.ttl then l.set (Kc x l) x else l) else l.take (Kc x l)++[x]++l.drop (Kc x l)
  |none=>l.take (Kc x l)++[x]++l.drop (Kc x l)
 |[]=>rfl
 |y::r=>by
  simp only[Xy,Kc];by_cases h:Qp y x<0
  .simp only[if_pos h,Ec];rw[Bz2 x r];cases h2:r[Kc x r]? with
   |none=>simp
   |some z=>by_cases h3:Qp z x=0<;>by_cases h4:x.ttl<z.ttl<;>simp[h3,h4]
  .simp only[if_neg h,Dm];by_cases h3:Qp y x=0<;>by_cases h4:x.ttl<y.ttl<;>simp[h3,h4]
def Xx (x:Rec):∀l,(Xy x l).length<=l.length+1
 |[]=>by simp[Xy]
 |y::r=>by
  have:=Xx x r;simp only[Xy];split
  .simp;omega
  .split
   .split<;>simp
   .simp
def insR_mem (x:Rec):∀(l:List Rec) (y:Rec),y∈Xy x l->y=x∨y∈l
 |[],y,h=>by simp[Xy] at h;exact .inl h
 |z::r,y,h=>by
  simp only[Xy] at h;split at h
  .simp at h;rcases h with h|h
   .exact .inr (by simp[h])
   .rcases insR_mem x r y h with h|h
    .exact .inl h
    .exact .inr (by simp[h])
  .split at h
   .split at h
    .simp at h;rcases h with h|h
     .exact .inl h
     .exact .inr (by simp[h])
    .exact .inr h
   .simp at h;rcases h with h|h
    .exact .inl h
    .exact .inr (by simpa using h)
def Ev3 (l g:List Rec) (i:Nat) (x:Rec) (hx:l[i]? =some x) (hw:∀r∈l,r.wf) (hg:∀r∈g,r.wf) (N:Nat) (hN:g.length<N) (hl:g.length<=1000000):
  Bq7.ev S N [B9 l,B9 g,.i .i64 (i:Int)]=some (.yld 2 [.i .i64 (Kc x g:Int)]):=by
 have key:Bq7.ev S N [B9 l,B9 g,.i .i64 (i:Int)]=some (.yld 2 [.i .i64 ((0+Kc x g:Nat):Int)]):=by
  refine E8 g (fun k=>[.i .i64 (k:Int)]) (fun k r=> .yld 2 [.i .i64 ((k+Kc x r:Nat):Int)]) rfl hN (fun k c r hd hk hc=> ?_) ?_
  .have h1:=cp c x (hg c (Cy hc)) (hw x (Cy hx));by_cases h:Qp c x<0
   .left;simp(disch:=omega)only[V8,hc,hx,h1,h,Aq,simprocAttr];refine⟨trivial,?_⟩;simp only[Kc,if_pos h];congr 3;push_cast;omega
   .right;simp(disch:=omega)only[V8,hc,hx,h1,Aq,simprocAttr];simp[Kc,h,Out.goes]
  .simp(disch:=omega)only[V8,Aq,simprocAttr];simp[Kc,Out.goes]
 simpa using key
def Ev4 (l:List Rec) (hw:∀r∈l,r.wf) (N:Nat) (hN:l.length<N) (hl:l.length<=1000000):
  Ct2.ev S N [B9 l]=some (.yld 0 [B9 (sortR l)]):=by
 refine G5 l (fun i (g:List Rec)=>[B9 g,.i .i64 (i:Int)]) (fun i g r=> .yld 0 [B9 (r.foldl (fun acc x=>Xy x acc) g)]) (fun i g=>g.length<=i∧∀r∈g,r.wf) [] rfl ⟨B7 _,fun r h=>by cases h⟩ hN (fun i g c r hd hi hc hI=> ?_) (fun g hI=> ?_)
 .left;obtain⟨h1,h2⟩:=hI;have hcw:=hw c (Cy hc);have h3:=Ev3 l g i c hc hw h2 N (by omega) (by omega);have h4:=pd c g;have h5:=Xx c g;refine⟨Xy c g,?_,⟨by omega,fun r hr=> ?_⟩,rfl⟩
  .rw[Bz2];cases h6:g[Kc c g]? with
   |none=>
    have h7:=List.getElem?_eq_none_iff.1 h6;have h8:Kc c g=g.length:=by omega
    simp(disch:=first|omega|(simp;omega))only[V8,hc,h3,h8,Aq,simprocAttr];simp
   |some y=>
    have h7:=(Bn.1 h6).1;have h8:=cp y c (h2 y (Cy h6)) hcw;by_cases h9:Qp y c=0
    .by_cases h10:c.ttl<y.ttl
     .simp(disch:=omega)only[V8,hc,h3,h6,h8,h9,h10,Aq,simprocAttr]
     .simp(disch:=omega)only[V8,hc,h3,h6,h8,h9,h10,Aq,simprocAttr]
    .simp(disch:=first|omega|(simp;omega))only[V8,hc,h3,h6,h8,h9,Aq,simprocAttr];simp
  .rcases insR_mem c g r hr with h|h
   .subst h;exact hcw
   .exact h2 r h
 .simp(disch:=omega)only[V8,Aq,simprocAttr];simp[Out.goes]
def Cg0 (l:List Rec) (hw:∀r∈l,r.wf) (hl:l.length<=1000000):S Cv1 1 [B9 l]=some [B9 (sortR l)]:=by refine Gw1 (N:=l.length+1) rfl ?_;simp(disch:=omega)only[V8,Ev4 l hw,Aq,simprocAttr]
structure Kd where
 num:Int
 mne:List UInt8
 fls:List UInt8
def Kd.pv (k:Kd):PV:= .a [.i .i64 k.num,.s k.mne,.s k.fls]
def ix (l:List Kd):PV:= .l 3 (l.map Kd.pv)
def kds:List Kd:=[⟨1,[65],[52]⟩,⟨2,[78,83],[104]⟩,⟨5,[67,78,65,77,69],[104]⟩,⟨6,[83,79,65],[104,109,118,119,120,121,122]⟩,⟨12,[80,84,82],[104]⟩,⟨15,[77,88],[65,104]⟩,⟨16,[84,88,84],[116]⟩,⟨28,[65,65,65,65],[54]⟩,⟨33,[83,82,86],[65,66,67,104]⟩,⟨39,[68,78,65,77,69],[104]⟩,⟨43,[68,83],[65,98,99,114]⟩,⟨46,[82,82,83,73,71],[65,115,98,120,121,122,70,104,114]⟩,⟨47,[78,83,69,67],[104,110]⟩,⟨48,[68,78,83,75,69,89],[65,98,99,114]⟩]
def Wr (k:Kd):C0 0 k.pv=some (.i .i64 k.num):=rfl
def Wp (k:Kd):C0 1 k.pv=some (.s k.mne):=rfl
def D3 (k:Kd):C0 2 k.pv=some (.s k.fls):=rfl
def Ac1 (k:Kd):J6 0 3 k.pv=some k.pv:=rfl
def P9 (k:Kd):Pb 3 k.pv=some k.pv:=rfl
def Py (l:List Kd):Hg (ix l)=some (.i .i64 (l.length:Int)):=by simp[ix,Hg]
def iz (l:List Kd) (k:IntKind) (z:Int) (h:0<=z):Kf 3 (ix l) (.i k z)=(l[z.toNat]?).map Kd.pv:=by simp[ix,iy _ _ _ _ h]
def pg:S aj 0 []=some [ix kds]:=Ep4 (N:=1) rfl (by kernel_rfl)
def S2 (k:Kd):PV.flat k.pv=true:=rfl
def pp (t:Int):S af 1 [.i .i64 t]=some (match kds.find? (fun k=>decide (k.num=t)) with|some k=>[k.pv,.b true]|none=>[Kd.pv ⟨0,[],[]⟩,.b false]):=by
 refine Fj3 (N:=20) rfl ?_;have key:∀l:List Kd,l.length<=15->Bx6.ev S 20 [.i .i64 t,ix l]=some (match l.find? (fun k=>decide (k.num=t)) with|some k=> .ret [k.pv,.b true]|none=> .yld 0 [.i .i64 0,.s [],.s []]):=by
  intro l hl;refine E8 l (fun i=>[.i .i64 (i:Int),.i .i64 0,.s [],.s []]) (fun i r=>match r.find? (fun k=>decide (k.num=t)) with|some k=> .ret [k.pv,.b true]|none=> .yld 0 [.i .i64 0,.s [],.s []]) rfl (by omega) (fun i c r hd hi hc=> ?_) ?_
  .by_cases h:c.num=t
   .right;simp(disch:=omega)only[Y3,hc,h,Wr,Wp,D3,Ac1,P9,Py,iz,Aq,simprocAttr];simp[h,Out.goes]
   .left;simp(disch:=omega)only[Y3,hc,h,Wr,Wp,D3,Ac1,P9,Py,iz,Aq,simprocAttr];simp[h]
  .simp(disch:=omega)only[Y3,Wr,Wp,D3,Ac1,P9,Py,iz,Aq,simprocAttr];simp[Out.goes]
 have hk:=key kds (by decide);have hkd:=pg;cases h:kds.find? (fun k=>decide (k.num=t)) with
 |some k=>
  rw[h] at hk;simp(disch:=omega)only[Y3,hkd,hk,Py,Aq,simprocAttr]
 |none=>
  rw[h] at hk;simp(disch:=omega)only[Y3,hkd,hk,Py,Aq,simprocAttr];rfl
def qv (t:Int):(kds.find? (fun k=>decide (k.num=t))).isSome=knw t:=by
 rw[Gw,List.find?_isSome];simp[kds,knw]
 grind
def D1 (t:Int):S ah 1 [.i .i64 t]=some [.b (knw t)]:=by
 refine Fj4 (N:=1) rfl ?_;have h:=pp t;have h2:=qv t;cases hk:kds.find? (fun k=>decide (k.num=t)) with
 |some k=>
  rw[hk] at h h2;simp only[Option.isSome_some] at h2;simp(disch:=omega)only[Cl0,h,S2,P9,Aq,simprocAttr];rw[<-h2]
 |none=>
  rw[hk] at h h2;simp only[V3] at h2;simp(disch:=omega)only[Cl0,h,S2,P9,Aq,simprocAttr];rw[<-h2]
def dp (s t:List UInt8) (hs:s.length<=9223372036854775807):S nw 2 [.s s,.s t]=some [.b (t.isPrefixOf s)]:=by
 refine Ep1 (N:=1) rfl ?_;have h:S m8 2 [.s s,.s t]=some [.b (t.isPrefixOf s)]:=by
  refine En0 (N:=1) rfl ?_;by_cases hl:(t.length:Int)<=(s.length:Int)
  .simp(disch:=omega)only[Ch1,hl,Ak,simprocAttr];congr 4;rw[Gw,List.isPrefixOf_iff_prefix,List.prefix_iff_eq_take];simp;exact⟨fun h=>h.symm,fun h=>h.symm⟩
  .simp(disch:=omega)only[Ch1,hl,Ak,simprocAttr];congr 4;rw[eq_comm,Bool.eq_false_iff];intro h;have:=(List.isPrefixOf_iff_prefix.1 h).length_le;omega
 simp(disch:=omega)only[Ey0,h,Ak,simprocAttr]
def Ex (n:List UInt8) (hn:n.length<=9223372036854775807):S N1 1 [.s n]=some [.b (Gl n)]:=by
 refine Et7 (N:=1) rfl ?_;have h1:=C7 n hn;have h2:=dp n [42] hn;unfold Gl;rcases B0 (vld n) with h|h
 .rw[h] at h1;have e:([42]:List UInt8).isPrefixOf n=decide (n[0]? =some 42):=by
   cases n with
   |nil=>rfl
   |cons c r=>rw[Gw];simp[List.isPrefixOf];exact⟨fun h=>h.symm,fun h=>h.symm⟩
  rw[e] at h2;simp(disch:=omega)only[Ch9,h1,h2,h,Ak,simprocAttr];by_cases h3:n[0]? =some 42<;>simp[h3]
 .rw[h] at h1;simp(disch:=omega)only[Ch9,h1,h,Ak,simprocAttr];rfl
def D4 (n m:Int):S Hl 2 [.i .i64 n,.i .i64 m]=some [.b (inB n m)]:=by refine Et5 (N:=1) rfl ?_;unfold inB;by_cases h:0<=n<;>simp(disch:=omega)only[Ez2,h,Ak,simprocAttr]<;>simp
def E3 (s:List UInt8) (hs:s.length<=9223372036854775807):S Vj 1 [.s s]=some [.b (G4 s)]:=by
 refine Et4 (N:=1) rfl ?_;unfold G4;by_cases h:(1:Int)<=(s.length:Int)
 .have h':1<=s.length:=by omega
  simp(disch:=omega)only[Ch7,h,Ak,simprocAttr];by_cases h2:s.length<=255
  .have h3:(s.length:Int)<=255:=by omega
   simp[h',h2,h3]
  .have h3:¬(s.length:Int)<=255:=by omega
   simp[h2,h3]
 .have h':¬1<=s.length:=by omega
  simp(disch:=omega)only[Ch7,h,Ak,simprocAttr];simp[h']
def Dt (d:Dat):S az 1 [Jf d]=some [.b (Ef d)]:=by
 refine Et8 (N:=1) rfl ?_;unfold Ef;rcases B0 d.v6 with h|h
 .simp(disch:=omega)only[zg,h,Ak,simprocAttr];simp
 .by_cases h2:d.hi=0
  .simp(disch:=omega)only[zg,h,h2,Ak,simprocAttr];by_cases h3:d.lo<=4294967295
   .have:d.lo<4294967296:=by omega
    simp[h3,this]
   .have:¬d.lo<4294967296:=by omega
    simp[h3,this]
  .simp(disch:=omega)only[zg,h,h2,Ak,simprocAttr];simp
def D5 (n:Int):S oc 1 [.i .i64 n]=some [.b (inB n 4294967295)]:=by
 refine Et6 (N:=1) rfl ?_;unfold inB;by_cases h:0<=n
 .simp(disch:=omega)only[Ch8,h,Ak,simprocAttr];by_cases h3:n<=4294967295
  .have:n<4294967296:=by omega
   simp[h3,this]
  .have:¬n<4294967296:=by omega
   simp[h3,this]
 .simp(disch:=omega)only[Ch8,h,Ak,simprocAttr];simp
def Cg9:Int:=501935916552294
def E4:S ob 0 []=some [.i .u64 Cg9]:=by
 refine Et3 (N:=20) rfl ?_;have key:Bx2.ev S 20 [ix kds]=some (.yld 0 [.i .u64 Cg9]):=by kernel_rfl
 simp(disch:=omega)only[Ez1,pg,key,Py,Ak,simprocAttr]
def tj (x:Int):∀(k i:Nat),tq x i k=true↔∀j,i<=j->j<i+k->bit x j=1->knw (j:Int)=true
 |0,i=>by simp only[tq,true_iff];intro j h1 h2;omega
 |k+1,i=>by
  simp only[tq,Bt,Cq,Dl,decide_eq_false_iff_not];rw[tj x k (i+1)];constructor
  .rintro⟨h1,h2⟩ j h3 h4 h5;rcases Nat.lt_or_eq_of_le h3 with h|h
   .exact h2 j (by omega) (by omega) h5
   .subst h;rcases h1 with h1|h1
    .exact absurd h5 h1
    .exact h1
  .intro h;refine⟨?_,fun j h1 h2 h3=>h j (by omega) (by omega) h3⟩;by_cases hb:bit x i=1
   .exact .inr (h i (B7 _) (by omega) hb)
   .exact .inl hb
def s8:∀i:Nat,i<64->(BitVec.ofInt 64 Cg9).getLsbD i=knw (i:Int):=by decide
def Bg5 (x:Int) (h0:0<=x) (h1:x<=18446744073709551615) (i:Nat) (hi:i<64):bit x i=1↔(BitVec.ofInt 64 x).getLsbD i=true:=by
 obtain⟨n,rfl⟩:∃n:Nat,x=n:=⟨x.toNat,by omega⟩;have e:BitVec.ofInt 64 (n:Int)=BitVec.ofNat 64 n:=by simp
 rw[e,BitVec.getLsbD_ofNat];simp only[hi,decide_true,Ew9,Nat.testBit_eq_decide_div_mod_eq,decide_eq_true_eq];unfold bit;constructor
 .intro h;have:(((n / 2 ^ i % 2:Nat)):Int)=1:=by push_cast;exact h
  omega
 .intro h;have:(((n / 2 ^ i % 2:Nat)):Int)=1:=by omega
  push_cast at this;exact this
def E9 (x:Int) (h0:0<=x) (h1:x<=18446744073709551615):decide (IntKind.u64.wrap ((BitVec.ofInt IntKind.u64.bits x &&& ~~~ BitVec.ofInt IntKind.u64.bits Cg9).toNat:Int)=0)=tq x 0 64:=by
 have hb:IntKind.u64.bits=64:=rfl;have hw:IntKind.u64.wrap ((BitVec.ofInt 64 x &&& ~~~ BitVec.ofInt 64 Cg9).toNat:Int)=((BitVec.ofInt 64 x &&& ~~~ BitVec.ofInt 64 Cg9).toNat:Int):=by have:=(BitVec.ofInt 64 x &&& ~~~ BitVec.ofInt 64 Cg9).isLt;rw[Fr3]<;>omega
 rw[hb,hw,Gw,decide_eq_true_eq,tj];constructor
 .intro h j _ hj hb1;have hz:(BitVec.ofInt 64 x &&& ~~~ BitVec.ofInt 64 Cg9)=0#64:=BitVec.eq_of_toNat_eq (by simp only[BitVec.toNat_ofNat];omega);have:=congrArg (fun v=>v.getLsbD j) hz;simp only[BitVec.getLsbD_and,BitVec.getLsbD_not,BitVec.getLsbD_zero] at this;rw[(Bg5 x h0 h1 j (by omega)).1 hb1,s8 j (by omega)] at this;have hj':j<64:=by omega
  simpa [hj'] using this
 .intro h;have hz:(BitVec.ofInt 64 x &&& ~~~ BitVec.ofInt 64 Cg9)=0#64:=by
   apply BitVec.eq_of_getLsbD_eq;intro i hi;simp only[BitVec.getLsbD_and,BitVec.getLsbD_not,BitVec.getLsbD_zero];rw[s8 i hi];rcases B0 ((BitVec.ofInt 64 x).getLsbD i) with q|q
   .rw[h i (D9 _) (by omega) ((Bg5 x h0 h1 i hi).2 q)];simp
   .rw[q];rfl
  rw[hz];rfl
def N8 {L:List UInt8} {i:Nat} {c:UInt8} (h:L[i]? =some c):(bytesPV L)[i]? =some (.i .u8 (c.toNat:Int)):=by unfold bytesPV;rw[C4,h];rfl
def Rn (L:List UInt8) (k:IntKind) (z v:Int) (h0:0<=z) (h1:z<(L.length:Int)) (h2:0<=v) (h3:v<256):T2 1 0 [.i .u8 v] (.l 1 (bytesPV L)) (.i k z)=some (.l 1 (bytesPV (L.set z.toNat (UInt8.ofNat v.toNat)))):=by
 have h4:z.toNat<L.length:=by omega
 have h5:=N8 (B4 h4);simp only[T2,h0,h5,and_self,if_true,Bs];have h6:Rp (.i .u8 (((L[z.toNat]'h4).toNat:Nat):Int)) 0 [.i .u8 v]=some (.i .u8 v):=rfl;rw[h6];have h7:((UInt8.ofNat v.toNat).toNat:Int)=v:=Pv v h2 h3;simp only[Cc,bytesPV,List.map_set,h7]
def Lw (n:Int) (h0:0<=n) (h1:n<=1000000):Lx 1 (.i .i64 n) (.i .u8 0)=some (.l 1 (bytesPV (List.replicate n.toNat 0))):=by
 have h2:n<=(LIM:Int):=by simp only[LIM];omega
 have h3:(PV.i .u8 0).cells.length=1:=rfl;simp only[Lx,h0,h2,h3,and_self,if_true];simp[bytesPV]
def Ip (x:Int):IntKind.u8.wrap x=x % 256:=rfl
def Af4 (n k:Nat) (hk:k<n) (B:List UInt8) (c:UInt8):(List.replicate (n - k) 0++B).set (n - 1 - k) c=List.replicate (n - (k+1)) 0++c::B:=by obtain⟨m,hm⟩:∃m,n - k=m+1:=⟨n - k - 1,by omega⟩;rw[hm,show n - 1 - k=m by omega,show n - (k+1)=m by omega,List.replicate_succ',Ck,d9 _ _ (by simp)];simp
def E7 (v:Int) (n:Nat) (hn:n<=1000) (h0:0<=v) (h1:v<=9223372036854775807):S Hv 2 [.i .i64 v,.i .i64 (n:Int)]=some [.s (be v n)]:=by
 refine Et9 (N:=n+2) rfl ?_;have key:Bx3.ev S (n+2) [.i .i64 v,.i .i64 (n:Int)]=some (.yld 0 [.l 1 (bytesPV (be v n))]):=by
  refine Ft n (fun k=>[.i .i64 (v / 256 ^ k),.l 1 (bytesPV (List.replicate (n - k) 0++be v k)),.i .i64 ((n:Int) - 1 - k)]) (fun _=> .yld 0 [.l 1 (bytesPV (be v n))]) ?_ (by omega) (fun k hk=> ?_) ?_
  .simp(disch:=omega)only[Lw,Ak,simprocAttr];simp[be]
  .left;refine⟨?_,rfl⟩;have h2:=Tw v k h0;have h3:=Tx v k h0;have h4:=Tv v k;have hl:(List.replicate (n - k) (0:UInt8)++be v k).length=n:=by rw[Br,Gr,Ds];omega
   obtain⟨c0,hg⟩:∃c0,(bytesPV (List.replicate (n - k) (0:UInt8)++be v k))[n - 1 - k]? =some c0:=⟨_,N8 (B4 (by omega))⟩;have hs:=Af4 n k hk (be v k) (UInt8.ofNat (v / 256 ^ k % 256).toNat);have e1:((n:Int) - 1 - k).toNat=n - 1 - k:=by omega
   have e2:(n:Int) - 1 - ((k+1:Nat):Int)=(n:Int) - 1 - k - 1:=by omega
   have hge:(0:Int)<=(n:Int) - 1 - k:=by omega
   have hsh:bin .shr (.i .i64 (v / 256 ^ k)) (.i .u64 8)=some (.i .i64 (v / 256 ^ (k+1))):=by have:=Tt .i64 .u64 (v / 256 ^ k) 8 (by decide);rw[<-h4];exact this
   have hbe:be v (k+1)=UInt8.ofNat (v / 256 ^ k % 256).toNat::be v k:=rfl;rw[e2,hbe,<-hs];generalize List.replicate (n - k) (0:UInt8)++be v k=L at*;generalize v / 256 ^ (k+1)=w' at*;generalize v / 256 ^ k=w at*;have hset:=Rn L .i64 ((n:Int) - 1 - k) (w % 256) (by omega) (by omega) (by omega) (by omega);rw[e1] at hset;simp(disch:=omega)only[zh,hge,hsh,Ip,e1,hg,hset,Ak,simprocAttr]
  .refine⟨?_,rfl⟩;have hge:¬(0:Int)<=(n:Int) - 1 - n:=by omega
   have e:List.replicate (n - n) (0:UInt8)++be v n=be v n:=by simp
   rw[e];simp(disch:=omega)only[zh,hge,Ak,simprocAttr]
 simp(disch:=omega)only[zh,key,Ak,simprocAttr]
def sy (v:Int) (h0:0<=v) (h1:v<=18446744073709551615):S U7 1 [.i .u64 v]=some [.l 1 (bytesPV (be v 8))]:=by
 refine Ep3 (N:=10) rfl ?_;have hb:∀i,i<8->(be v 8)[i]? =some (UInt8.ofNat (v / 256 ^ (7 - i) % 256).toNat):=by
  intro i hi;have:i=0∨i=1∨i=2∨i=3∨i=4∨i=5∨i=6∨i=7:=by omega
  rcases this with rfl|rfl|rfl|rfl|rfl|rfl|rfl|rfl<;>rfl
 obtain⟨Z,hZ,hr⟩:∃Z:List UInt8,Z=List.replicate 8 0∧Lx 1 (.i .i64 8) (.i .u8 0)=some (.l 1 (bytesPV Z)):=⟨_,rfl,Lw 8 (by decide) (by decide)⟩;have h8:(bytesPV Z).length=8:=by rw[hZ];rfl
 have key:Bw2.ev S 10 [.i .u64 v]=some (.yld 0 [.l 1 (bytesPV (be v 8))]):=by
  refine Ft 8 (fun i=>[.l 1 (bytesPV ((be v 8).take i++List.replicate (8 - i) 0)),.i .i64 (i:Int)]) (fun _=> .yld 0 [.l 1 (bytesPV (be v 8))]) ?_ (by omega) (fun i hi=> ?_) ?_
  .simp(disch:=omega)only[hr,Ak,simprocAttr];rw[hZ];rfl
  .left;refine⟨?_,rfl⟩;have hl:((be v 8).take i++List.replicate (8 - i) (0:UInt8)).length=8:=by rw[Br,Gr,Cv,Ds];omega
   obtain⟨c0,hg⟩:∃c0,(bytesPV ((be v 8).take i++List.replicate (8 - i) (0:UInt8)))[i]? =some c0:=⟨_,N8 (B4 (by omega))⟩;have hs:((be v 8).take i++List.replicate (8 - i) (0:UInt8)).set i (UInt8.ofNat (v / 256 ^ (7 - i) % 256).toNat)=(be v 8).take (i+1)++List.replicate (8 - (i+1)) 0:=by rw[Ep,hb i hi,d9 _ _ (by rw[Cv,Ds];omega),Cv,Ds,show i - min i 8=0 by omega];obtain⟨m,hm⟩:∃m,8 - i=m+1:=⟨7 - i,by omega⟩;rw[hm,show 8 - (i+1)=m by omega];simp[List.replicate_succ]
   have hsh:bin .shr (.i .u64 v) (.i .i64 (56 - 8*(i:Int)))=some (.i .u64 (v / 256 ^ (7 - i))):=by
    have:=Tt .u64 .i64 v (56 - 8*i) (show 56 - 8*i<64 by omega);have e:((56 - 8*i:Nat):Int)=56 - 8*(i:Int):=by omega
    rw[e] at this;rw[this];have:i=0∨i=1∨i=2∨i=3∨i=4∨i=5∨i=6∨i=7:=by omega
    rcases this with rfl|rfl|rfl|rfl|rfl|rfl|rfl|rfl<;>rfl
   have hlt:(i:Int)<8:=by omega
   have ei:(i:Int).toNat=i:=by omega
   generalize v / 256 ^ (7 - i)=w at*;have hset:=Rn ((be v 8).take i++List.replicate (8 - i) (0:UInt8)) .i64 (i:Int) (w % 256) (by omega) (by omega) (by omega) (by omega);rw[ei,hs] at hset;generalize (be v 8).take (i+1)++List.replicate (8 - (i+1)) 0=L' at*;generalize (be v 8).take i++List.replicate (8 - i) (0:UInt8)=L at*;have hlt':(i:Int)<((bytesPV Z).length:Int):=by rw[h8];omega
   simp(disch:=omega)only[zw,hr,hlt',hsh,Ip,ei,hg,hset,Ak,simprocAttr]
  .refine⟨?_,rfl⟩;have hlt:¬((8:Nat):Int)<((bytesPV Z).length:Int):=by rw[h8];omega
   have e:(be v 8).take 8++List.replicate (8 - 8) (0:UInt8)=be v 8:=by rw[Fx (by rw[Ds];omega)];simp
   rw[e];simp(disch:=omega)only[zw,hr,hlt,Ak,simprocAttr]
 simp(disch:=omega)only[zw,hr,key,Ak,simprocAttr]
def tv (d:Dat) (h:d.wf):S og 1 [Jf d]=some (if Ef d=true then [.s (Ml d),.i .i64 0] else [.s [],.i .i64 3]):=by
 refine Fj1 (N:=1) rfl ?_;have h1:=Dt d;have h2:=sy d.hi h.hi.1 h.hi.2;have h3:=sy d.lo h.lo.1 h.lo.2;have l3:(bytesPV (be d.lo 8)).length=8:=by rw[Gk,Ds]
 have ls:J3 1 (.l 1 (bytesPV (be d.lo 8))) (.i .i64 4) (.i .i64 ((bytesPV (be d.lo 8)).length:Int))=some (.l 1 (bytesPV (be d.lo 4))):=by rw[Bk7 _ _ _ _ _ _ (by decide) (by rw[l3];decide) (Ud _)];have:(bytesPV (be d.lo 8)).take (bytesPV (be d.lo 8)).length=bytesPV (be d.lo 8):=D7;simp only[Es,this];rfl
 have b1:=Ds d.hi 8;have b2:=Ds d.lo 8;unfold Ml;rcases B0 (Ef d) with h4|h4
 .rcases B0 d.v6 with h5|h5
  .simp(disch:=omega)only[zl,h1,h2,h3,h4,h5,Ak,simprocAttr]
  .simp(disch:=omega)only[zl,h1,h2,h3,h4,h5,ls,Ak,simprocAttr]
 .simp(disch:=omega)only[zl,h1,h4,Ak,simprocAttr]
def ml (n:List UInt8) (hn:n.length<=9223372036854775807):S ab 1 [.s n]=some [.s (wireN n)]:=by
 refine Fj2 (N:=256) rfl ?_;have h0:=J9 n hn;have hlen:=G8 n;have hw:∀i,(wireL ((lbl n).take i)).length<=64*254:=fun i=>by have h1:=J5 ((lbl n).take i) (fun x hx=>H3 n x (Er hx));rw[Cv] at h1;omega
 have key:Bx5.ev S 256 [.s n,Dv (lbl n)]=some (.yld 0 [.s (wireL (lbl n))]):=by
  refine E8 (lbl n) (fun i=>[.s (wireL ((lbl n).take i)),.i .i64 (i:Int)]) (fun i r=> .yld 0 [.s (wireL (lbl n))]) rfl (by omega) (fun i c r hd hi hc=> ?_) ?_
  .left;have hl:=H4 (H3 n c (Cy hc));have h1:=hw i;have h2:=hw (i+1);have e:wireL ((lbl n).take (i+1))=wireL ((lbl n).take i)++(be (c.length:Int) 1++c):=by rw[Ep,hc];simp[wireL]
   have e0:((c.length:Int) / 256 ^ 0 % 256).toNat=c.length:=by rw[Int.pow_zero,Int.ediv_one];omega
   have e2:be (c.length:Int) 1=[UInt8.ofNat c.length]:=by show [UInt8.ofNat ((c.length:Int) / 256 ^ 0 % 256).toNat]=_;rw[e0]
   have e3:bytesPV [UInt8.ofNat c.length]=[.i .u8 (c.length:Int)]:=by simp[bytesPV];omega
   have e4:=Hy [UInt8.ofNat c.length];rw[e3] at e4;have e5:(c.length:Int) % 256=(c.length:Int):=by omega
   refine⟨?_,rfl⟩;rw[e,e2];generalize wireL ((lbl n).take i)=a at*;have hl2:([UInt8.ofNat c.length]++c).length<=64:=by simp;omega
   have hl3:([UInt8.ofNat c.length]:List UInt8).length=1:=rfl;generalize ([UInt8.ofNat c.length]:List UInt8)=b at*;simp(disch:=omega)only[zm,hc,Ip,e5,e4,Ak,simprocAttr]
  .have e:(lbl n).take (lbl n).length=lbl n:=D7;simp(disch:=omega)only[zm,e,Ak,simprocAttr];simp[Out.goes]
 have h3:=hw (lbl n).length;rw[D7] at h3;have e:wireN n=wireL (lbl n)++[0]:=rfl;rw[e];generalize wireL (lbl n)=a at*;simp(disch:=first|omega|(simp only[Cz,Cm];omega))only[zm,h0,key,Ak,simprocAttr]
end Go.X.G
